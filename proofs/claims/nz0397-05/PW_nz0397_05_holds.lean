import PyProof.Rows.All
import Wide.All
import OpenK.AllK
import Wide.FinOn
import Lean
import PySem.Challenge.RW_nz0397_05
set_option autoImplicit false
set_option linter.unusedVariables false
set_option genSizeOf false
set_option genInjectivity false
set_option maxRecDepth 100000
set_option maxHeartbeats 8000000
set_option Elab.async true
namespace Mine

inductive V where
  | none | bool (b : Bool) | int (i : Int) | str (s : Nat)
  | tup (l : List V) | list (l : List V) | dict (l : List (V × V)) | loc (n : Nat)

noncomputable def encL (l : List Nat) : Nat := l.foldl (fun a c => a * 2097152 + (c + 1)) 0
noncomputable def decL : Nat → Nat → List Nat
  | 0, _ => []
  | k + 1, n => if n = 0 then [] else decL k (n / 2097152) ++ [n % 2097152 - 1]
noncomputable def shortS (s : Nat) : Bool := decide ((decL 1001 s).length ≤ 1000)
noncomputable def catS (a b : Nat) : Nat := (decL 1001 b).foldl (fun a c => a * 2097152 + (c + 1)) a
noncomputable def digs (n : Nat) : List Nat := (Nat.toDigits 10 n).map Char.toNat

mutual
noncomputable def V.beq : V → V → Bool
  | .none, .none => true
  | .bool a, .bool b => a == b
  | .int a, .int b => decide (a = b)
  | .str a, .str b => decide (a = b)
  | .tup a, .tup b => beqs a b
  | .list a, .list b => beqs a b
  | .dict a, .dict b => beqp a b
  | .loc a, .loc b => decide (a = b)
  | _, _ => false
noncomputable def beqs : List V → List V → Bool
  | [], [] => true
  | a :: r, b :: t => V.beq a b && beqs r t
  | _, _ => false
noncomputable def beqp : List (V × V) → List (V × V) → Bool
  | [], [] => true
  | (a, c) :: r, (b, d) :: t => V.beq a b && (V.beq c d && beqp r t)
  | _, _ => false
end

noncomputable def eqOk : Nat → V → Bool
  | _, .none => true
  | _, .int _ => true
  | _, .str _ => true
  | n + 1, .tup l => l.all (eqOk n)
  | n + 1, .list l => l.all (eqOk n)
  | _, _ => false
noncomputable def isBool : V → Bool
  | .bool _ => true
  | _ => false
noncomputable def pyEq (a b : V) : Option Bool :=
  if (eqOk 24 a && eqOk 24 b) || (isBool a && isBool b) then some (V.beq a b) else none
noncomputable def pyIn (x : V) (l : List V) : Option Bool := if l.all (fun y => (pyEq y x).isSome) then some (l.any fun y => V.beq y x) else none

noncomputable def V.truthy : V → Option Bool
  | .bool b => some b
  | _ => Option.none

inductive SObj where
  | inst (c : Nat) (fs : List (Nat × V))
  | dict (es : List (V × V))
  | list (l : List V)
  | dead

noncomputable abbrev St := List SObj

inductive Bop where | add | sub | mul | mod
inductive Cop where | eq | ne | lt | gt | ge | in_ | notIn
inductive Mth where | app | ext | upd | rem
inductive Bi where
  | len | list | tuple | dict | sorted | sortedSet | int | max

inductive Tg where
  | one (i : Nat)
  | many (is : List Nat)

mutual
inductive X where
  | cst (v : V)
  | var (i : Nat)
  | glob (k : Nat)
  | tup (es : List X)
  | list (es : List X)
  | dict (kvs : List X)
  | mut (e : X)
  | attr (e : X) (f : Nat)
  | item (e i : X)
  | sidx (cs : List V) (i : X)
  | sl (e lo hi : X)
  | bin (o : Bop) (a b : X)
  | and (es : List X)
  | or (es : List X)
  | cmp (o : Cop) (a b : X)
  | ite (c a b : X)
  | call (f : Nat) (args : List X)
  | meth (o : X) (m : Nat) (args : List X)
  | new (c : Nat) (args : List X)
  | bi (b : Bi) (args : List X)
  | get (e : X) (args : List X)
  | comp (c : C)
  | fstr (es : List X)
inductive C where
  | elt (e : X)
  | gen (t : Tg) (s : Src) (ifs : List X) (r : C)
inductive Src where
  | val (e : X)
  | range (e : X)
  | enum (e : X)
  | zip (a b : X)
  | items (e : X)
end

inductive Tgt where
  | name (i : Nat)
  | attr (o : X) (f : Nat)
  | item (o k : X)

inductive S where
  | asg (t : Tgt) (e : X)
  | asgT (is : List Nat) (e : X)
  | asgTs (w : Bool) (is : List Nat) (es : List X)
  | mth (m : Mth) (o e : X)
  | expr (e : X)
  | ite (c : X) (a b : List S)
  | for_ (t : Tg) (s : Src) (body : List S)
  | while_ (c : X) (body : List S)
  | ret (e : X)
  | raise

structure FDef where
  params : Nat
  slots : Nat
  body : List S

structure Prog where
  fn : Nat → Option FDef
  meth : Nat → Nat → Option Nat
  init : Nat → Option Nat
  glob : Nat → Option V

noncomputable abbrev REnv := List (Option V)

noncomputable def capL : Nat := 1000000

noncomputable def getA (fs : List (Nat × V)) (f : Nat) : Option V := fs.lookup f
noncomputable def setA : List (Nat × V) → Nat → V → List (Nat × V)
  | [], f, v => [(f, v)]
  | (g, w) :: r, f, v => if g = f then (g, v) :: r else (g, w) :: setA r f v

noncomputable def keyOk : V → Bool
  | .str _ => true
  | _ => false
noncomputable def tupKey : V → Bool
  | .tup l => l.all fun | .str _ => true | _ => false
  | _ => false
noncomputable def dget (k : V) : List (V × V) → Option V
  | [] => none
  | (a, b) :: r => if V.beq a k then some b else dget k r
noncomputable def dset (k v : V) : List (V × V) → List (V × V)
  | [] => [(k, v)]
  | (a, b) :: r => if V.beq a k then (a, v) :: r else (a, b) :: dset k v r

noncomputable def pairUp : List V → List (V × V) → Option (List (V × V))
  | [], d => some d
  | k :: v :: r, d => if keyOk k then pairUp r (dset k v d) else none
  | _, _ => none

noncomputable def idx (n : Nat) (i : Int) : Option Nat :=
  if 0 ≤ i then (if i < n ∧ i ≤ 1000000 then some i.toNat else none) else (if 0 ≤ n + i ∧ -1000000 ≤ i then some (n + i).toNat else none)
noncomputable def clip (n : Nat) (i : Int) : Nat :=
  (max 0 (min (if i < 0 then i + n else i) n)).toNat

noncomputable def rowsI : List (List Int) := (List.range 5).flatMap fun (a : Nat) => [Int.ofNat a] :: (List.range 5).map fun (b : Nat) => [Int.ofNat a, Int.ofNat b]
noncomputable def rowV (k : List Int) : V := .tup (k.map .int)
noncomputable def rowsA : List V := rowsI.map rowV
noncomputable def rowOk (r : V) : Bool := rowsA.any (V.beq r)
noncomputable def sortB (l : List V) : List V := rowsA.filter fun r => l.any fun x => V.beq x r
noncomputable def nodV : List V → Bool
  | [] => true
  | x :: r => !r.any (V.beq x) && nodV r

noncomputable def setMany : List Nat → List V → REnv → REnv
  | i :: is, v :: vs, ρ => setMany is vs (ρ.set i (some v))
  | _, _, ρ => ρ
noncomputable def bindTg (ρ : REnv) : Tg → V → Option REnv
  | .one i, v => some (ρ.set i (some v))
  | .many is, .tup l => if is.length = l.length then some (setMany is l ρ) else none
  | .many _, _ => none
noncomputable def Tg.slots : Tg → List Nat
  | .one i => [i]
  | .many is => is
noncomputable def C.slots : C → List Nat
  | .elt _ => []
  | .gen t _ _ r => t.slots ++ r.slots
noncomputable def clr (is : List Nat) (ρ : REnv) : REnv := is.foldl (fun ρ i => ρ.set i none) ρ

noncomputable def locL : Option SObj → Option (List V)
  | some (.list l) => some l
  | _ => none
noncomputable def locD : Option SObj → Option (List (V × V))
  | some (.dict l) => some l
  | _ => none
noncomputable def asList (σ : St) : V → Option (List V)
  | .tup l => some l
  | .list l => some l
  | .loc n => locL σ[n]?
  | _ => none
noncomputable def asListL : V → Option (List V)
  | .list l => some l
  | _ => none
noncomputable def asListT : V → Option (List V)
  | .tup l => some l
  | _ => none
noncomputable def asDictV : V → Option (List (V × V))
  | .dict l => some l
  | _ => none
noncomputable def locOf : V → Option Nat
  | .loc n => some n
  | _ => none
noncomputable def asDict (σ : St) : V → Option (List (V × V))
  | .dict l => some l
  | .loc n => locD σ[n]?
  | _ => none

noncomputable def still (g : Option Nat) (l : List V) (σ : St) : Prop := match g with
  | none => True
  | some n => σ[n]? = some (.list l)
noncomputable def stO (l : List V) : Option SObj → Bool
  | some (.list k) => beqs k l
  | _ => false
noncomputable def stillB (g : Option Nat) (l : List V) (σ : St) : Bool := match g with
  | none => true
  | some n => stO l σ[n]?
noncomputable def asLst (σ : St) : V → Option (List V)
  | .list l => some l
  | .loc n => locL σ[n]?
  | _ => none
noncomputable def derefO (n : Nat) : Option SObj → V
  | some (.list l) => .list l
  | _ => .loc n
noncomputable def deref (σ : St) : V → V
  | .loc n => derefO n σ[n]?
  | v => v

noncomputable def okLen (l : List V) : Option (List V) := if l.length ≤ capL then some l else none

noncomputable def kvS (k v : V) : Option (Nat × V) := match k with
  | .str s => some (s, v)
  | _ => none
noncomputable def kvL (l : List V) : Option (Nat × V) := match l with
  | [k, v] => kvS k v
  | _ => none
noncomputable def kvOf (x : V) : Option (Nat × V) := match x with
  | .tup l => kvL l
  | _ => none
noncomputable def updD (d : List (V × V)) : List V → Option (List (V × V))
  | [] => some d
  | x :: r => (kvOf x).bind fun p => updD (dset (.str p.1) p.2 d) r
noncomputable def asInt : V → Option Int
  | .int i => some i
  | _ => none
noncomputable def asTup : V → Option (List V)
  | .tup l => some l
  | _ => none
noncomputable def one (l : List V) (f : V → Option V) : Option V := match l with
  | [v] => f v
  | _ => none
noncomputable def lenE (σ : St) (v : V) : Option V := match v with
  | .dict l => if l.length ≤ capL then some (.int l.length) else none
  | v => ((asList σ v).bind okLen).map fun l => .int l.length
noncomputable def dictE (σ : St) (v : V) : Option V := match v with
  | .list l => ((okLen l).bind (updD [])).map .dict
  | v => (asDict σ v).bind fun l => if l.length ≤ capL then some (.dict l) else none
noncomputable def getS (l : List (V × V)) (k v : V) : Option V := match k with
  | .str s => some ((dget (.str s) l).getD v)
  | _ => none
noncomputable def getL (l : List (V × V)) (a : List V) : Option V := match a with
  | [k, v] => getS l k v
  | _ => none
noncomputable def biE (σ : St) (b : Bi) (l : List V) : Option V := match b with
  | .len => one l (lenE σ)
  | .list => one l fun v => ((asList σ v).bind okLen).map .list
  | .tuple => one l fun v => ((asList σ v).bind okLen).map .tup
  | .dict => one l (dictE σ)
  | .sorted => one l fun v => (asListL v).bind fun l => if (l.all rowOk && nodV l) = true then some (.list (sortB l)) else none
  | .sortedSet => one l fun v => (asListL v).bind fun l => if l.all rowOk = true ∧ l.length ≤ capL then some (.list (sortB l)) else none
  | .int => one l fun v => (asInt v).map .int
  | .max => match l with
    | [a, b] => (asInt a).bind fun a => (asInt b).map fun b => .int (if a < b then b else a)
    | _ => none
noncomputable def addE (σ : St) (a b : V) : Option V := match a with
  | .int a => (asInt b).map fun b => .int (a + b)
  | .tup a => (asTup b).bind fun b => (okLen (a ++ b)).map .tup
  | a => (asLst σ a).bind fun a => (asLst σ b).bind fun b => (okLen (a ++ b)).map .list
noncomputable def binE (σ : St) (o : Bop) (a b : V) : Option V := match o with
  | .add => addE σ a b
  | .sub => (asInt a).bind fun a => (asInt b).map fun b => .int (a - b)
  | .mul => (asInt a).bind fun a => (asInt b).bind fun b => if a.natAbs ≤ 1000000 ∧ b.natAbs ≤ 1000000 then some (.int (a * b)) else none
  | .mod => (asInt a).bind fun a => (asInt b).bind fun b => if 0 < b then some (.int (a % b)) else none
noncomputable def inD (k : V) (l : List (V × V)) : Option Bool := if keyOk k then some (dget k l).isSome else if tupKey k && l.isEmpty then some false else none
noncomputable def inE (σ : St) (k d : V) : Option Bool := match asList σ d with
  | some l => pyIn k l
  | none => (asDict σ d).bind (inD k)
noncomputable def cmpI (a b : V) (f : Int → Int → Bool) : Option Bool := (asInt a).bind fun a => (asInt b).map fun b => f a b
noncomputable def cmpE (σ : St) (o : Cop) (a b : V) : Option Bool := match o with
  | .eq => pyEq (deref σ a) (deref σ b)
  | .ne => (pyEq (deref σ a) (deref σ b)).map (!·)
  | .lt => cmpI a b fun a b => decide (a < b)
  | .gt => cmpI a b fun a b => decide (b < a)
  | .ge => cmpI a b fun a b => decide (b ≤ a)
  | .in_ => inE σ a b
  | .notIn => (inE σ a b).map (!·)
noncomputable def itemE (σ : St) (o i : V) : Option V := match i with
  | .int k => (asList σ o).bind fun l => (idx l.length k).bind fun j => l[j]?
  | .str s => (asDict σ o).bind fun d => dget (.str s) d
  | _ => none

noncomputable def strOf : V → Option Nat
  | .str s => if shortS s then some s else none
  | .int i => if (0 ≤ i ∧ i ≤ 1000000) ∧ shortS (encL (digs i.toNat)) = true then some (encL (digs i.toNat)) else none
  | _ => none
noncomputable def methO (P : Prog) (k n : Nat) : Option SObj → Option (Nat × Nat)
  | some (.inst c fs) => if (getA fs n).isSome then none else (P.meth c n).map fun f => (k, f)
  | _ => none
noncomputable def findMeth (P : Prog) (v : V) (n : Nat) (σ : St) : Option (Nat × Nat) := match v with
  | .loc k => methO P k n σ[k]?
  | _ => none

inductive Out where
  | next (ρ : REnv) (σ : St)
  | ret (v : V) (σ : St)

noncomputable def setObjO (k v : V) (n : Nat) (σ : St) : Option SObj → Option St
  | some (.dict d) => if keyOk k && decide (d.length ≤ capL) then some (σ.set n (.dict (dset k v d))) else if tupKey k && d.isEmpty then some (σ.set n .dead) else none
  | _ => none
noncomputable def setObj (o : V) (k v : V) (σ : St) : Option St := match o with
  | .loc n => setObjO k v n σ σ[n]?
  | _ => none
noncomputable def setFldO (f : Nat) (v : V) (n : Nat) (σ : St) : Option SObj → Option St
  | some (.inst c fs) => if decide (fs.length ≤ 1000) then some (σ.set n (.inst c (setA fs f v))) else none
  | _ => none
noncomputable def setFld (o : V) (f : Nat) (v : V) (σ : St) : Option St := match o with
  | .loc n => setFldO f v n σ σ[n]?
  | _ => none
noncomputable def isS : V → Bool
  | .str _ => true
  | _ => false
noncomputable def removeV (v : V) (l : List V) : Option (List V) := if l.all isS && isS v && decide (l.length ≤ capL) then (l.findIdx? fun y => V.beq y v).map fun j => l.eraseIdx j else none
noncomputable def mthO (σ : St) (v : V) (n : Nat) (m : Mth) : Option SObj → Option St
  | some (.list l) => match m with
    | .app => (okLen (l ++ [v])).map fun l => σ.set n (.list l)
    | .ext => (asList σ v).bind fun k => (okLen (l ++ k)).map fun l => σ.set n (.list l)
    | .rem => (removeV v l).map fun l => σ.set n (.list l)
    | .upd => none
  | some (.dict d) => match m with
    | .upd => (asListL v).bind fun l => if d.length + l.length ≤ capL then (updD d l).map fun d => σ.set n (.dict d) else none
    | _ => none
  | _ => none
noncomputable def conO (m : Mth) : Option SObj → Bool
  | some (.list _) => match m with
    | .upd => false
    | _ => true
  | some (.dict _) => match m with
    | .upd => true
    | _ => false
  | _ => false
noncomputable def isCon (m : Mth) (w : V) (σ : St) : Bool := match w with
  | .loc n => conO m σ[n]?
  | _ => false
noncomputable def mthE (m : Mth) (w v : V) (σ : St) : Option St := match w with
  | .loc n => mthO σ v n m σ[n]?
  | _ => none
noncomputable def objOf : V → Option SObj
  | .list l => some (.list l)
  | .dict l => some (.dict l)
  | _ => none

noncomputable def enter (d : FDef) (args : List V) : REnv := args.map some ++ List.replicate (d.slots - args.length) none
noncomputable def oK {α : Type} : Option α → (α → Prop) → Prop
  | some a, k => k a
  | none, _ => False
noncomputable def bK (b : Bool) (p : Prop) : Prop := match b with
  | true => p
  | false => False
noncomputable def iK (b : Bool) (p q : Prop) : Prop := match b with
  | true => p
  | false => q
noncomputable def fldO (f : Nat) : Option SObj → Option V
  | some (.inst _ fs) => getA fs f
  | _ => none
noncomputable def attrE (v : V) (f : Nat) (σ : St) : Option V := match v with
  | .loc n => fldO f σ[n]?
  | _ => none
noncomputable def sidxE (cs : List V) (v : V) : Option V := (asInt v).bind fun k => (idx cs.length k).bind fun j => cs[j]?
noncomputable def cut {α : Type} (l : List α) (lo hi : Option Int) : List α := (l.take (hi.elim l.length (clip l.length))).drop (lo.elim 0 (clip l.length))
noncomputable def cutE (v : V) (lo hi : Option Int) : Option V := match v with
  | .list l => if l.length ≤ capL then some (.list (cut l lo hi)) else none
  | .tup l => if l.length ≤ capL then some (.tup (cut l lo hi)) else none
  | _ => none
noncomputable def endE : V → Option (Option Int)
  | .none => some none
  | .int i => some (some i)
  | _ => none
noncomputable def sliceE (v a h : V) : Option V := (endE a).bind fun a => (endE h).bind fun h => cutE v a h
noncomputable def rangeE (v : V) : Option (List V) := (asInt v).bind fun n => if -1000000 ≤ n ∧ n ≤ 1000000 then some ((List.range n.toNat).map fun (k : Nat) => V.int k) else none

structure TabK where
  call : Nat → List V → St → (V → St → Prop) → Prop

noncomputable def kLoopC0 (st : St → Bool) (bnd : V → Option REnv) (ifs : REnv → St → (Bool → St → Prop) → Prop) (body : List V → REnv → St → (List V → St → Prop) → Prop) : List V → List V → St → (List V → St → Prop) → Prop
  | [], ds, σ, k => bK (st σ) (k ds σ)
  | v :: r, ds, σ, k => bK (st σ) (oK (bnd v) fun ρ => ifs ρ σ fun t σ => iK t (body ds ρ σ fun ds σ => kLoopC0 st bnd ifs body r ds σ k) (kLoopC0 st bnd ifs body r ds σ k))
@[irreducible] noncomputable def kLoopC (st : St → Bool) (bnd : V → Option REnv) (ifs : REnv → St → (Bool → St → Prop) → Prop) (body : List V → REnv → St → (List V → St → Prop) → Prop) (l ds : List V) (σ : St) (k : List V → St → Prop) : Prop := kLoopC0 st bnd ifs body l ds σ k

section
variable (P : Prog) (T : TabK)
mutual
noncomputable def kE : X → REnv → St → (V → St → Prop) → Prop
  | .cst v, _, σ, k => k v σ
  | .var i, ρ, σ, k => oK ((ρ[i]?).bind id) fun v => k v σ
  | .glob g, _, σ, k => oK (P.glob g) fun v => k v σ
  | .tup es, ρ, σ, k => kEs es ρ σ fun l σ => k (.tup l) σ
  | .list es, ρ, σ, k => kEs es ρ σ fun l σ => k (.list l) σ
  | .dict es, ρ, σ, k => kEs es ρ σ fun l σ => oK (pairUp l []) fun d => k (.dict d) σ
  | .mut e, ρ, σ, k => kE e ρ σ fun v σ => oK (objOf v) fun o => k (.loc σ.length) (σ ++ [o])
  | .attr e f, ρ, σ, k => kE e ρ σ fun v σ => oK (attrE v f σ) fun w => k w σ
  | .item e i, ρ, σ, k => kE e ρ σ fun a σ => kE i ρ σ fun b σ => oK (itemE σ a b) fun w => k w σ
  | .sidx cs i, ρ, σ, k => kE i ρ σ fun b σ => oK (sidxE cs b) fun w => k w σ
  | .sl e l h, ρ, σ, k => kE e ρ σ fun a σ => kE l ρ σ fun b σ => kE h ρ σ fun c σ => oK (sliceE a b c) fun w => k w σ
  | .bin o a b, ρ, σ, k => kE a ρ σ fun x σ => kE b ρ σ fun y σ => oK (binE σ o x y) fun w => k w σ
  | .and es, ρ, σ, k => kAnd es ρ σ k
  | .or es, ρ, σ, k => kOr es ρ σ k
  | .cmp o a b, ρ, σ, k => kE a ρ σ fun x σ => kE b ρ σ fun y σ => oK (cmpE σ o x y) fun t => k (.bool t) σ
  | .ite c a b, ρ, σ, k => kE c ρ σ fun t σ => oK t.truthy fun t => iK t (kE a ρ σ k) (kE b ρ σ k)
  | .call f as, ρ, σ, k => kEs as ρ σ fun l σ => T.call f l σ k
  | .meth o n as, ρ, σ, k => kE o ρ σ fun v σ => oK (findMeth P v n σ) fun kf => kEs as ρ σ fun l σ => T.call kf.2 (.loc kf.1 :: l) σ k
  | .new c as, ρ, σ, k => kEs as ρ σ fun l σ => oK (P.init c) fun f => T.call f (.loc σ.length :: l) (σ ++ [.inst c []]) fun r σ' => bK (V.beq r .none) (k (.loc σ.length) σ')
  | .bi b as, ρ, σ, k => kEs as ρ σ fun l σ => oK (biE σ b l) fun w => k w σ
  | .get e as, ρ, σ, k => kE e ρ σ fun d σ => bK (asDict σ d).isSome (kEs as ρ σ fun l σ => oK (asDict σ d) fun d => oK (getL d l) fun w => k w σ)
  | .comp c, ρ, σ, k => kC c [] (clr c.slots ρ) σ fun l σ => k (.list l) σ
  | .fstr es, ρ, σ, k => kFs es 0 ρ σ fun z σ => k (.str z) σ
noncomputable def kEs : List X → REnv → St → (List V → St → Prop) → Prop
  | [], _, σ, k => k [] σ
  | e :: r, ρ, σ, k => kE e ρ σ fun v σ => kEs r ρ σ fun l σ => k (v :: l) σ
noncomputable def kFs : List X → Nat → REnv → St → (Nat → St → Prop) → Prop
  | [], z, _, σ, k => bK (shortS z) (k z σ)
  | e :: r, z, ρ, σ, k => kE e ρ σ fun v σ => oK (strOf v) fun y => bK (shortS (catS z y)) (kFs r (catS z y) ρ σ k)
noncomputable def kAnd : List X → REnv → St → (V → St → Prop) → Prop
  | [], _, _, _ => False
  | e :: r, ρ, σ, k => kE e ρ σ fun v σ => iK r.isEmpty (k v σ) (oK v.truthy fun t => iK t (kAnd r ρ σ k) (k (.bool false) σ))
noncomputable def kOr : List X → REnv → St → (V → St → Prop) → Prop
  | [], _, _, _ => False
  | e :: r, ρ, σ, k => kE e ρ σ fun v σ => iK r.isEmpty (k v σ) (oK v.truthy fun t => iK t (k (.bool true) σ) (kOr r ρ σ k))
noncomputable def kIfs : List X → REnv → St → (Bool → St → Prop) → Prop
  | [], _, σ, k => k true σ
  | e :: r, ρ, σ, k => kE e ρ σ fun v σ => oK v.truthy fun t => iK t (kIfs r ρ σ k) (k false σ)
noncomputable def kSrc : Src → REnv → St → (List V × Option Nat → St → Prop) → Prop
  | .val e, ρ, σ, k => kE e ρ σ fun v σ => oK (asList σ v) fun l => k (l, locOf v) σ
  | .range e, ρ, σ, k => kE e ρ σ fun v σ => oK (rangeE v) fun l => k (l, none) σ
  | .enum e, ρ, σ, k => kE e ρ σ fun v σ => oK (asListL v) fun l => k (((List.range l.length).zip l |>.map fun (q : Nat × V) => V.tup [.int q.1, q.2]), none) σ
  | .zip a b, ρ, σ, k => kE a ρ σ fun v σ => kE b ρ σ fun w σ => oK (asListT v) fun l => oK (asListL w) fun l' => bK (decide (l'.length = l.length)) (k (((l.zip l').map fun (x : V × V) => V.tup [x.1, x.2]), none) σ)
  | .items e, ρ, σ, k => kE e ρ σ fun v σ => oK (asDictV v) fun l => k ((l.map fun (q : V × V) => V.tup [q.1, q.2]), none) σ
noncomputable def kC : C → List V → REnv → St → (List V → St → Prop) → Prop
  | .elt e, ds, ρ, σ, k => kE e ρ σ fun v σ => bK (decide (ds.length ≤ capL)) (k (ds ++ [v]) σ)
  | .gen t s ifs r, ds, ρ, σ, k => kSrc s ρ σ fun lg σ => kLoopC (stillB lg.2 lg.1) (bindTg ρ t) (fun ρ σ k => kIfs ifs ρ σ k) (fun ds ρ σ k => kC r ds ρ σ k) lg.1 ds σ k
end
end

noncomputable def kLoopS (st : St → Bool) (bnd : V → REnv → Option REnv) (body : REnv → St → (Out → Prop) → Prop) : List V → REnv → St → (Out → Prop) → Prop
  | [], ρ, σ, k => bK (st σ) (k (.next ρ σ))
  | v :: r, ρ, σ, k => bK (st σ) (oK (bnd v ρ) fun ρ => body ρ σ fun o => match o with
    | .next ρ σ => kLoopS st bnd body r ρ σ k
    | .ret v σ => k (.ret v σ))
noncomputable def kWhile0 (c : REnv → St → (Bool → St → Prop) → Prop) (body : REnv → St → (Out → Prop) → Prop) : Nat → REnv → St → (Out → Prop) → Prop
  | 0, _, _, _ => False
  | n + 1, ρ, σ, k => c ρ σ fun t σ => iK t (body ρ σ fun o => match o with
    | .next ρ σ => kWhile0 c body n ρ σ k
    | .ret v σ => k (.ret v σ)) (k (.next ρ σ))
@[irreducible] noncomputable def kWhile (c : REnv → St → (Bool → St → Prop) → Prop) (body : REnv → St → (Out → Prop) → Prop) (n : Nat) (ρ : REnv) (σ : St) (k : Out → Prop) : Prop := kWhile0 c body n ρ σ k
noncomputable def rvs {α : Type} (w : Bool) (l : List α) : List α := match w with
  | true => l.reverse
  | false => l

section
variable (P : Prog) (T : TabK)
noncomputable def kAsg (e : X) (ρ : REnv) (σ : St) (k : Out → Prop) : Tgt → Prop
  | .name i => kE P T e ρ σ fun v σ => k (.next (ρ.set i (some v)) σ)
  | .attr o f => kE P T e ρ σ fun v σ => kE P T o ρ σ fun w σ => oK (setFld w f v σ) fun σ => k (.next ρ σ)
  | .item o i => kE P T e ρ σ fun v σ => kE P T o ρ σ fun w σ => kE P T i ρ σ fun j σ => oK (setObj w j v σ) fun σ => k (.next ρ σ)
mutual
noncomputable def kS : S → REnv → St → (Out → Prop) → Prop
  | .asg t e, ρ, σ, k => kAsg P T e ρ σ k t
  | .asgT is e, ρ, σ, k => kE P T e ρ σ fun v σ => oK (bindTg ρ (.many is) v) fun ρ => k (.next ρ σ)
  | .asgTs w is es, ρ, σ, k => kEs P T es ρ σ fun l σ => bK (decide (is.length = l.length)) (k (.next (setMany (rvs w is) (rvs w l) ρ) σ))
  | .mth m o e, ρ, σ, k => kE P T o ρ σ fun w σ => bK (isCon m w σ) (kE P T e ρ σ fun v σ => oK (mthE m w v σ) fun σ => k (.next ρ σ))
  | .expr e, ρ, σ, k => kE P T e ρ σ fun _ σ => k (.next ρ σ)
  | .ite c a b, ρ, σ, k => kE P T c ρ σ fun t σ => oK t.truthy fun t => iK t (kSs a ρ σ k) (kSs b ρ σ k)
  | .for_ t s body, ρ, σ, k => kSrc P T s ρ σ fun lg σ => kLoopS (stillB lg.2 lg.1) (fun v ρ => bindTg ρ t v) (fun ρ σ k => kSs body ρ σ k) lg.1 ρ σ k
  | .while_ c body, ρ, σ, k => kWhile (fun ρ σ k => kE P T c ρ σ fun t σ => oK t.truthy fun t => k t σ) (fun ρ σ k => kSs body ρ σ k) 5000 ρ σ k
  | .ret e, ρ, σ, k => kE P T e ρ σ fun v σ => k (.ret v σ)
  | .raise, _, _, _ => False
noncomputable def kSs : List S → REnv → St → (Out → Prop) → Prop
  | [], ρ, σ, k => k (.next ρ σ)
  | s :: r, ρ, σ, k => kS s ρ σ fun o => match o with
    | .next ρ σ => kSs r ρ σ k
    | .ret v σ => k (.ret v σ)
end
end

noncomputable def outK (k : V → St → Prop) : Out → Prop
  | .next _ σ => k .none σ
  | .ret v σ => k v σ
noncomputable def callK (P : Prog) : Nat → Nat → List V → St → (V → St → Prop) → Prop
  | 0, _, _, _, _ => False
  | n + 1, f, args, σ, k => oK (P.fn f) fun d => bK (decide (args.length = d.params)) (kSs P ⟨callK P n⟩ d.body (enter d args) σ (outK k))
end Mine

namespace Mine
open PySem PySem.W PyProof.Rows

noncomputable abbrev PV := PySem.Value
noncomputable abbrev PE := PySem.Expr
noncomputable abbrev PEnv := PySem.Env

noncomputable def encS (x : Str) : Nat := encL x.cps.toList
noncomputable def strOk (x : Str) : Bool := x.cps.toList.all fun c => decide (c < 1114112)
theorem encL_snoc (l : List Nat) (c : Nat) : encL (l ++ [c]) = encL l * 2097152 + (c + 1) := by
  unfold encL; rw [List.foldl_append, List.foldl_cons, List.foldl_nil]
theorem enc_step {a b c d : Nat} (hc : c < 2097151) (hd : d < 2097151) (h : a * 2097152 + (c + 1) = b * 2097152 + (d + 1)) : a = b ∧ c = d := by omega
theorem enc_rev : ∀ (a b : List Nat), (∀ c ∈ a, c < 2097151) → (∀ c ∈ b, c < 2097151) → encL a.reverse = encL b.reverse → a = b
  | [], [], _, _, _ => rfl
  | [], y :: t, _, _, h => by rw [List.reverse_cons, encL_snoc] at h; exact absurd h (Nat.ne_of_lt (Nat.lt_of_lt_of_le (Nat.succ_pos y) (Nat.le_add_left _ _)))
  | x :: r, [], _, _, h => by rw [List.reverse_cons, encL_snoc] at h; exact absurd h.symm (Nat.ne_of_lt (Nat.lt_of_lt_of_le (Nat.succ_pos x) (Nat.le_add_left _ _)))
  | x :: r, y :: t, ha, hb, h => by
    rw [List.reverse_cons, List.reverse_cons, encL_snoc, encL_snoc] at h
    have e := enc_step (ha x (List.mem_cons_self ..)) (hb y (List.mem_cons_self ..)) h
    rw [e.2, enc_rev r t (fun c hc => ha c (List.mem_cons_of_mem _ hc)) (fun c hc => hb c (List.mem_cons_of_mem _ hc)) e.1]
theorem encS_inj {x y : Str} (hx : strOk x = true) (hy : strOk y = true) (h : encS x = encS y) : x = y := by
  have up : ∀ {z : Str}, strOk z = true → ∀ c ∈ z.cps.toList.reverse, c < 2097151 := fun hz c hc => Nat.lt_trans (of_decide_eq_true (List.all_eq_true.mp hz c (List.mem_reverse.mp hc))) (by decide)
  have e := enc_rev x.cps.toList.reverse y.cps.toList.reverse (up hx) (up hy) (by rw [List.reverse_reverse, List.reverse_reverse]; exact h)
  cases x; cases y
  exact congrArg Str.mk (Array.toList_inj.mp (List.reverse_inj.mp e))

noncomputable abbrev Mp := List (Addr × Addr)
noncomputable def chg (μ : Mp) (a : Addr) : Prop := ∃ p ∈ μ, p.2 = a
noncomputable def IsTp (h : Heap) (a : Addr) (vs : Array PV) : Prop := ∃ k, h.get? a = some { cls := .type "tuple", dict := none, data := .seq vs k, slots := #[] }
noncomputable def IsLs (h : Heap) (a : Addr) (vs : Array PV) : Prop := ∃ k, h.get? a = some { cls := .type "list", dict := none, data := .seq vs k, slots := #[] }
theorem IsTp.tup {h : Heap} {a : Addr} {vs : Array PV} (x : IsTp h a vs) : h.IsTuple a vs := x.elim fun k ho => ⟨_, ho, rfl, k, rfl⟩
theorem IsLs.list {h : Heap} {a : Addr} {vs : Array PV} (x : IsLs h a vs) : h.IsList a vs := x.elim fun k ho => ⟨_, ho, rfl, k, rfl⟩

structure Wd where
  prog : Program
  w : World
  K : Frag
  base : Heap
  fa : Nat → Addr
  ca : Nat → Addr
  nc : Nat
noncomputable abbrev SK (D : Wd) := strKind D.prog D.w
structure Nx where
  μ : Mp
  W : Addr → Prop
  σ : St
  s : Shared
noncomputable def Nx.has (y : Nx) (a : Addr) : Prop := (y.s.heap.get? a).isSome = true
noncomputable def IsDc (D : Wd) (h : Heap) (a : Addr) (kvs : List (Str × PV)) : Prop := 1 < a ∧ h.DictOf (SK D) a kvs

section
variable (D : Wd) (y : Nx)
mutual
noncomputable def RV : V → PV → Prop
  | .none, v => v = .none
  | .bool b, v => v = .bool b
  | .int i, v => ∃ t, v = .int i t
  | .str s, v => ∃ x t, v = .str x t ∧ strOk x = true ∧ encS x = s
  | .tup l, v => ∃ a vs, v = .ref a ∧ y.W a ∧ IsTp y.s.heap a vs ∧ RVs l vs.toList
  | .list l, v => ∃ a vs, v = .ref a ∧ y.W a ∧ IsLs y.s.heap a vs ∧ RVs l vs.toList
  | .dict l, v => ∃ a kvs, v = .ref a ∧ y.W a ∧ IsDc D y.s.heap a kvs ∧ RVd l kvs
  | .loc n, v => ∃ p, v = .ref p.1 ∧ y.μ[n]? = some p
noncomputable def RVs : List V → List PV → Prop
  | [], vs => vs = []
  | d :: r, vs => ∃ v t, vs = v :: t ∧ RV d v ∧ RVs r t
noncomputable def RVd : List (V × V) → List (Str × PV) → Prop
  | [], vs => vs = []
  | (k, d) :: r, vs => ∃ n v t, vs = (n, v) :: t ∧ (k = .str (encS n) ∧ strOk n = true) ∧ RV d v ∧ RVd r t
end
end
structure Le (y z : Nx) : Prop where
  w : ∀ a o, y.W a → y.s.heap.get? a = some o → z.s.heap.get? a = some o ∧ z.W a
  m : ∀ (n : Nat) (p : Addr × Addr), y.μ[n]? = some p → z.μ[n]? = some p
theorem Le.refl (y : Nx) : Le y y := ⟨fun _ _ w e => ⟨e, w⟩, fun _ _ e => e⟩
theorem Le.trans {x y z : Nx} (a : Le x y) (b : Le y z) : Le x z := ⟨fun _ _ w e => b.w _ _ (a.w _ _ w e).2 (a.w _ _ w e).1, fun _ _ e => b.m _ _ (a.m _ _ e)⟩
theorem IsTp.le {y z : Nx} (l : Le y z) {a : Addr} {vs : Array PV} (w : y.W a) (x : IsTp y.s.heap a vs) : z.W a ∧ IsTp z.s.heap a vs := x.elim fun k e => ⟨(l.w _ _ w e).2, k, (l.w _ _ w e).1⟩
theorem IsLs.le {y z : Nx} (l : Le y z) {a : Addr} {vs : Array PV} (w : y.W a) (x : IsLs y.s.heap a vs) : z.W a ∧ IsLs z.s.heap a vs := x.elim fun k e => ⟨(l.w _ _ w e).2, k, (l.w _ _ w e).1⟩
theorem IsDc.at {D : Wd} {h h' : Heap} {a : Addr} {kvs : List (Str × PV)} (x : IsDc D h a kvs) (e : ∀ o, h.get? a = some o → h'.get? a = some o) : IsDc D h' a kvs := ⟨x.1, x.2.at e⟩
theorem IsDc.le {D : Wd} {y z : Nx} (l : Le y z) {a : Addr} {kvs : List (Str × PV)} (w : y.W a) (x : IsDc D y.s.heap a kvs) : z.W a ∧ IsDc D z.s.heap a kvs :=
  ⟨Exists.elim x.2 fun o q => Exists.elim q fun es q => Exists.elim q fun k q => (l.w _ _ w q.1).2, x.at fun o e => (l.w _ _ w e).1⟩
section
variable {D : Wd} {y z : Nx}
mutual
theorem RV_le (l : Le y z) : ∀ (d : V) (v : PV), RV D y d v → RV D z d v
  | .none, v, r => r
  | .bool _, v, r => r
  | .int _, v, r => r
  | .str _, v, r => r
  | .tup k, v, ⟨a, vs, e, w, t, rs⟩ => have q := t.le l w; ⟨a, vs, e, q.1, q.2, RVs_le l k _ rs⟩
  | .list k, v, ⟨a, vs, e, w, t, rs⟩ => have q := t.le l w; ⟨a, vs, e, q.1, q.2, RVs_le l k _ rs⟩
  | .dict k, v, ⟨a, vs, e, w, t, rs⟩ => have q := t.le l w; ⟨a, vs, e, q.1, q.2, RVd_le l k _ rs⟩
  | .loc n, v, ⟨p, e, q⟩ => ⟨p, e, l.m n p q⟩
theorem RVs_le (l : Le y z) : ∀ (d : List V) (v : List PV), RVs D y d v → RVs D z d v
  | [], v, r => r
  | d :: k, v, ⟨u, t, e, r1, r2⟩ => ⟨u, t, e, RV_le l d u r1, RVs_le l k t r2⟩
theorem RVd_le (l : Le y z) : ∀ (d : List (V × V)) (v : List (Str × PV)), RVd D y d v → RVd D z d v
  | [], v, r => r
  | (k, d) :: r, v, ⟨n, u, t, e, k1, r1, r2⟩ => ⟨n, u, t, e, k1, RV_le l d u r1, RVd_le l r t r2⟩
end
theorem RVs_length : ∀ {d : List V} {v : List PV}, RVs D y d v → v.length = d.length
  | [], v, r => congrArg List.length r
  | _ :: l, v, ⟨u, t, e, _, r2⟩ => (congrArg List.length e).trans (congrArg (· + 1) (RVs_length r2))
theorem RVs_get : ∀ {d : List V} {v : List PV}, RVs D y d v → ∀ {i : Nat} {x : V}, d[i]? = some x → ∃ u, v[i]? = some u ∧ RV D y x u
  | [], v, r, i, x, e => nomatch e
  | _ :: l, v, ⟨u, t, e1, r1, _⟩, 0, x, e => ⟨u, by rw [e1]; rfl, Option.some.inj e ▸ r1⟩
  | _ :: l, v, ⟨u, t, e1, _, r2⟩, i + 1, x, e => e1 ▸ RVs_get r2 (i := i) e
theorem RVs_append : ∀ {d : List V} {v : List PV} {d' : List V} {v' : List PV}, RVs D y d v → RVs D y d' v' → RVs D y (d ++ d') (v ++ v')
  | [], v, d', v', r, r' => (show v = [] from r) ▸ r'
  | _ :: l, v, d', v', ⟨u, t, e, r1, r2⟩, r' => ⟨u, t ++ v', congrArg (· ++ v') e, r1, RVs_append r2 r'⟩
theorem RVs_take : ∀ {d : List V} {v : List PV} (n : Nat), RVs D y d v → RVs D y (d.take n) (v.take n)
  | _, _, 0, _ => rfl
  | [], v, n + 1, r => congrArg (List.take (n + 1)) r
  | _ :: l, v, n + 1, ⟨u, t, e, r1, r2⟩ => ⟨u, t.take n, congrArg (List.take (n + 1)) e, r1, RVs_take n r2⟩
theorem RVs_drop : ∀ {d : List V} {v : List PV} (n : Nat), RVs D y d v → RVs D y (d.drop n) (v.drop n)
  | _, _, 0, r => r
  | [], v, n + 1, r => congrArg (List.drop (n + 1)) r
  | _ :: l, v, n + 1, ⟨u, t, e, r1, r2⟩ => e ▸ RVs_drop n r2
end
noncomputable def RC (D : Wd) (y : Nx) (a : Addr) : V → Prop
  | .list l => ∃ vs, IsLs y.s.heap a vs ∧ RVs D y l vs.toList
  | .dict l => ∃ kvs, IsDc D y.s.heap a kvs ∧ RVd D y l kvs
  | _ => False
section
variable (D : Wd) (y : Nx)
noncomputable def FldOk (m : Str → Option PV) (fs : List (Nat × V)) : Prop :=
  ∀ x : Str, strOk x = true → match getA fs (encS x) with
    | some d => ∃ v, m x = some v ∧ RV D y d v
    | none => m x = none
noncomputable def OR (p : Addr × Addr) : SObj → Prop
  | .inst c fs => (c < D.nc ∧ y.s.heap.get? p.1 = some (instObj (D.ca c) p.2)) ∧ p.1 ≠ p.2 ∧ ∃ m ns, y.s.heap.Ns1 p.2 m ∧ FldOk D y m fs ∧ Within m ns ∧ ns.length ≤ fs.length
  | .dict l => p.1 = p.2 ∧ RC D y p.1 (.dict l)
  | .list l => p.1 = p.2 ∧ RC D y p.1 (.list l)
  | .dead => True
structure Sm : Prop where
  gi : ∀ a o, D.base.get? a = some o → y.s.heap.get? a = some o
  big : ∃ a, 1 < a ∧ y.W a
  len : y.μ.length = y.σ.length
  nodup : (y.μ.map (·.2)).Nodup
  new : ∀ p ∈ y.μ, D.base.get? p.2 = none
  apart : ∀ p ∈ y.μ, ∀ q ∈ y.μ, p.1 = q.2 → p.1 = p.2
  wk : ∀ a, y.W a → ¬ chg y.μ a
  wd : ∀ a, y.W a → y.has a
  cs : ∀ a, (D.base.get? a).isSome = true → y.W a
  lt : ∀ p ∈ y.μ, y.has p.1 ∧ y.has p.2
  obj : ∀ (n : Nat) (o : SObj) (p : Addr × Addr), y.σ[n]? = some o → y.μ[n]? = some p → OR D y p o
structure Aft (F : Addr → Prop) (z : Nx) : Prop where
  sm : Sm D z
  le : Le y z
  kp : ∀ a o, y.s.heap.get? a = some o → ¬ chg y.μ a → ¬ F a → z.s.heap.get? a = some o
  ex : ∀ a, y.has a → z.has a
  mn : ∀ p ∈ z.μ, p ∈ y.μ ∨ (¬ y.has p.1 ∧ ¬ y.has p.2)
  wn : ∀ a, z.W a → y.W a ∨ ¬ y.has a
  gens : z.s.gens = y.s.gens
  os : z.s.os = y.s.os
end
structure Pv (y : Nx) (b : Addr) : Prop where
  lt : y.has b
  nw : ¬ y.W b
  nm : ∀ p ∈ y.μ, p.1 ≠ b ∧ p.2 ≠ b
noncomputable def noA : Addr → Prop := fun _ => False
section
variable {D : Wd} {x y z : Nx} {F : Addr → Prop}
theorem RC_le (l : Le y z) {a : Addr} {d : V} (h : ∀ o, y.s.heap.get? a = some o → z.s.heap.get? a = some o) (r : RC D y a d) : RC D z a d := by
  cases d with
  | list k => exact r.elim fun vs q => ⟨vs, q.1.elim fun n e => ⟨n, h _ e⟩, RVs_le l k _ q.2⟩
  | dict k => exact r.elim fun vs q => ⟨vs, q.1.at h, RVd_le l k _ q.2⟩
  | _ => exact r
theorem RC_RV {a : Addr} {d : V} (w : y.W a) (r : RC D y a d) : RV D y d (.ref a) := by
  cases d with
  | list k => exact r.elim fun vs q => ⟨a, vs, rfl, w, q⟩
  | dict k => exact r.elim fun vs q => ⟨a, vs, rfl, w, q⟩
  | _ => exact r.elim
theorem FldOk_le (l : Le y z) {m : Str → Option PV} {fs : List (Nat × V)} (f : FldOk D y m fs) : FldOk D z m fs := fun x hx => by
  have := f x hx
  cases e : getA fs (encS x) with
  | some d => rw [e] at this; exact this.elim fun v q => ⟨v, q.1, RV_le l d v q.2⟩
  | none => rw [e] at this; exact this
theorem OR_le (l : Le y z) {p : Addr × Addr} (h1 : ∀ o, y.s.heap.get? p.1 = some o → z.s.heap.get? p.1 = some o) (h2 : ∀ o, y.s.heap.get? p.2 = some o → z.s.heap.get? p.2 = some o) {o : SObj} (r : OR D y p o) : OR D z p o := by
  cases o with
  | inst c fs => exact ⟨⟨r.1.1, h1 _ r.1.2⟩, r.2.1, r.2.2.elim fun m q => q.elim fun ns q => ⟨m, ns, q.1.at h2, FldOk_le l q.2.1, q.2.2⟩⟩
  | dict k => exact ⟨r.1, RC_le l h1 r.2⟩
  | list k => exact ⟨r.1, RC_le l h1 r.2⟩
  | dead => exact trivial
theorem has_of {a : Addr} {o : Obj} (e : y.s.heap.get? a = some o) : y.has a := Option.isSome_iff_exists.mpr ⟨o, e⟩
theorem has_lt {a : Addr} (h : y.has a) : a < y.s.heap.objs.size := (Option.isSome_iff_exists.mp h).elim fun o e => Heap.lt_size e
theorem Sm.one (m : Sm D y) : 1 < y.s.heap.objs.size := m.big.elim fun a h => Nat.lt_trans h.1 (has_lt (m.wd a h.2))
theorem no_new : ¬ y.has y.s.heap.objs.size := fun h => Nat.lt_irrefl _ (has_lt h)
theorem Aft.refl (s : Sm D y) : Aft D y F y := ⟨s, .refl y, fun _ _ e _ _ => e, fun _ h => h, fun _ h => .inl h, fun _ h => .inl h, rfl, rfl⟩
theorem Aft.chg (a : Aft D y F z) {b : Addr} (l : y.has b) (n : ¬ chg y.μ b) : ¬ chg z.μ b := fun ⟨p, hp, e⟩ => (a.mn p hp).elim (fun h => n ⟨p, h, e⟩) fun h => h.2 (by rw [e]; exact l)
theorem Aft.trans (a : Aft D x F y) (b : Aft D y F z) : Aft D x F z :=
  ⟨b.sm, a.le.trans b.le, fun c o e n f => b.kp c o (a.kp c o e n f) (a.chg (has_of e) n) f, fun c h => b.ex c (a.ex c h), fun p h => (b.mn p h).elim (a.mn p) fun h => .inr ⟨fun g => h.1 (a.ex _ g), fun g => h.2 (a.ex _ g)⟩,
    fun c w => (b.wn c w).elim (a.wn c) fun h => .inr fun g => h (a.ex _ g), b.gens.trans a.gens, b.os.trans a.os⟩
theorem Aft.up (a : Aft D x noA y) : Aft D x F y := ⟨a.sm, a.le, fun c o e n _ => a.kp c o e n id, a.ex, a.mn, a.wn, a.gens, a.os⟩
theorem Aft.hide (a : Aft D y F z) (h : ∀ b, F b → ¬ y.has b) : Aft D y noA z := ⟨a.sm, a.le, fun b o e n _ => a.kp b o e n fun f => h b f (has_of e), a.ex, a.mn, a.wn, a.gens, a.os⟩
theorem Aft.old (a : Aft D y noA z) {b : Addr} {o : Obj} (n : ¬ Mine.chg y.μ b) (e : y.s.heap.get? b = some o) : z.s.heap.get? b = some o := a.kp b o e n id
theorem Pv.go {b : Addr} (p : Pv y b) (a : Aft D y F z) : Pv z b :=
  ⟨a.ex b p.lt, fun w => (a.wn b w).elim p.nw fun h => h p.lt, fun q h => (a.mn q h).elim (p.nm q) fun h => ⟨fun e => h.1 (by rw [e]; exact p.lt), fun e => h.2 (by rw [e]; exact p.lt)⟩⟩
theorem Pv.nc {b : Addr} (p : Pv y b) : ¬ chg y.μ b := fun ⟨q, h, e⟩ => (p.nm q h).2 e
noncomputable def Nx.at (y : Nx) (s : Shared) : Nx := ⟨y.μ, y.W, y.σ, s⟩
theorem has_kept {s : Shared} (k : ∀ b o, y.s.heap.get? b = some o → ¬ F b → s.heap.get? b = some o) {a : Addr} (h : y.has a) (f : ¬ F a) : (y.at s).has a := (Option.isSome_iff_exists.mp h).elim fun o e => Option.isSome_iff_exists.mpr ⟨o, k a o e f⟩
theorem Sm.turn {s : Shared} (m : Sm D y) (hF : ∀ b, F b → Pv y b) (k : ∀ b o, y.s.heap.get? b = some o → ¬ F b → s.heap.get? b = some o) : Le y (y.at s) ∧ Sm D (y.at s) :=
  have l : Le y (y.at s) := ⟨fun a o w e => ⟨k a o e fun f => (hF a f).nw w, w⟩, fun _ _ e => e⟩
  have f1 : ∀ p ∈ y.μ, ¬ F p.1 ∧ ¬ F p.2 := fun p h => ⟨fun f => ((hF _ f).nm p h).1 rfl, fun f => ((hF _ f).nm p h).2 rfl⟩
  have f2 : ∀ a, y.W a → ¬ F a := fun a w f => (hF a f).nw w
  ⟨l, fun a o e => k a o (m.gi a o e) (f2 a (m.cs a (Option.isSome_iff_exists.mpr ⟨o, e⟩))), m.big, m.len, m.nodup, m.new, m.apart, m.wk, fun a w => has_kept k (m.wd a w) (f2 a w), m.cs,
    fun p h => ⟨has_kept k (m.lt p h).1 (f1 p h).1, has_kept k (m.lt p h).2 (f1 p h).2⟩, fun n o p e1 e2 => have h := f1 p (List.mem_of_getElem? e2)
      OR_le l (fun o e => k _ o e h.1) (fun o e => k _ o e h.2) (m.obj n o p e1 e2)⟩
theorem Aft.turn {s : Shared} (m : Sm D y) (hF : ∀ b, F b → Pv y b) (k : ∀ b o, y.s.heap.get? b = some o → ¬ F b → s.heap.get? b = some o) (z : ∀ a, F a → (y.at s).has a) (g : s.gens = y.s.gens) (os : s.os = y.s.os) : Aft D y F (y.at s) :=
  ⟨(m.turn hF k).2, (m.turn hF k).1, fun a o e _ f => k a o e f, fun a h => (Classical.em (F a)).elim (z a) (has_kept k h), fun _ h => .inl h, fun _ h => .inl h, g, os⟩
theorem Aft.turn1 {b : Addr} {h' : Heap} {t : Nat} (m : Sm D y) (p : Pv y b) (k : ∀ c o, c ≠ b → y.s.heap.get? c = some o → h'.get? c = some o) (e : ∃ o, h'.get? b = some o) : Aft D y (fun c => c = b) (y.at { y.s with heap := h', toks := t }) :=
  Aft.turn m (fun c e => e ▸ p) (fun c o e n => k c o n e) (fun a q => by rw [q]; exact Option.isSome_iff_exists.mpr e) rfl rfl
theorem Aft.lose {P : Addr → Prop} {s : Shared} (a : Aft D x F y) (n : ∀ b, P b → ¬ x.has b) (p : ∀ b, P b → Pv y b) (k : ∀ c o, y.s.heap.get? c = some o → ¬ P c → s.heap.get? c = some o) (g : s.gens = y.s.gens) (os : s.os = y.s.os) : Aft D x F (y.at s) :=
  have w := a.sm.turn (F := P) p k
  ⟨w.2, a.le.trans w.1, fun c o e h h' => k c o (a.kp c o e h h') fun q => n c q (has_of e), fun c h => has_kept k (a.ex c h) fun q => n c q h, a.mn, a.wn, g.trans a.gens, os.trans a.os⟩
theorem Aft.then {P : Addr → Prop} (a : Aft D x F y) (b : Aft D y P z) (n : ∀ c, P c → ¬ x.has c) : Aft D x F z :=
  ⟨b.sm, a.le.trans b.le, fun c o e h f => b.kp c o (a.kp c o e h f) (a.chg (has_of e) h) fun q => n c q (has_of e), fun c h => b.ex c (a.ex c h), fun p h => (b.mn p h).elim (a.mn p) fun h => .inr ⟨fun g => h.1 (a.ex _ g), fun g => h.2 (a.ex _ g)⟩,
    fun c w => (b.wn c w).elim (a.wn c) fun h => .inr fun g => h (a.ex _ g), b.gens.trans a.gens, b.os.trans a.os⟩
structure More (y : Nx) (s : Shared) : Prop where
  k : ∀ b o, y.s.heap.get? b = some o → s.heap.get? b = some o
  g : s.gens = y.s.gens
  o : s.os = y.s.os
theorem More.refl (y : Nx) : More y y.s := ⟨fun _ _ e => e, rfl, rfl⟩
theorem More.push {s : Shared} (m : More y s) (o : Obj) : More y { s with heap := s.heap.push o } := ⟨fun b o e => Heap.get?_push_of_some _ (m.k b o e), m.g, m.o⟩
theorem More.toks {s : Shared} (m : More y s) (t : Nat) : More y { s with toks := t } := ⟨m.k, m.g, m.o⟩
theorem More.ex {s : Shared} (m : More y s) (a : Addr) (h : y.has a) : (y.at s).has a := (Option.isSome_iff_exists.mp h).elim fun o g => Option.isSome_iff_exists.mpr ⟨o, m.k a o g⟩
theorem More.aft {s : Shared} (m : More y s) (h : Sm D y) : Aft D y noA (y.at s) := Aft.turn h (fun _ f => f.elim) (fun b o e _ => m.k b o e) (fun _ f => f.elim) m.g m.o
theorem More.no {s : Shared} (m : More y s) : ¬ y.has s.heap.objs.size := fun h => no_new (m.ex _ h)
theorem More.pv {s : Shared} (m : More y s) (h : Sm D y) {b : Addr} {o : Obj} (h1 : ¬ y.has b) (h2 : s.heap.get? b = some o) : Pv (y.at s) b :=
  ⟨Option.isSome_iff_exists.mpr ⟨o, h2⟩, fun w => h1 (h.wd b w), fun p hp => ⟨fun e => h1 (e ▸ (h.lt p hp).1), fun e => h1 (e ▸ (h.lt p hp).2)⟩⟩
noncomputable def Nx.wi (y : Nx) (b : Addr) : Nx := ⟨y.μ, fun a => y.W a ∨ a = b, y.σ, y.s⟩
theorem Le.wi {b : Addr} : Le y (y.wi b) := ⟨fun _ _ w e => ⟨e, .inl w⟩, fun _ _ e => e⟩
theorem Aft.wi {b : Addr} (a : Aft D x F y) (p : Pv y b) (h : ¬ x.has b) : Aft D x F (y.wi b) :=
  have m := a.sm
  ⟨⟨m.gi, m.big.elim fun a h => ⟨a, h.1, .inl h.2⟩, m.len, m.nodup, m.new, m.apart, fun a w => w.elim (m.wk a) fun e => e ▸ p.nc, fun a w => w.elim (m.wd a) fun e => by rw [e]; exact p.lt, fun a h => .inl (m.cs a h), m.lt, fun n o q e1 e2 => OR_le Le.wi (fun _ e => e) (fun _ e => e) (m.obj n o q e1 e2)⟩,
    a.le.trans Le.wi, a.kp, a.ex, a.mn, fun c w => w.elim (a.wn c) fun e => .inr (e ▸ h), a.gens, a.os⟩
noncomputable def Nx.lo (y : Nx) (p : Addr × Addr) (o : SObj) : Nx := ⟨y.μ ++ [p], y.W, y.σ ++ [o], y.s⟩
theorem at_end {α : Type} {l : List α} {x : α} : (l ++ [x])[l.length]? = some x := by rw [List.getElem?_append_right (Nat.le_refl _), Nat.sub_self]; rfl
theorem at_snoc {α : Type} {l : List α} {x z : α} {n : Nat} (e : (l ++ [x])[n]? = some z) : l[n]? = some z ∨ (n = l.length ∧ z = x) := by
  rcases Nat.lt_trichotomy n l.length with h | h | h
  · exact .inl ((List.getElem?_append_left h).symm.trans e)
  · exact .inr ⟨h, Option.some.inj ((h ▸ e).symm.trans at_end)⟩
  · have := (List.getElem?_eq_some_iff.mp e).1
    rw [List.length_append] at this
    exact absurd h (Nat.not_lt.mpr (Nat.le_of_lt_succ this))
theorem Le.lo {p : Addr × Addr} {o : SObj} : Le y (y.lo p o) := ⟨fun _ _ w e => ⟨e, w⟩, fun n q e => (List.getElem?_append_left (List.getElem?_eq_some_iff.mp e).1).trans e⟩
theorem mem_snoc {α : Type} {l : List α} {x z : α} (h : z ∈ l ++ [x]) : z ∈ l ∨ z = x := (List.mem_append.mp h).imp id List.mem_singleton.mp
theorem Aft.lo {p : Addr × Addr} {o : SObj} (a : Aft D x F y) (p1 : Pv y p.1) (p2 : Pv y p.2) (h : ¬ x.has p.1 ∧ ¬ x.has p.2) (hb : D.base.get? p.2 = none) (r : OR D (y.lo p o) p o) : Aft D x F (y.lo p o) := by
  have m := a.sm
  refine ⟨⟨m.gi, m.big, ?_, ?_, fun q h => (mem_snoc h).elim (m.new q) fun e => e ▸ hb, fun q h r h' e => ?_, fun c w ⟨q, h, e⟩ => (mem_snoc h).elim (fun h => m.wk c w ⟨q, h, e⟩) fun g => p2.nw (by rw [← g]; exact e ▸ w), m.wd, m.cs, fun q h => (mem_snoc h).elim (m.lt q) fun e => by rw [e]; exact ⟨p1.lt, p2.lt⟩, fun n o' q e1 e2 => ?_⟩,
    a.le.trans Le.lo, a.kp, a.ex, fun q g => (mem_snoc g).elim (a.mn q) fun e => .inr (e ▸ h), a.wn, a.gens, a.os⟩
  · show (y.μ ++ [p]).length = (y.σ ++ [o]).length
    rw [List.length_append, List.length_append, m.len]; rfl
  · show ((y.μ ++ [p]).map (·.2)).Nodup
    rw [List.map_append]
    refine List.nodup_append.mpr ⟨m.nodup, List.nodup_cons.mpr ⟨List.not_mem_nil, .nil⟩, fun c h1 d h2 e => ?_⟩
    obtain ⟨q, hq, rfl⟩ := List.mem_map.mp h1
    exact (p2.nm q hq).2 (e.trans (List.mem_singleton.mp h2))
  · rcases mem_snoc h with h | g <;> rcases mem_snoc h' with h' | g'
    · exact m.apart q h r h' e
    · exact absurd (g' ▸ e) (p2.nm q h).1
    · exact absurd (g ▸ e).symm (p1.nm r h').2
    · rw [g] at e ⊢; rw [g'] at e; exact e
  · rcases at_snoc e1 with e1 | ⟨e, g⟩ <;> rcases at_snoc e2 with e2 | ⟨e', g'⟩
    · exact OR_le Le.lo (fun _ e => e) (fun _ e => e) (m.obj n o' q e1 e2)
    · exact absurd ((List.getElem?_eq_some_iff.mp e1).1 : n < y.σ.length) (by rw [e', m.len]; exact Nat.lt_irrefl _)
    · exact absurd ((List.getElem?_eq_some_iff.mp e2).1 : n < y.μ.length) (by rw [e, m.len]; exact Nat.lt_irrefl _)
    · rw [g, g']; exact r
end
end Mine

namespace Mine
open PySem PySem.W PyProof.Rows

structure Ck where
  names : List (Str × Nat)
  sc : Scope
noncomputable def isLoc : Option NameKind → Bool
  | some .local => true
  | some .cell => true
  | some .free => true
  | _ => false
noncomputable def At (h : Heap) (env : PEnv) (x : Str) (u : PV) : Prop :=
  (env.kindOf x = some .local ∧ ∃ m, h.Ns env.locals m ∧ m x = some u) ∨
  ((env.kindOf x = some .cell ∨ env.kindOf x = some .free) ∧ ∃ c, env.cells.lookup x = some c ∧ h.IsCell c (some u))
structure Eo (c : Ck) (env : PEnv) (y : Nx) : Prop where
  sc : env.scope = c.sc
  kind : env.scope.kind = .function
  gl : env.globals = mainGlobals
  bi : env.builtins = builtinsNs
  loc : y.has env.locals ∧ ¬ chg y.μ env.locals
  cells : ∀ q ∈ env.cells, y.has q.2 ∧ ¬ chg y.μ q.2
  fr : env.frame.isSome = true
  cx : ∀ x, c.sc.names.lookup x = some .cell ∨ c.sc.names.lookup x = some .free → (env.cells.lookup x).isSome = true
structure Room (n u : Nat) (A : Around) : Prop where
  depth : A.depth + 5 * n + min u 2 + 2 < recursionLimit
  units : A.units + 100 * n + u < cLine
  hand : A.handled = none
structure Bd where
  D : Wd
  P : Prog
  T : TabK
  n : Nat
structure Ev where
  env : PEnv
  A : Around
  ρ : REnv
noncomputable def Fe (D : Wd) (c : Ck) (e : Ev) (y : Nx) : Prop :=
  ∀ x i d, c.names.lookup x = some i → isLoc (e.env.kindOf x) = true → e.ρ[i]? = some (some d) → ∃ u, At y.s.heap e.env x u ∧ RV D y d u
section
variable (B : Bd)
structure Go (u : Nat) (c : Ck) (e : Ev) (y : Nx) : Prop where
  rm : Room B.n u e.A
  eo : Eo c e.env y
  fe : Fe B.D c e y
  sm : Sm B.D y
noncomputable abbrev Val (y : Nx) (d : V) (v : PV) : Prop := RV B.D y d v
noncomputable abbrev Vals (y : Nx) (d : List V) (v : List PV) : Prop := RVs B.D y d v
noncomputable def Wp (e : Ev) (y : Nx) {α : Type} (t : Sem α) (Q : α → Shared → Prop) (E : PV → Shared → Prop) : Prop := wpAny (model B.D.prog B.D.w) e.A t Q E y.s
noncomputable def kX (e : Ev) (y : Nx) (x : X) (K : V → St → Prop) : Prop := kE B.P B.T x e.ρ y.σ K
noncomputable def kXs (e : Ev) (y : Nx) (x : List X) (K : List V → St → Prop) : Prop := kEs B.P B.T x e.ρ y.σ K
noncomputable def TE (u : Nat) (c : Ck) (x : X) (t : PEnv → Sem PV) : Prop :=
  ∀ (e : Ev) (y : Nx) (Q E : PV → Shared → Prop) (K : V → St → Prop), Go B u c e y → kX B e y x K → (∀ d Y v, K d Y.σ → Aft B.D y noA Y → Val B Y d v → Q v Y.s) → Wp B e y (t e.env) Q E
noncomputable def TEs (u : Nat) (c : Ck) (xs : List X) (t : PEnv → Sem (List PV)) : Prop :=
  ∀ (e : Ev) (y : Nx) (Q : List PV → Shared → Prop) (E : PV → Shared → Prop) (K : List V → St → Prop), Go B u c e y → kXs B e y xs K → (∀ d Y v, K d Y.σ → d.length = xs.length → Aft B.D y noA Y → Vals B Y d v → Q v Y.s) → Wp B e y (t e.env) Q E
noncomputable def TB (u : Nat) (c : Ck) (x : X) (t : PEnv → Sem Bool) : Prop :=
  ∀ (e : Ev) (y : Nx) (Q : Bool → Shared → Prop) (E : PV → Shared → Prop) (K : Bool → St → Prop), Go B u c e y → kX B e y x (fun d σ => oK d.truthy fun b => K b σ) → (∀ b Y, K b Y.σ → Aft B.D y noA Y → Q b Y.s) → Wp B e y (t e.env) Q E
noncomputable def TF (u : Nat) (c : Ck) (x : X) (t : PEnv → Sem PV) : Prop :=
  ∀ (e : Ev) (y : Nx) (Q E : PV → Shared → Prop) (K : V → St → Prop), Go B u c e y → kX B e y x K → (∀ d Y a, K d Y.σ → Aft B.D y noA Y → ¬ y.has a → Pv Y a → RC B.D Y a d → Q (.ref a) Y.s) → Wp B e y (t e.env) Q E
end
section
variable {B : Bd} {u : Nat} {c : Ck} {e : Ev} {y Y Z : Nx}
theorem mem_of_lookup {α β : Type} [BEq α] [LawfulBEq α] {x : α} {y : β} : ∀ {l : List (α × β)}, l.lookup x = some y → (x, y) ∈ l
  | (a, b) :: r, e => by
    rw [List.lookup_cons] at e
    by_cases q : (x == a) = true
    · rw [q] at e; cases e; rw [eq_of_beq q]; exact List.mem_cons_self ..
    · rw [Bool.eq_false_iff.mpr q] at e; exact List.mem_cons_of_mem _ (mem_of_lookup e)
theorem Ns_at {h h' : Heap} {a : Addr} {m : Str → Option PV} (n : h.Ns a m) (e : ∀ o, h.get? a = some o → h'.get? a = some o) : h'.Ns a m := n.at e
theorem At.keep {h h' : Heap} {env : PEnv} {x : Str} {u : PV} (a : At h env x u) (k1 : ∀ o, h.get? env.locals = some o → h'.get? env.locals = some o) (k2 : ∀ b o, env.cells.lookup x = some b → h.get? b = some o → h'.get? b = some o) : At h' env x u :=
  a.imp (fun q => ⟨q.1, q.2.elim fun m q => ⟨m, q.1.at k1, q.2⟩⟩) fun q => ⟨q.1, q.2.elim fun b q => ⟨b, q.1, q.2.elim fun o r => ⟨o, k2 b o q.1 r.1, r.2⟩⟩⟩
theorem Eo.go (h : Eo c e.env y) {F : Addr → Prop} (a : Aft B.D y F Y) : Eo c e.env Y :=
  ⟨h.sc, h.kind, h.gl, h.bi, ⟨a.ex _ h.loc.1, a.chg h.loc.1 h.loc.2⟩, fun q hq => ⟨a.ex _ (h.cells q hq).1, a.chg (h.cells q hq).1 (h.cells q hq).2⟩, h.fr, h.cx⟩
theorem Go.to (H : Go B u c e y) (a : Aft B.D y noA Y) : Go B u c e Y := ⟨H.rm, H.eo.go a, fun x i d h1 h2 h3 =>
  (H.fe x i d h1 h2 h3).elim fun w q => ⟨w, q.1.keep (fun o g => a.old H.eo.loc.2 g) fun b o g1 g2 => a.old (H.eo.cells (x, b) (mem_of_lookup g1)).2 g2, RV_le a.le d w q.2⟩, a.sm⟩
theorem Val.on {d : V} {v : PV} {F : Addr → Prop} (a : Aft B.D y F Y) (r : Val B y d v) : Val B Y d v := RV_le a.le d v r
theorem Vals.on {d : List V} {v : List PV} {F : Addr → Prop} (a : Aft B.D y F Y) (r : Vals B y d v) : Vals B Y d v := RVs_le a.le d v r
theorem Go.refl (H : Go B u c e y) : Aft B.D y noA y := Aft.refl H.sm
noncomputable def Nx.tk (y : Nx) (t : Nat) : Nx := y.at { y.s with toks := t }
theorem toks_ok (m : Sm B.D y) (t : Nat) : Aft B.D y noA (y.tk t) := (More.toks (More.refl y) t).aft m
theorem Go.toks (H : Go B u c e y) (t : Nat) : Aft B.D y noA (y.tk t) := toks_ok H.sm t
noncomputable def Nx.psh (y : Nx) (o : Obj) : Nx := y.at { y.s with heap := y.s.heap.push o }
theorem push_at {h : Heap} {o : Obj} (f : o.isFreed = false) : (h.push o).get? h.objs.size = some o := Heap.get?_push_size _ f
theorem push_ok (m : Sm B.D y) {o : Obj} (f : o.isFreed = false) : Aft B.D y noA (y.psh o) ∧ Pv (y.psh o) y.s.heap.objs.size :=
  have w := More.push (More.refl y) o
  ⟨w.aft m, w.pv m no_new (push_at f)⟩
noncomputable def Nx.tre (y : Nx) (o : Obj) : Nx := (y.psh o).wi y.s.heap.objs.size
theorem tre_ok (m : Sm B.D y) {o : Obj} (f : o.isFreed = false) : Aft B.D y noA (y.tre o) := (push_ok m f).1.wi (push_ok m f).2 no_new
theorem len_ok {l : List PV} {k : Nat} (h : l.length ≤ k) (hk : k ≤ 1000000) : l.length ≤ sizeLine := Nat.le_trans h (Nat.le_trans hk (by rw [sizeLine_eq]; decide))
theorem TF.te {x : X} {t : PEnv → Sem PV} (h : TF B u c x t) : TE B u c x t := fun e y Q E K H q z => h e y Q E K H q fun d Y a k f l p r =>
  z d (Y.wi a) _ k (f.wi p l) (RC_RV (.inr rfl) (RC_le Le.wi (fun _ e => e) r))
theorem oK_of {α : Type} {o : Option α} {k : α → Prop} (h : oK o k) {Z : Prop} (z : ∀ a, o = some a → k a → Z) : Z := by
  cases o with
  | none => exact False.elim h
  | some a => exact z a rfl h
theorem obj_of {d : V} {K : SObj → Prop} (h : oK (objOf d) K) {a : Addr} {y : Nx} {D : Wd} (r : RC D y a d) : ∃ o, K o ∧ OR D y (a, a) o := by
  cases d <;> first | exact ⟨_, h, rfl, r⟩ | exact False.elim h
theorem base_none {D : Wd} (m : Sm D y) {b : Addr} (h : ¬ y.has b) : D.base.get? b = none := by
  cases e : D.base.get? b with
  | none => rfl
  | some o => exact absurd (has_of (m.gi b o e)) h
theorem te_mut {x : X} {t : PEnv → Sem PV} (h : TF B u c x t) : TE B u c (.mut x) t := fun e y Q E K H q z => h e y Q E _ H q fun d Y a k f l p r =>
  let ⟨o, k2, w⟩ := obj_of k r
  z (.loc Y.σ.length) (Y.lo (a, a) o) _ k2 (f.lo p p ⟨l, l⟩ (base_none H.sm l) (OR_le Le.lo (fun _ e => e) (fun _ e => e) w)) ⟨(a, a), rfl, by rw [← f.sm.len]; exact at_end⟩

theorem te_none {k : Nat} {p : Pos} : TE B u c (.cst .none) (fun env => eval (.Constant .none k p) env) :=
  fun e y Q E K H q z => wpAny_Constant_none (z .none y _ q H.refl rfl)
theorem te_bool {b : Bool} {k : Nat} {p : Pos} : TE B u c (.cst (.bool b)) (fun env => eval (.Constant (.bool b) k p) env) :=
  fun e y Q E K H q z => wpAny_Constant_bool (z (.bool b) y _ q H.refl rfl)
theorem te_int {i : Int} {k : Nat} {p : Pos} : TE B u c (.cst (.int i)) (fun env => eval (.Constant (.int i) k p) env) :=
  fun e y Q E K H q z => wpAny_Constant_int (z (.int i) (y.tk _) _ q (H.toks _) ⟨_, rfl⟩)
theorem te_neg {j : Int} {k : Nat} {p p' : Pos} : TE B u c (.cst (.int (-j))) (fun env => eval (.UnaryOp .USub (.Constant (.int j) k p) p') env) :=
  fun e y Q E K H q z => UnaryOp_ (wpAny_Constant_int (neg_int (z (.int (-j)) (y.tk _) _ q (H.toks _) ⟨_, rfl⟩)))
theorem te_str {x : Str} {s : Nat} {k : Nat} {p : Pos} (h1 : strOk x = true) (h2 : encS x = s) : TE B u c (.cst (.str s)) (fun env => eval (.Constant (.str x) k p) env) :=
  fun e y Q E K H q z => wpAny_Constant_str (z (.str s) (y.tk _) _ q (H.toks _) ⟨x, _, rfl, h1, h2⟩)
theorem var_of {ρ : REnv} {i : Nat} {v : V} (h : (ρ[i]?).bind id = some v) : ρ[i]? = some (some v) := by
  cases e : ρ[i]? with
  | none => rw [e] at h; cases h
  | some o => rw [e] at h; exact congrArg some h
theorem Eo.kd (h : Eo c e.env y) (x : Str) : e.env.kindOf x = c.sc.names.lookup x := congrArg (fun s : Scope => s.names.lookup x) h.sc
theorem te_var {i : Nat} {x : Str} {p : Pos} (h1 : c.names.lookup x = some i) (h2 : isLoc (c.sc.names.lookup x) = true) (h3 : (x == ("__debug__" : Str)) = false) (h4 : (x == ("__classdict__" : Str)) = false) :
    TE B u c (.var i) (fun env => eval (.Name x p) env) := fun e y Q E K H q z => oK_of q fun v hv hk =>
  (H.fe x i v h1 ((H.eo.kd x).symm ▸ h2) (var_of hv)).elim fun w r =>
    have fin := z v y w hk H.refl r.2
    wpAny_Name (r.1.elim (fun r => r.2.elim fun m n => wpAny_loadName_local H.eo.kind r.1 n.1 n.2 fin) fun r => r.2.elim fun b n =>
      r.1.elim (fun k => wpAny_loadName_cell H.eo.kind k n.1 n.2 fin) fun k => wpAny_loadName_free H.eo.kind k n.1 n.2 fin h4) h3
theorem tes_nil {p : Pos} : TEs B u c [] (fun env => spliced (backTo p (starEach [] env))) :=
  fun e y Q E K H q z => wpAny_pure (z [] y [] q rfl H.refl rfl)
theorem starEach_cons {e : PE} {r : List PE} {env : PEnv} (h : isStarred e = false) : starEach (e :: r) env = (false, eval e env) :: starEach r env := by
  cases e <;> first | rfl | cases h
theorem tes_cons {x : X} {xs : List X} {t : PE} {ts : List PE} {p : Pos} (hs : isStarred t = false) (h1 : TE B u c x (fun env => eval t env)) (h2 : TEs B u c xs (fun env => spliced (backTo p (starEach ts env)))) :
    TEs B u c (x :: xs) (fun env => spliced (backTo p (starEach (t :: ts) env))) := fun e y Q E K H q z => by
  show wpAny _ e.A (spliced (backTo p (starEach (t :: ts) e.env))) Q E y.s
  rw [starEach_cons hs]
  exact Calls.spliced_cons (h1 e y _ E _ H q fun d1 Y v1 k1 a1 r1 => h2 e Y _ E _ (H.to a1) k1 fun d2 Z v2 k2 l2 a2 r2 =>
    z (d1 :: d2) Z _ k2 (congrArg (· + 1) l2) (a1.trans a2) ⟨v1, v2, rfl, Val.on a2 r1, r2⟩)
theorem seq_len {d : List V} {v : List PV} {n : Nat} (r : Vals B y d v) (l : d.length = n) (h : n ≤ 1000) : v.length ≤ sizeLine := len_ok (k := 1000) (by rw [RVs_length r, l]; exact h) (by decide)
theorem te_tup {xs : List X} {ts : List PE} {k : Nat} {p : Pos} (hl : xs.length ≤ 1000) (h1 : TEs B u c xs (fun env => spliced (backTo p (starEach ts env)))) :
    TE B u c (.tup xs) (fun env => eval (.Tuple ts k p) env) := fun e y Q E K H q z =>
  Tuple_ (h1 e y _ E _ H q fun d Y v k1 l1 a r => wpAny_newTuple (z (.tup d) (Y.tre _) _ k1 (a.trans (tre_ok a.sm rfl)) ⟨_, _, rfl, .inr rfl, ⟨_, push_at rfl⟩, Vals.on (tre_ok a.sm rfl) r⟩) (seq_len r l1 hl))
theorem tf_list {xs : List X} {ts : List PE} {p : Pos} (hl : xs.length ≤ 1000) (h1 : TEs B u c xs (fun env => spliced (backTo p (starEach ts env)))) :
    TF B u c (.list xs) (fun env => eval (.List ts p) env) := fun e y Q E K H q z =>
  List_ (h1 e y _ E _ H q fun d Y v k1 l1 a r => wpAny_newList (z (.list d) (Y.psh _) _ k1 (a.trans (push_ok a.sm rfl).1) (fun h => no_new (a.ex _ h)) (push_ok a.sm rfl).2 ⟨_, ⟨_, push_at rfl⟩, Vals.on (push_ok a.sm rfl).1 r⟩) (seq_len r l1 hl))
theorem TB.ite {x x1 x2 : X} {t f g : PE} {p : Pos} (h1 : TB B u c x (fun env => isTrue t env (eval t env))) (h2 : TB B u c x1 (fun env => isTrue f env (eval f env))) (h3 : TB B u c x2 (fun env => isTrue g env (eval g env))) :
    TB B u c (.ite x x1 x2) (fun env => isTrue (.IfExp t f g p) env (eval (.IfExp t f g p) env)) := fun e y Q E K H q z =>
  isTrue_IfExp (h1 e y _ E _ H q fun b Y k1 a => match b, k1 with
    | true, k1 => h2 e Y Q E K (H.to a) k1 fun b2 Z k2 a2 => z b2 Z k2 (a.trans a2)
    | false, k1 => h3 e Y Q E K (H.to a) k1 fun b2 Z k2 a2 => z b2 Z k2 (a.trans a2))
theorem te_ite {x x1 x2 : X} {t f g : PE} {p : Pos} (h1 : TB B u c x (fun env => isTrue t env (eval t env))) (h2 : TE B u c x1 (fun env => eval f env)) (h3 : TE B u c x2 (fun env => eval g env)) :
    TE B u c (.ite x x1 x2) (fun env => eval (.IfExp t f g p) env) := fun e y Q E K H q z =>
  wpAny_bind (h1 e y _ E _ H q fun b Y k1 a => match b, k1 with
    | true, k1 => h2 e Y Q E K (H.to a) k1 fun d2 Z v2 k2 a2 r2 => z d2 Z v2 k2 (a.trans a2) r2
    | false, k1 => h3 e Y Q E K (H.to a) k1 fun d2 Z v2 k2 a2 r2 => z d2 Z v2 k2 (a.trans a2) r2)
noncomputable def plainTest : PE → Bool
  | .UnaryOp _ _ _ => false
  | .BoolOp _ _ _ => false
  | .IfExp _ _ _ _ => false
  | .Compare _ _ _ _ => false
  | _ => true
theorem isTrue_eq {e : PE} {env : PEnv} {whole : Sem PV} (h : plainTest e = true) : isTrue e env whole = (do let v ← whole; standAt e.pos; holding [v] (truthy v)) := by
  cases e <;> first | rfl | exact absurd h Bool.false_ne_true
theorem truthy_of {d : V} {K : Bool → Prop} (h : oK d.truthy K) : ∃ b, d = .bool b ∧ K b := by
  cases d <;> first | exact ⟨_, rfl, h⟩ | exact False.elim h
theorem tb_te {x : X} {t : PE} (he : plainTest t = true) (h : TE B u c x (fun env => eval t env)) : TB B u c x (fun env => isTrue t env (eval t env)) := fun e y Q E K H q z =>
  isTrue_plain (h e y _ E _ H q fun d Y v k1 a r => by
    obtain ⟨b, rfl, k2⟩ := truthy_of k1
    cases (r : v = .bool b)
    exact wpAny_truthy_bool (z b Y k2 a)) (isTrue_eq he)

inductive All2 {α β : Type} (R : α → β → Prop) : List α → List β → Prop
  | nil : All2 R [] []
  | cons {a b l k} : R a b → All2 R l k → All2 R (a :: l) (b :: k)
noncomputable def Bks (o : Bool) (B : Bd) (e : Ev) (y : Nx) (xs : List X) (K : V → St → Prop) : Prop := match o with
  | true => kOr B.P B.T xs e.ρ y.σ K
  | false => kAnd B.P B.T xs e.ρ y.σ K
theorem tb_all (o : Bool) {xs : List X} {ts : List PE} (h : All2 (fun x t => TB B u c x (fun env => isTrue t env (eval t env))) xs ts) : ∀ (e : Ev) (y : Nx) (Q : Bool → Shared → Prop) (E : PV → Shared → Prop) (K : Bool → St → Prop), Go B u c e y →
    Bks o B e y xs (fun d σ => oK d.truthy fun b => K b σ) → (∀ b Y, K b Y.σ → Aft B.D y noA Y → Q b Y.s) → Wp B e y (allTrue (bif o then .Or else .And) ts e.env) Q E := by
  induction h with
  | nil => cases o <;> exact fun e y Q E K H q z => False.elim q
  | cons h1 h2 ih => cases o with
    | false => cases h2 with
      | nil => exact fun e y Q E K H q z => wpAny_allTrue_And_cons (h1 e y _ E _ H q fun b Y k1 a => match b, k1 with
        | true, k1 => wpAny_allTrue_And_nil (z _ Y k1 a)
        | false, k1 => z _ Y k1 a)
      | cons _ _ => exact fun e y Q E K H q z => wpAny_allTrue_And_cons (h1 e y _ E _ H q fun b Y k1 a => match b, k1 with
        | true, k1 => ih e Y Q E K (H.to a) k1 fun b2 Y2 k2 a2 => z b2 Y2 k2 (a.trans a2)
        | false, k1 => z _ Y k1 a)
    | true => cases h2 with
      | nil => exact fun e y Q E K H q z => wpAny_allTrue_Or_cons (h1 e y _ E _ H q fun b Y k1 a => match b, k1 with
        | false, k1 => wpAny_allTrue_Or_nil (z _ Y k1 a)
        | true, k1 => z _ Y k1 a)
      | cons _ _ => exact fun e y Q E K H q z => wpAny_allTrue_Or_cons (h1 e y _ E _ H q fun b Y k1 a => match b, k1 with
        | false, k1 => ih e Y Q E K (H.to a) k1 fun b2 Y2 k2 a2 => z b2 Y2 k2 (a.trans a2)
        | true, k1 => z _ Y k1 a)
theorem tb_and {xs : List X} {ts : List PE} {p : Pos} (h : All2 (fun x t => TB B u c x (fun env => isTrue t env (eval t env))) xs ts) : TB B u c (.and xs) (fun env => isTrue (.BoolOp .And ts p) env (eval (.BoolOp .And ts p) env)) :=
  fun e y Q E K H q z => wpAny_isTrue_BoolOp (tb_all false h e y Q E K H q z)
theorem tb_or {xs : List X} {ts : List PE} {p : Pos} (h : All2 (fun x t => TB B u c x (fun env => isTrue t env (eval t env))) xs ts) : TB B u c (.or xs) (fun env => isTrue (.BoolOp .Or ts p) env (eval (.BoolOp .Or ts p) env)) :=
  fun e y Q E K H q z => wpAny_isTrue_BoolOp (tb_all true h e y Q E K H q z)
theorem te_and {xs : List X} {ts : List PE} {p : Pos} (h : All2 (fun x t => TE B u c x (fun env => eval t env)) xs ts) : TE B u c (.and xs) (fun env => eval (.BoolOp .And ts p) env) := by
  induction h with
  | nil => exact fun e y Q E K H q z => False.elim q
  | cons h1 h2 ih => cases h2 with
    | nil => exact fun e y Q E K H q z => BoolOp_one (h1 e y Q E K H q z)
    | cons _ _ => exact fun e y Q E K H q z => BoolOp_and (h1 e y _ E _ H q fun d Y v k1 a r => by
        obtain ⟨b, rfl, k2⟩ := truthy_of k1
        cases (r : v = .bool b)
        refine wpAny_truthy_bool ?_
        cases b with
        | true => exact ih e Y Q E K (H.to a) k2 fun d2 Y2 v2 k2 a2 r2 => z d2 Y2 v2 k2 (a.trans a2) r2
        | false => exact z (.bool _) Y _ k2 a rfl)
theorem te_or {xs : List X} {ts : List PE} {p : Pos} (h : All2 (fun x t => TE B u c x (fun env => eval t env)) xs ts) : TE B u c (.or xs) (fun env => eval (.BoolOp .Or ts p) env) := by
  induction h with
  | nil => exact fun e y Q E K H q z => False.elim q
  | cons h1 h2 ih => cases h2 with
    | nil => exact fun e y Q E K H q z => BoolOp_one (h1 e y Q E K H q z)
    | cons _ _ => exact fun e y Q E K H q z => BoolOp_or (h1 e y _ E _ H q fun d Y v k1 a r => by
        obtain ⟨b, rfl, k2⟩ := truthy_of k1
        cases (r : v = .bool b)
        refine wpAny_truthy_bool ?_
        cases b with
        | false => exact ih e Y Q E K (H.to a) k2 fun d2 Y2 v2 k2 a2 r2 => z d2 Y2 v2 k2 (a.trans a2) r2
        | true => exact z (.bool _) Y _ k2 a rfl)
theorem te_void {k : Nat} {t : PEnv → Sem PV} (h : B.P.glob k = none) : TE B u c (.glob k) t := fun e y Q E K H q z => by
  have q : oK (B.P.glob k) fun v => K v y.σ := q
  rw [h] at q; exact False.elim q
end
end Mine

namespace Mine
open PySem PySem.W PyProof.Rows

inductive PP : V → PyData → Prop
  | none : PP .none .none
  | bool (b) : PP (.bool b) (.bool b)
  | int (i) : PP (.int i) (.int i)
  | str (x) : strOk x = true → PP (.str (encS x)) (.str x)
  | tup {l ps} : All2 PP l ps → PP (.tup l) (.tuple ps)
  | list {l ps} : All2 PP l ps → PP (.list l) (.list ps)
theorem strOk_of {x : Str} (h : strOk x = true) : PyData.strOk x = true := by
  unfold PyData.strOk
  rw [← Array.all_toList]
  exact h
structure Rd (h : Heap) (n : Nat) (d : V) (v : PV) (p : PyData) : Prop where
  rd : ∃ as, Reads h v p as
  pp : PP d p
  ly : p.canLay0 = true
  dp : p.depth ≤ n
structure Rds (h : Heap) (n : Nat) (d : List V) (v : List PV) (p : List PyData) : Prop where
  rd : ∃ as, ReadsAll h v p as
  pp : All2 PP d p
  ly : PyData.canLayAll0 p = true
  dp : PyData.depthAll p ≤ n
section
variable {D : Wd} {N : Nx} {h : Heap}
theorem Rd.cons {n : Nat} {d : V} {v : PV} {p : PyData} {l : List V} {t : List PV} {ps : List PyData} (a : Rd h n d v p) (b : Rds h n l t ps) : Rds h n (d :: l) (v :: t) (p :: ps) :=
  ⟨a.rd.elim fun as ra => b.rd.elim fun bs rb => ⟨as ++ bs, .cons ra rb⟩, .cons a.pp b.pp, Bool.and_eq_true_iff.mpr ⟨a.ly, b.ly⟩, Nat.max_le.mpr ⟨a.dp, b.dp⟩⟩
noncomputable def cok (n : Nat) (d : V) : Prop := eqOk n d = true ∨ isBool d = true
noncomputable def RA (D : Wd) (N : Nx) : V → PV → Prop
  | .list l, v => ∃ a, v = .ref a ∧ RC D N a (.list l)
  | d, v => RV D N d v
theorem RV.ra {d : V} {v : PV} (r : RV D N d v) : RA D N d v := by
  cases d with
  | list l => exact r.elim fun a q => q.elim fun vs q => ⟨a, q.1, vs, q.2.2⟩
  | _ => exact r
theorem RVs_reads {n : Nat} (ih : ∀ d v, cok n d → RA D N d v → ∃ p, Rd N.s.heap n d v p) : ∀ {l : List V} {vs : List PV}, (∀ d ∈ l, cok n d) → RVs D N l vs → ∃ ps, Rds N.s.heap n l vs ps
  | [], _, _, r => (show _ = [] from r) ▸ ⟨[], ⟨[], .nil⟩, .nil, rfl, Nat.zero_le _⟩
  | d :: l, _, hk, ⟨v, t, e, r1, r2⟩ => (ih d v (hk d (List.mem_cons_self ..)) r1.ra).elim fun p a => (RVs_reads ih (fun e he => hk e (List.mem_cons_of_mem _ he)) r2).elim fun ps b => e ▸ ⟨_, a.cons b⟩
theorem cok_items {n : Nat} {l : List V} (h : l.all (eqOk n) = true) : ∀ d ∈ l, cok n d := fun d m => .inl (List.all_eq_true.mp h d m)
theorem RV_reads : ∀ (n : Nat) (d : V) (v : PV), cok n d → RA D N d v → ∃ p, Rd N.s.heap n d v p
  | n, .none, v, hk, r => (show v = .none from r) ▸ ⟨.none, ⟨[], .none⟩, .none, rfl, Nat.zero_le _⟩
  | n, .bool b, v, hk, r => (show v = .bool b from r) ▸ ⟨.bool b, ⟨[], .bool b⟩, .bool b, rfl, Nat.zero_le _⟩
  | n, .int i, v, hk, ⟨t, e⟩ => e ▸ ⟨.int i, ⟨[], .int i t⟩, .int i, rfl, Nat.zero_le _⟩
  | n, .str s, v, hk, ⟨x, t, e, h1, e2⟩ => e ▸ e2 ▸ ⟨.str x, ⟨[], .str x t⟩, .str x h1, strOk_of h1, Nat.zero_le _⟩
  | n + 1, .tup l, v, hk, ⟨a, vs, e, _, ⟨k, ho⟩, rs⟩ => (RVs_reads (RV_reads n) (cok_items (hk.elim id fun e => nomatch e)) rs).elim fun ps b => b.rd.elim fun as b1 =>
    e ▸ ⟨.tuple ps, ⟨as, .tuple ho rfl rfl b1⟩, .tup b.pp, b.ly, Nat.succ_le_succ b.dp⟩
  | n + 1, .list l, v, hk, ⟨a, e, vs, ⟨k, ho⟩, rs⟩ => (RVs_reads (RV_reads n) (cok_items (hk.elim id fun e => nomatch e)) rs).elim fun ps b => b.rd.elim fun as b1 =>
    e ▸ ⟨.list ps, ⟨a :: as, .list ho rfl rfl b1⟩, .list b.pp, b.ly, Nat.succ_le_succ b.dp⟩
  | 0, .tup l, v, hk, r => hk.elim (fun e => nomatch e) fun e => nomatch e
  | 0, .list l, v, hk, r => hk.elim (fun e => nomatch e) fun e => nomatch e
  | n, .dict l, v, hk, r => by cases n <;> exact hk.elim (fun e => nomatch e) fun e => nomatch e
  | n, .loc l, v, hk, r => by cases n <;> exact hk.elim (fun e => nomatch e) fun e => nomatch e
end
theorem eqOk_bool {n : Nat} {b : Bool} (h : eqOk n (.bool b) = true) : False := by cases n <;> exact nomatch h
theorem eqOk_items {n : Nat} {l : List V} (h : eqOk n (.tup l) = true) : ∃ k, n = k + 1 ∧ l.all (eqOk k) = true := match n, h with
  | k + 1, h => ⟨k, rfl, h⟩
theorem eqOk_items' {n : Nat} {l : List V} (h : eqOk n (.list l) = true) : ∃ k, n = k + 1 ∧ l.all (eqOk k) = true := match n, h with
  | k + 1, h => ⟨k, rfl, h⟩
theorem str_beq {x y : Str} (hx : strOk x = true) (hy : strOk y = true) : (x == y) = decide (encS x = encS y) :=
  Bool.eq_iff_iff.mpr (beq_iff_eq.trans (Iff.trans ⟨fun e => e ▸ rfl, fun e => encS_inj hx hy e⟩ decide_eq_true_iff.symm))
noncomputable def EqvAt (n k : Nat) : Prop := ∀ (d e : V) (p q : PyData), eqOk n d = true → eqOk k e = true → PP d p → PP e q → PyData.eqv p q = V.beq d e
theorem eqv_all {n k : Nat} (ih : EqvAt n k) {l : List V} {ps : List PyData} (a : All2 PP l ps) : ∀ {j : List V} {qs : List PyData}, All2 PP j qs → l.all (eqOk n) = true → j.all (eqOk k) = true → PyData.eqvAll ps qs = beqs l j := by
  induction a with
  | nil => intro j qs b _ _; cases b <;> rfl
  | cons a1 a2 ih2 =>
    intro j qs b h1 h2
    cases b with
    | nil => rfl
    | cons b1 b2 =>
      have h1 := Bool.and_eq_true_iff.mp h1
      have h2 := Bool.and_eq_true_iff.mp h2
      exact congr (congrArg and (ih _ _ _ _ h1.1 h2.1 a1 b1)) (ih2 b2 h1.2 h2.2)
theorem PP_eqv : ∀ (n k : Nat), EqvAt n k := fun n => by
  induction n with
  | zero =>
    intro k d e p q h1 h2 a b
    cases a <;> first | exact absurd h1 Bool.false_ne_true | (cases b <;> first | rfl | exact (eqOk_bool h2).elim | exact str_beq ‹_› ‹_›)
  | succ n ih =>
    intro k d e p q h1 h2 a b
    cases a <;> first | exact absurd h1 Bool.false_ne_true | (cases b <;> first | rfl | exact (eqOk_bool h2).elim | exact str_beq ‹_› ‹_› | (obtain ⟨k, rfl, h2⟩ := eqOk_items h2; exact eqv_all (ih k) ‹_› ‹_› h1 h2) | (obtain ⟨k, rfl, h2⟩ := eqOk_items' h2; exact eqv_all (ih k) ‹_› ‹_› h1 h2))

section
variable {B : Bd} {u : Nat} {c : Ck} {G : Ev} {N Y Z : Nx} {Q E : PV → Shared → Prop}
theorem if_of {α : Type} {p : Prop} [Decidable p] {o : Option α} {K : α → Prop} (h : oK (if p then o else none) K) : p ∧ oK o K := by
  by_cases hp : p
  · rw [if_pos hp] at h; exact ⟨hp, h⟩
  · rw [if_neg hp] at h; exact False.elim h
theorem eqv_bool {a b : V} {p q : PyData} (h1 : isBool a = true) (h2 : isBool b = true) (x : PP a p) (y : PP b q) : PyData.eqv p q = V.beq a b := by
  cases x <;> first | exact absurd h1 Bool.false_ne_true | (cases y <;> first | rfl | exact absurd h2 Bool.false_ne_true)
theorem deref_ok {v : V} {x : PV} (sm : Sm B.D N) (r : Val B N v x) : RA B.D N (deref N.σ v) x := by
  cases v with
  | loc k =>
    obtain ⟨p, rfl, hp⟩ := r
    show RA B.D N (derefO k N.σ[k]?) _
    cases hl : N.σ[k]? with
    | none => exact ⟨p, rfl, hp⟩
    | some o => cases o with
      | list l => exact ⟨p.1, rfl, (sm.obj k _ p hl hp).2⟩
      | _ => exact ⟨p, rfl, hp⟩
  | _ => exact r.ra
theorem eq_sides {a b : V} (h : (pyEq a b).isSome = true) : (eqOk 24 a = true ∧ eqOk 24 b = true) ∨ (isBool a = true ∧ isBool b = true) := by
  by_cases g : ((eqOk 24 a && eqOk 24 b) || (isBool a && isBool b)) = true
  · exact (Bool.or_eq_true_iff.mp g).imp Bool.and_eq_true_iff.mp Bool.and_eq_true_iff.mp
  · rw [pyEq, if_neg g] at h; cases h
theorem eq_ok {a b : V} {x y : PV} {K : Bool → Prop} (sm : Sm B.D N) (e : oK (pyEq (deref N.σ a) (deref N.σ b)) K) (ra : Val B N a x) (rb : Val B N b y) (hu : G.A.units + 24 < cLine) :
    ((∀ r, K r → Q (.bool r) N.s) → Wp B G N (compareOp .Eq x y) Q E) ∧ ((∀ r, K r → Q (.bool (!r)) N.s) → Wp B G N (compareOp .NotEq x y) Q E) := by
  have ra := deref_ok sm ra
  have rb := deref_ok sm rb
  generalize deref N.σ a = a at *
  generalize deref N.σ b = b at *
  have fin : cok 24 a → cok 24 b → (∀ p q, PP a p → PP b q → PyData.eqv p q = V.beq a b) → K (V.beq a b) → ((∀ r, K r → Q (.bool r) N.s) → Wp B G N (compareOp .Eq x y) Q E) ∧ ((∀ r, K r → Q (.bool (!r)) N.s) → Wp B G N (compareOp .NotEq x y) Q E) := fun ca cb hq hK => by
    obtain ⟨p, ⟨as, a1⟩, a2, a3, a4⟩ := RV_reads 24 a x ca ra
    obtain ⟨q, ⟨bs, b1⟩, b2, b3, b4⟩ := RV_reads 24 b y cb rb
    rw [← hq p q a2 b2] at hK
    have un : ∀ n, G.A.units + min p.depth n < cLine := fun n => Nat.lt_of_le_of_lt (Nat.add_le_add_left (Nat.le_trans (Nat.min_le_left _ _) a4) _) hu
    exact ⟨fun z => PySem.SeqAt.eqOverData _ _ _ _ _ _ _ _ _ _ _ _ a1 b1 a3 b3 (un _) (z _ hK), fun z => PySem.SeqAt.neOverData _ _ _ _ _ _ _ _ _ _ _ _ a1 b1 a3 b3 (un _) (z _ hK)⟩
  obtain ⟨h, hK⟩ := if_of e
  exact (Bool.or_eq_true_iff.mp h).elim (fun h => have h := Bool.and_eq_true_iff.mp h; fin (.inl h.1) (.inl h.2) (fun p q => PP_eqv 24 24 a b p q h.1 h.2) hK)
    fun h => have h := Bool.and_eq_true_iff.mp h; fin (.inr h.1) (.inr h.2) (fun p q => eqv_bool h.1 h.2) hK
end
noncomputable def copOf : Cop → CmpOp
  | .eq => .Eq | .ne => .NotEq | .lt => .Lt | .gt => .Gt | .ge => .GtE | .in_ => .In | .notIn => .NotIn
section
variable {D : Wd} {N : Nx}
theorem RVd_get {z : Str} (hz : strOk z = true) {Z : Prop} : ∀ {l : List (V × V)} {kvs : List (Str × PV)}, RVd D N l kvs →
    (dget (.str (encS z)) l = none → valueAt kvs z = none → Z) → (∀ d v, dget (.str (encS z)) l = some d → valueAt kvs z = some v → RV D N d v → Z) → Z
  | [], kvs, r, k1, _ => by cases (r : _ = []); exact k1 rfl rfl
  | (k, d) :: l, kvs, r, k1, k2 => by
    obtain ⟨x, v, t, rfl, ⟨rfl, hx⟩, r1, r2⟩ := r
    by_cases e : x = z
    · subst e
      exact k2 d v (if_pos (decide_eq_true rfl)) (by simp [valueAt]) r1
    · have e1 : dget (.str (encS z)) ((.str (encS x), d) :: l) = dget (.str (encS z)) l := if_neg fun q => e (encS_inj hx hz (of_decide_eq_true q))
      have e2 : valueAt ((x, v) :: t) z = valueAt t z := by simp [valueAt, e]
      rw [e1, e2] at k1
      exact RVd_get hz r2 k1 fun d v h1 h2 => k2 d v (e1.trans h1) (e2.trans h2)
end
section
variable {B : Bd} {u : Nat} {c : Ck} {G : Ev} {N Y Z : Nx} {Q E : PV → Shared → Prop}
theorem oK_map {α β : Type} {o : Option α} {f : α → β} {K : β → Prop} (h : oK (o.map f) K) : oK o fun a => K (f a) := by
  cases o <;> exact h
theorem oK_bind {α β : Type} {o : Option α} {f : α → Option β} {K : β → Prop} (h : oK (o.bind f) K) : oK o fun a => oK (f a) K := by
  cases o <;> exact h
theorem bK_of {b : Bool} {p : Prop} (h : bK b p) : b = true ∧ p := by cases b <;> first | exact ⟨rfl, h⟩ | exact False.elim h
theorem and_l {a b : Bool} (h : (a && b) = true) : a = true := (Bool.and_eq_true_iff.mp h).1
theorem and_r {a b : Bool} (h : (a && b) = true) : b = true := (Bool.and_eq_true_iff.mp h).2
theorem st_of {k : Nat} {p : Addr × Addr} {f : Option SObj → Prop} (sm : Sm B.D N) (hp : N.μ[k]? = some p) (h : f N.σ[k]?) (h0 : f none → False) : ∃ o, f (some o) ∧ OR B.D N p o ∧ N.σ[k]? = some o := by
  cases hl : N.σ[k]? with
  | none => rw [hl] at h; exact (h0 h).elim
  | some o => rw [hl] at h; exact ⟨o, h, sm.obj k o p hl hp, rfl⟩
noncomputable def SqAt (N : Nx) (a : Addr) (vs : Array PV) : Prop := N.s.heap.IsList a vs ∨ N.s.heap.IsTuple a vs
theorem seq_of {v : V} {x : PV} {K : List V → Prop} {Z : Prop} (sm : Sm B.D N) (e : oK (asList N.σ v) K) (r : Val B N v x) (z : ∀ l a vs, K l → x = .ref a → SqAt N a vs → Vals B N l vs.toList → Z) : Z := by
  cases v with
  | tup k => exact r.elim fun a q => q.elim fun vs q => z k a vs e q.1 (.inr q.2.2.1.tup) q.2.2.2
  | list k => exact r.elim fun a q => q.elim fun vs q => z k a vs e q.1 (.inl q.2.2.1.list) q.2.2.2
  | loc k => exact r.elim fun p q => (st_of (f := fun o => oK (locL o) K) sm q.2 e id).elim fun o h => match o, h with
    | .list l, h => h.2.1.2.elim fun vs w => z l p.1 vs h.1 q.1 (.inl w.1.list) w.2
    | .inst _ _, h => h.1.elim
    | .dict _, h => h.1.elim
    | .dead, h => h.1.elim
  | _ => exact False.elim e
theorem SqAt.reads {a : Addr} {vs : Array PV} (ht : SqAt N a vs) {ps : List PyData} {as : List Addr} (r : ReadsAll N.s.heap vs.toList ps as) : (∃ bs, Reads N.s.heap (.ref a) (.list ps) bs) ∨ ∃ bs, Reads N.s.heap (.ref a) (.tuple ps) bs :=
  ht.imp (fun h => h.elim fun o h => h.2.2.elim fun k hd => ⟨_, .list h.1 h.2.1 hd r⟩) fun h => h.elim fun o h => h.2.2.elim fun k hd => ⟨_, .tuple h.1 h.2.1 hd r⟩
theorem dict_of {v : V} {x : PV} {K : List (V × V) → Prop} {Z : Prop} (sm : Sm B.D N) (e : oK (asDict N.σ v) K) (r : Val B N v x) (z : ∀ l a kvs, K l → x = .ref a → IsDc B.D N.s.heap a kvs → RVd B.D N l kvs → Z) : Z := by
  cases v with
  | dict k => exact r.elim fun a q => q.elim fun vs q => z k a vs e q.1 q.2.2.1 q.2.2.2
  | loc k => exact r.elim fun p q => (st_of (f := fun o => oK (locD o) K) sm q.2 e id).elim fun o h => match o, h with
    | .dict l, h => h.2.1.2.elim fun vs w => z l p.1 vs h.1 q.1 w.1 w.2
    | .inst _ _, h => h.1.elim
    | .list _, h => h.1.elim
    | .dead, h => h.1.elim
  | _ => exact False.elim e
theorem not_sys {a : Addr} (h : 1 < a) : (a == sysModules) = false := beq_eq_false_iff_ne.mpr fun e => absurd (e ▸ h : 1 < sysModules) (by decide)
theorem key_of {k : V} {x : PV} (h : keyOk k = true) (r : Val B N k x) : ∃ z t, k = .str (encS z) ∧ strOk z = true ∧ x = .str z t ∧ (SK B.D).is z x = true := by
  cases k with
  | str y => obtain ⟨z, t, rfl, h1, rfl⟩ := r; exact ⟨z, t, rfl, h1, rfl, strKind_is _ _ _ _⟩
  | _ => exact absurd h Bool.false_ne_true
theorem any0 : (#[] : Array PV).any (fun _ => false) = false := by simp
theorem un_lt {k n m : Nat} (h : n + m < cLine) (hk : k ≤ m) : n + k < cLine := Nat.lt_of_le_of_lt (Nat.add_le_add_left hk _) h
noncomputable def Both (B : Bd) (G : Ev) (N : Nx) (E : PV → Shared → Prop) (K : Bool → Prop) (Q : PV → Shared → Prop) (o o' : CmpOp) (x y : PV) : Prop :=
  ((∀ r t, K r → Q (.bool r) (N.tk t).s) → Wp B G N (compareOp o x y) Q E) ∧ ((∀ r t, K r → Q (.bool (!r)) (N.tk t).s) → Wp B G N (compareOp o' x y) Q E)
theorem any_beq {k : V} {p : PyData} (rp : PP k p) {j : List V} {qs : List PyData} (a : All2 PP j qs) : (∀ d ∈ j, (pyEq d k).isSome = true) → (qs.any fun y => PyData.eqv y p) = j.any fun y => V.beq y k := by
  induction a with
  | nil => exact fun _ => rfl
  | cons a1 a2 ih => exact fun h1 => congr (congrArg or ((eq_sides (h1 _ (List.mem_cons_self ..))).elim (fun h => PP_eqv 24 24 _ k _ p h.1 h.2 a1 rp) fun h => eqv_bool h.1 h.2 a1 rp)) (ih fun d m => h1 d (List.mem_cons_of_mem _ m))
theorem in_seq {k : V} {l : List V} {x : PV} {a : Addr} {vs : Array PV} {K : Bool → Prop} (e : oK (pyIn k l) K) (rk : Val B N k x) (rl : Vals B N l vs.toList) (hu : G.A.units + 30 < cLine) (ht : SqAt N a vs) : Both B G N E K Q .In .NotIn x (.ref a) := by
  obtain ⟨h, hK⟩ := if_of e
  have h1 := List.all_eq_true.mp h
  cases l with
  | nil =>
    cases (Array.toList_eq_nil_iff.mp rl : vs = #[])
    have hK : K ((#[] : Array PV).any fun _ => false) := any0.symm ▸ hK
    exact ht.elim (fun il => ⟨fun z => SeqAt.in_listAt (fun _ => false) il (fun y hy => nomatch hy) (z _ N.s.toks hK), fun z => SeqAt.notIn_listAt (fun _ => false) il (fun y hy => nomatch hy) (z _ N.s.toks hK)⟩)
      fun it => ⟨fun z => SeqAt.in_tupleAt (fun _ => false) it (fun y hy => nomatch hy) (z _ N.s.toks hK), fun z => SeqAt.notIn_tupleAt (fun _ => false) it (fun y hy => nomatch hy) (z _ N.s.toks hK)⟩
  | cons d0 l0 =>
    obtain ⟨p, ⟨bs, b1⟩, b2, b3, _⟩ := RV_reads 24 k x ((eq_sides (h1 d0 (List.mem_cons_self ..))).imp (·.2) (·.2)) rk.ra
    obtain ⟨ps, ⟨as, a1⟩, a2, a3, a4⟩ := RVs_reads (RV_reads 24) (fun d hd => (eq_sides (h1 d hd)).imp (·.1) (·.1)) rl
    have hK : K (ps.any fun y => PyData.eqv y p) := (any_beq b2 a2 h1).symm ▸ hK
    rcases ht.reads a1 with ⟨cs, rc⟩ | ⟨cs, rc⟩
    · exact ⟨fun z => SeqAt.in_list_reads rc b1 a3 b3 (by omega) (z _ N.s.toks hK), fun z => SeqAt.notIn_list_reads rc b1 a3 b3 (by omega) (z _ N.s.toks hK)⟩
    · exact ⟨fun z => SeqAt.in_tuple_reads rc b1 a3 b3 (by omega) (z _ N.s.toks hK), fun z => SeqAt.notIn_tuple_reads rc b1 a3 b3 (by omega) (z _ N.s.toks hK)⟩
theorem tup_items : ∀ {l : List V} {vs : List PV}, (l.all fun | .str _ => true | _ => false) = true → Vals B N l vs → ∃ ks, ItemsAre (SK B.D) ks vs
  | [], vs, _, r => (show vs = [] from r) ▸ ⟨[], .nil⟩
  | .str s :: l, vs, h, ⟨v, t, e, ⟨x, tk, e2, _⟩, r2⟩ => (tup_items (and_r h) r2).elim fun ks i => e ▸ e2 ▸ ⟨x :: ks, .cons (strKind_is _ _ _ _) i⟩
theorem tup_key {k : V} {x : PV} (h : tupKey k = true) (r : Val B N k x) : ∃ a ks, x = .ref a ∧ IsTupleKey (SK B.D) N.s.heap ks a := by
  cases k with
  | tup l => obtain ⟨a, vs, rfl, _, ⟨m, ho⟩, rs⟩ := r; exact (tup_items h rs).elim fun ks i => ⟨a, ks, rfl, _, vs, m, ho, rfl, rfl, i⟩
  | _ => exact absurd h Bool.false_ne_true
theorem dict_nil {K : Type} [DecidableEq K] {D : Wd} {kk : HeapKind D.prog D.w K} {h : Heap} {a : Addr} (d : h.DictOf (SK D) a []) : h.DictOfH kk a [] := by
  obtain ⟨o, es, ep, ho, hx, hd, _, hp, _⟩ := d
  refine ⟨o, es, ep, ho, hx, hd, ?_, fun x hx => (nomatch hx), List.nodup_nil⟩
  generalize es.toList = l at hp
  cases hp
  rfl
theorem in_dict {k : V} {l : List (V × V)} {x : PV} {a : Addr} {kvs : List (Str × PV)} {K : Bool → Prop} (e : oK (inD k l) K) (rk : Val B N k x) (t : IsDc B.D N.s.heap a kvs) (rs : RVd B.D N l kvs) (hu : G.A.units + 1 < cLine) : Both B G N E K Q .In .NotIn x (.ref a) := by
  by_cases hk : keyOk k = true
  · have e : K (dget k l).isSome := by rw [inD, if_pos hk] at e; exact e
    obtain ⟨y, tk, rfl, hz, rfl, is⟩ := key_of hk rk
    have e' : K (valueAt kvs y).isSome := RVd_get hz rs (fun h1 h2 => by rw [h1] at e; rw [h2]; exact e) fun d v h1 h2 _ => by rw [h1] at e; rw [h2]; exact e
    exact ⟨fun z => wpAny_in_of is (not_sys t.1) t.2.mapOf (z _ _ e'), fun z => wpAny_notIn_of is (not_sys t.1) t.2.mapOf (z _ _ e')⟩
  · rw [inD, if_neg hk] at e
    obtain ⟨hk, e2⟩ := if_of e
    have e2 : K false := e2
    cases l with
    | nil =>
      cases (rs : kvs = [])
      obtain ⟨c, ks, rfl, ik⟩ := tup_key (and_l hk) rk
      exact ⟨fun z => wpAny_in_heap (knd := tupleKind (SK B.D)) (k := ks) hu ik (not_sys t.1) (dict_nil t.2) (z _ _ e2), fun z => wpAny_notIn_heap (knd := tupleKind (SK B.D)) (k := ks) hu ik (not_sys t.1) (dict_nil t.2) (z _ _ e2)⟩
    | cons _ _ => exact absurd (and_r hk) Bool.false_ne_true
theorem in_ok {a b : V} {x y : PV} {K : Bool → Prop} (sm : Sm B.D N) (e : oK (inE N.σ a b) K) (ra : Val B N a x) (rb : Val B N b y) (hu : G.A.units + 30 < cLine) : Both B G N E K Q .In .NotIn x y := by
  unfold inE at e
  cases hl : asList N.σ b with
  | some l =>
    rw [hl] at e
    exact seq_of (K := fun l => oK (pyIn a l) K) sm (by rw [hl]; exact e) rb fun l c vs e h t rs => h ▸ in_seq e ra rs hu t
  | none =>
    rw [hl] at e
    exact dict_of sm (oK_bind e) rb fun l c vs e h t rs => h ▸ in_dict e ra t rs (un_lt hu (by decide))
theorem asInt_of {v : V} {x : PV} {K : Int → Prop} (e : oK (asInt v) K) (r : Val B N v x) : ∃ i t, x = .int i t ∧ v = .int i ∧ K i := by
  cases v with
  | int i => exact r.elim fun t e1 => ⟨i, t, e1, rfl, e⟩
  | _ => exact False.elim e
theorem cmpI_of {a b : V} {x y : PV} {f : Int → Int → Bool} {K : Bool → Prop} (e : oK (cmpI a b f) K) (ra : Val B N a x) (rb : Val B N b y) : ∃ i t j t', x = .int i t ∧ y = .int j t' ∧ K (f i j) :=
  (asInt_of (oK_bind e) ra).elim fun i q => q.elim fun t q => (asInt_of (oK_map q.2.2) rb).elim fun j w => w.elim fun t' w => ⟨i, t, j, t', q.1, w.1, w.2.2⟩
theorem cmp_ok {o : Cop} {a b : V} {x y : PV} {K : Bool → Prop} (sm : Sm B.D N) (e : oK (cmpE N.σ o a b) K) (ra : Val B N a x) (rb : Val B N b y) (hu : G.A.units + 30 < cLine)
    (z : ∀ r t, K r → Q (.bool r) (N.tk t).s) : Wp B G N (compareOp (copOf o) x y) Q E := by
  cases o with
  | eq => exact (eq_ok sm e ra rb (un_lt hu (by decide))).1 fun r h => z r N.s.toks h
  | ne => exact (eq_ok sm (oK_map e) ra rb (un_lt hu (by decide))).2 fun r h => z (!r) N.s.toks h
  | lt => obtain ⟨i, t, j, t', rfl, rfl, e⟩ := cmpI_of e ra rb; exact lt_int (z _ N.s.toks e)
  | gt => obtain ⟨i, t, j, t', rfl, rfl, e⟩ := cmpI_of e ra rb; exact gt_int (z _ N.s.toks e)
  | ge => obtain ⟨i, t, j, t', rfl, rfl, e⟩ := cmpI_of e ra rb; exact ge_int (z _ N.s.toks e)
  | in_ => exact (in_ok sm e ra rb hu).1 z
  | notIn => exact (in_ok sm (oK_map e) ra rb hu).2 fun r t h => z (!r) t h
theorem Room.un {n u : Nat} {A : Around} (r : Room n u A) {k : Nat} (h : k ≤ u) : A.units + k < cLine := Nat.lt_of_le_of_lt (Nat.add_le_add (Nat.le_add_right _ _) h) r.units
theorem two {x y : X} {l r : PEnv → Sem PV} (h1 : TE B u c x l) (h2 : TE B u c y r) (H : Go B u c G N) {K : V → V → St → Prop} (q : kX B G N x fun a σ => kE B.P B.T y G.ρ σ fun b σ => K a b σ) {Q : PV → PV → Shared → Prop}
    (z : ∀ a b Y v w, K a b Y.σ → Aft B.D N noA Y → Val B Y a v → Val B Y b w → Q v w Y.s) : Wp B G N (l G.env) (fun v s => wpAny (model B.D.prog B.D.w) G.A (r G.env) (Q v) E s) E :=
  h1 G N _ E _ H q fun a Y v k1 a1 r1 => h2 G Y _ E _ (H.to a1) k1 fun b Z w k2 a2 r2 => z a b Z v w k2 (a1.trans a2) (Val.on a2 r1) r2
theorem te_cmp {o : Cop} {x y : X} {l r : PE} {p : Pos} (hu : 30 ≤ u) (hm : behindInMarks (copOf o) r = false) (h1 : TE B u c x (fun env => eval l env)) (h2 : TE B u c y (fun env => eval r env)) :
    TE B u c (.cmp o x y) (fun env => eval (.Compare l [copOf o] [r] p) env) := fun G N Q E K H q z =>
  wpAny_Compare1 (two h1 h2 H q fun a b Y v w k1 a1 r1 r2 => cmp_ok a1.sm k1 r1 r2 (H.rm.un hu) fun r t k2 => z (.bool r) _ _ k2 (a1.trans (toks_ok a1.sm t)) rfl) hm
theorem tb_cmp {o : Cop} {x y : X} {l r : PE} {p : Pos} (hu : 30 ≤ u) (hm : behindInMarks (copOf o) r = false) (h1 : TE B u c x (fun env => eval l env)) (h2 : TE B u c y (fun env => eval r env)) :
    TB B u c (.cmp o x y) (fun env => isTrue (.Compare l [copOf o] [r] p) env (eval (.Compare l [copOf o] [r] p) env)) := fun G N Q E K H q z =>
  wpAny_isTrue_Compare1 (two h1 h2 H q fun a b Y v w k1 a1 r1 r2 => cmp_ok a1.sm k1 r1 r2 (H.rm.un hu) fun r t k2 => wpAny_truthy_bool (z r _ k2 (a1.trans (toks_ok a1.sm t)))) hm
end
end Mine

namespace Mine
open PySem PySem.W PyProof.Rows
theorem if_or {α : Type} {p : Prop} [Decidable p] {o o' : Option α} {K : α → Prop} {Z : Prop} (h : oK (if p then o else o') K) (h1 : p → oK o K → Z) (h2 : ¬ p → oK o' K → Z) : Z := by
  by_cases hp : p
  · rw [if_pos hp] at h; exact h1 hp h
  · rw [if_neg hp] at h; exact h2 hp h
structure Idx (n : Nat) (i : Int) (j : Nat) : Prop where
  lo : -1000000 ≤ i
  hi : i ≤ 1000000
  sq : seqIndex? i n = some j
  at_ : (0 ≤ i ∧ j = i.toNat) ∨ (i < 0 ∧ 0 ≤ i + (n : Int) ∧ j = (i + (n : Int)).toNat)
theorem idx_of {n : Nat} {i : Int} {K : Nat → Prop} (e : oK (idx n i) K) : ∃ j, K j ∧ Idx n i j := by
  refine if_or e (fun h e => ?_) fun h e => ?_ <;> obtain ⟨h2, e⟩ := if_of e
  · refine ⟨_, e, Int.le_trans (by decide) h, h2.2, ?_, .inl ⟨h, rfl⟩⟩
    unfold seqIndex?
    rw [if_neg (Int.not_lt.mpr h)]
    exact if_pos (by simp; omega)
  · have h := Int.not_le.mp h
    rw [Int.add_comm] at h2
    refine ⟨_, e, h2.2, Int.le_trans (Int.le_of_lt h) (by decide), ?_, .inr ⟨h, h2.1, by rw [Int.add_comm]⟩⟩
    unfold seqIndex?
    rw [if_pos h, Int.add_comm (n : Int)]
    exact if_pos (by simp; omega)
section
variable {B : Bd} {u : Nat} {c : Ck} {G : Ev} {N Y Z : Nx} {Q E : PV → Shared → Prop}
theorem RVs_at {d : List V} {vs : Array PV} (r : Vals B N d vs.toList) {i : Nat} {K : V → Prop} (e : oK d[i]? K) : ∃ x v, K x ∧ vs[i]? = some v ∧ Val B N x v :=
  oK_of e fun x hx k => (RVs_get r hx).elim fun v q => ⟨x, v, k, Array.getElem?_toList.symm.trans q.1, q.2⟩
theorem item_ok {value slice : PE} {o i : V} {x y : PV} {K : V → Prop} (sm : Sm B.D N) (e : oK (itemE N.σ o i) K) (ro : Val B N o x) (ri : Val B N i y) (hs : subscripted slice false x y = operate [x, y] (getItem x y))
    (z : ∀ d t v, K d → Val B N d v → Q v (N.tk t).s) : Wp B G N (subscriptTail value slice x y) Q E := by
  cases i with
  | int k =>
    obtain ⟨t, rfl⟩ := ri
    refine seq_of sm (oK_bind e) ro fun l a vs e hx il rs => ?_
    subst hx
    obtain ⟨j, e, I⟩ := idx_of (oK_bind e)
    obtain ⟨d, v, e, hv, rv⟩ := RVs_at rs e
    have fin := z d N.s.toks v e rv
    have ln : l.length = vs.size := (RVs_length rs).symm.trans Array.length_toList
    refine il.elim (fun il => tail_any il.typeIs slot_list_getitem.lookup (I.at_.elim (fun c => ?_) fun c => ?_) hs) fun it => tail_any it.typeIs slot_tuple_getitem.lookup (getItem_tuple it (Int.lt_of_lt_of_le (by decide) I.lo |> Int.le_of_lt) (Int.lt_of_le_of_lt I.hi (by decide)) (ln ▸ I.sq) hv fin) hs
    · exact wpAny_getItem_list il c.1 (Int.lt_of_le_of_lt I.hi (by decide)) (c.2 ▸ hv) fin
    · exact wpAny_getItem_list_neg il c.1 (by rw [← ln]; have := c.2.1; omega) (Int.lt_of_lt_of_le (by decide) I.lo |> Int.le_of_lt) (ln ▸ c.2.2 ▸ hv) fin
  | str k =>
    obtain ⟨n, tk, rfl, hz, rfl⟩ := ri
    refine dict_of sm (oK_bind e) ro fun l a kvs e hx t rs => ?_
    subst hx
    exact RVd_get hz rs (fun h1 _ => by rw [h1] at e; exact False.elim e) fun d v h1 h2 rv => by
      rw [h1] at e
      exact tail_any t.2.typeIs slot_dict_getitem.lookup (wpAny_getItem_of (strKind_is _ _ _ _) t.2.mapOf h2 (z d _ v e rv)) hs
  | _ => exact False.elim e
noncomputable def notSlice : PE → Bool
  | .Slice _ _ _ _ => false
  | _ => true
theorem subscripted_plain {slice : PE} {o i : PV} (h : notSlice slice = true) : subscripted slice false o i = operate [o, i] (getItem o i) := by
  cases slice <;> first | rfl | exact absurd h Bool.false_ne_true
theorem te_item {x y : X} {e f : PE} {p : Pos} (hs : notSlice f = true) (h1 : TE B u c x (fun env => eval e env)) (h2 : TE B u c y (fun env => eval f env)) :
    TE B u c (.item x y) (fun env => eval (.Subscript e f p) env) := fun G N Q E K H q z =>
  Subscript_ (two h1 h2 H q fun a b Y v w k1 a1 r1 r2 => item_ok a1.sm k1 r1 r2 (subscripted_plain hs) fun d t v k2 rv => z d _ v k2 (a1.trans (toks_ok a1.sm t)) (Val.on (toks_ok a1.sm t) rv))
theorem te_sidx {x : Str} {cs : List V} {y : X} {f : PE} {k : Nat} {p0 p : Pos} (hx : strOk x = true) (hc : cs = x.cps.toList.map fun c => V.str (encL [c])) (hs : notSlice f = true) (h : TE B u c y (fun env => eval f env)) :
    TE B u c (.sidx cs y) (fun env => eval (.Subscript (.Constant (.str x) k p0) f p) env) := fun G N Q E K H q z =>
  have tk := H.toks (N.s.toks + 1)
  Subscript_ (wpAny_Constant_str (h G (N.tk (N.s.toks + 1)) _ E _ (H.to tk) q fun d1 Y v k1 a r => by
    obtain ⟨i, t, rfl, rfl, k1⟩ := asInt_of (oK_bind k1) r
    obtain ⟨j, k1, I⟩ := idx_of (oK_bind k1)
    subst hc
    have sq := I.sq
    rw [List.length_map] at sq
    rw [List.getElem?_map] at k1
    refine oK_of (oK_map k1) fun cc ec k1 => ?_
    have hlen : x.length = x.cps.toList.length := (Array.length_toList).symm
    refine tail_any (typeIs_str _ _ _) F.slot_str_getitem.lookup (PySem.P.getItem_str (have := I.hi; by simp; have := I.lo; omega) (c := cc) ?_ ?_) (subscripted_plain hs)
    · rw [hlen, sq]; simpa using ec
    · exact z _ (Y.tk _) _ k1 ((tk.trans a).trans (toks_ok a.sm _)) ⟨⟨#[cc]⟩, _, rfl, Bool.and_eq_true_iff.mpr ⟨List.all_eq_true.mp hx cc (List.mem_of_getElem? ec), rfl⟩, rfl⟩))
end
end Mine

namespace Mine
open PySem PySem.W PyProof.Rows

theorem slicePick_cut (vs : Array PV) (lo hi : Option Int) : (slicePick vs lo hi none).toList = cut vs.toList lo hi := by
  rw [slicePick_plain]
  unfold cut
  rw [List.drop_take, Array.length_toList]
  rfl
theorem RVs_cut {D : Wd} {N : Nx} {d : List V} {v : List PV} (lo hi : Option Int) (r : RVs D N d v) : RVs D N (cut d lo hi) (cut v lo hi) := by
  unfold cut
  rw [← RVs_length r]
  exact RVs_drop _ (RVs_take _ r)
section
variable {prog : Program} {w : World} {A : Around} {E : PV → Shared → Prop} {s : Shared}
theorem slicePart_of {v : PV} {k : Option Int} {Q : Option Int → Shared → Prop} (hv : IsPart v k) (h : Q k s) : wpAny (model prog w) A (Builtin.Slice.slicePartIndex v) Q E s := by
  cases hv with
  | none => exact slicePart_none h
  | int i t => exact slicePart_int h
theorem adjust_one (v : Int) (n : Nat) : (if v < 0 then max (v + n) 0 else min v n) = ((clip n v : Nat) : Int) := by
  unfold clip
  rw [Int.toNat_of_nonneg (Int.le_max_left _ _)]
  by_cases h : v < 0
  · rw [if_pos h, if_pos h, Int.min_eq_left (Int.add_le_of_le_sub_right (Int.sub_self _ ▸ Int.le_of_lt h)), Int.max_comm]
  · rw [if_neg h, if_neg h, Int.max_eq_right (Int.le_min.mpr ⟨Int.not_lt.mp h, Int.natCast_nonneg _⟩)]
theorem adjust_plain (lo hi : Option Int) (n : Nat) : Builtin.Slice.sliceAdjust lo hi 1 (n : Int) = (((lo.elim 0 (clip n) : Nat) : Int), ((hi.elim n (clip n) : Nat) : Int)) := by
  unfold Builtin.Slice.sliceAdjust
  have h1 : ¬ ((1 : Int) < 0) := by decide
  simp only [h1, if_false]
  cases lo <;> cases hi <;> simp only [Option.elim, adjust_one] <;> rfl
theorem places_plain (a b : Nat) : Builtin.Slice.slicePlaces (a : Int) (b : Int) 1 = b - a := by
  unfold Builtin.Slice.slicePlaces
  rw [if_pos (by decide), Int.ediv_one]
  by_cases h : (a : Int) < b
  · rw [if_pos h, Int.sub_add_cancel, Int.toNat_sub]
  · rw [if_neg h, Nat.sub_eq_zero_of_le (Int.ofNat_le.mp (Int.not_lt.mp h))]; rfl
theorem sliceApplied_plain {sl : Addr} {vl vu : PV} {lo hi : Option Int} {n : Nat} {Q : Int × Int × Nat → Shared → Prop} (hs : s.heap.IsSliceOf sl vl vu .none) (pl : IsPart vl lo) (pu : IsPart vu hi)
    (h : Q (((lo.elim 0 (clip n) : Nat) : Int), 1, hi.elim n (clip n) - lo.elim 0 (clip n)) s) :
    wpAny (model prog w) A (Builtin.Slice.sliceApplied (.ref sl) (pure (n : Int))) Q E s := by
  obtain ⟨os, hos, hcs, hds⟩ := hs
  unfold Builtin.Slice.sliceApplied Builtin.Slice.sliceFields
  refine wpAny_bind (wpAny_bind (wpAny_field hos hds (x := vl) rfl (wpAny_bind (wpAny_field hos hds (x := vu) rfl (wpAny_bind (wpAny_field hos hds (x := .none) rfl (wpAny_pure ?_)))))))
  refine wpAny_bind (slicePart_none ?_)
  show wpAny _ _ (if ((1 : Int) == 0) = true then _ else _) _ _ s
  rw [if_neg (by decide)]
  refine wpAny_bind (slicePart_of pl (wpAny_bind (slicePart_of pu (wpAny_bind (wpAny_pure ?_)))))
  show wpAny _ _ (match Builtin.Slice.sliceAdjust lo hi 1 (n : Int) with | (lo, hi) => pure (lo, (1 : Int), Builtin.Slice.slicePlaces lo hi 1)) _ _ s
  rw [adjust_plain]
  refine wpAny_pure ?_
  rw [places_plain]
  exact h
theorem pick_plain (xs : Array PV) (a k : Nat) : ((List.range k).filterMap fun (j : Nat) => xs[((a : Int) + (j : Int) * 1).toNat]?) = (xs.toList.drop a).take k := by
  have e : (fun (j : Nat) => xs[((a : Int) + (j : Int) * 1).toNat]?) = fun j => xs[a + j]? := funext fun j => by rw [Int.mul_one]; rfl
  rw [e, ← pick_run xs a k, List.filterMap_map]
  rfl
theorem cut_len {α : Type} (l : List α) (lo hi : Option Int) : (cut l lo hi).length ≤ l.length := by
  unfold cut
  rw [List.length_drop, List.length_take]
  exact Nat.le_trans (Nat.sub_le _ _) (Nat.min_le_right _ _)
theorem cap_line {n : Nat} (h : n ≤ 1000000) : n ≤ sizeLine := Nat.le_trans h (by rw [sizeLine_eq]; decide)
theorem getItem_tuple_cut {t sl : Addr} {items : Array PV} {vl vu : PV} {lo hi : Option Int} {Q : PV → Shared → Prop} (ht : IsTup s.heap t items) (hs : s.heap.IsSliceOf sl vl vu .none) (pl : IsPart vl lo) (pu : IsPart vu hi)
    (h1 : cut items.toList lo hi = items.toList → Q (.ref t) s)
    (h : Q (.ref s.heap.objs.size) { s with heap := s.heap.push { cls := .type "tuple", data := .seq (cut items.toList lo hi).toArray } })
    (hsz : items.size ≤ 1000000) : wpAny (model prog w) A (getItem (.ref t) (.ref sl)) Q E s := by
  have ec : (items.toList.drop (lo.elim 0 (clip items.size))).take (hi.elim items.size (clip items.size) - lo.elim 0 (clip items.size)) = cut items.toList lo hi := by
    unfold cut; rw [List.drop_take, Array.length_toList]
  have hdrop : sizeOk (.seq (cut items.toList lo hi).toArray) := cap_line (Nat.le_trans (Nat.le_of_eq List.size_toArray) (Nat.le_trans (cut_len items.toList lo hi) (Nat.le_trans (Nat.le_of_eq Array.length_toList) hsz)))
  obtain ⟨os, hos, hcs, hds⟩ := id hs
  unfold getItem
  try with_reducible refine wpAny_holding ?_
  first | refine wpAny_bind (wpAny_pure ?_) | skip
  refine wpAny_bind (wpAny_sequenceKey ht.typeIs (by decide) ?_)
  refine wpAny_bind (wpAny_callSpecial?_slot (name := Str.ofString "__getitem__") ht.typeIs slot_tuple_getitem
    (wpAny_call_entry slot_tuple_getitem ht.typeIs entry_tuple_getitem ?_ (args_tuple_getitem _ _)))
  show wpAny _ _ (Builtin.Tuple.tupleItemsOf (.ref t) >>= _) _ _ s
  refine wpAny_bind (tupleItemsOf_ ht ?_)
  refine wpAny_bind (wpAny_typeOf ⟨os, hos, hcs⟩ ?_)
  rw [if_pos (by decide)]
  refine wpAny_bind (sliceApplied_plain hs pl pu ?_)
  dsimp only
  split
  · rename_i hw
    simp only [Bool.and_eq_true, beq_iff_eq] at hw
    have q := h1 (by
      rw [← ec, hw.2, show lo.elim 0 (clip items.size) = 0 from Int.ofNat_inj.mp hw.1.1, List.drop_zero, List.take_of_length_le (Nat.le_of_eq Array.length_toList)])
    unfold Builtin.Tuple.tupleIsExact
    refine wpAny_bind (wpAny_bind (wpAny_typeOf ht.typeIs (wpAny_pure ?_)))
    rw [if_pos (by decide)]
    exact wpAny_bind (wpAny_rule (wpAny_bind (wpAny_pure (wpAny_pure ⟨_, rfl, wpAny_pure q⟩))))
  · rw [pick_plain, ec]
    first
      | exact wpAny_bind (m := Builtin.Tuple.tupleExact _) (wpAny_newObj_type (wpAny_pure ⟨_, rfl, wpAny_pure h⟩) hdrop)
      | exact wpAny_bind (m := Builtin.Tuple.tupleExact _) (wpAny_newObj_type (wpAny_bind (wpAny_pure (wpAny_pure ⟨_, rfl, wpAny_pure h⟩))) hdrop)
      | exact wpAny_bind (wpAny_bind (m := Builtin.Tuple.tupleExact _) (wpAny_newObj_type (wpAny_pure (wpAny_pure ⟨_, rfl, wpAny_pure h⟩)) hdrop))
      | exact wpAny_bind (wpAny_bind (m := Builtin.Tuple.tupleExact _) (wpAny_newObj_type (wpAny_pure ⟨_, rfl, wpAny_pure h⟩) hdrop))
end
section
variable {B : Bd} {u : Nat} {c : Ck} {G : Ev} {N Y Z : Nx} {Q E : PV → Shared → Prop}
theorem More.seq {s : Shared} (m : More N s) (sm : Sm B.D N) {b : Addr} {o : Obj} (h1 : ¬ N.has b) (e : s.heap.get? b = some o) : Aft B.D N noA ((N.at s).wi b) := (m.aft sm).wi (m.pv sm h1 e) h1
noncomputable abbrev lsO (vs : Array PV) : Obj := { cls := .type "list", data := .seq vs }
noncomputable abbrev tpO (vs : Array PV) : Obj := { cls := .type "tuple", data := .seq vs }
theorem new_list {s : Shared} {l : List V} {vs : Array PV} (m : More N s) (sm : Sm B.D N) (rs : Vals B N l vs.toList) : Aft B.D N noA ((N.at { s with heap := s.heap.push (lsO vs) }).wi s.heap.objs.size) ∧ Val B ((N.at { s with heap := s.heap.push (lsO vs) }).wi s.heap.objs.size) (.list l) (.ref s.heap.objs.size) :=
  have a := (m.push (lsO vs)).seq sm m.no (push_at rfl)
  ⟨a, _, vs, rfl, .inr rfl, ⟨0, push_at rfl⟩, Vals.on a rs⟩
theorem new_tup {s : Shared} {l : List V} {vs : Array PV} (m : More N s) (sm : Sm B.D N) (rs : Vals B N l vs.toList) : Aft B.D N noA ((N.at { s with heap := s.heap.push (tpO vs) }).wi s.heap.objs.size) ∧ Val B ((N.at { s with heap := s.heap.push (tpO vs) }).wi s.heap.objs.size) (.tup l) (.ref s.heap.objs.size) :=
  have a := (m.push (tpO vs)).seq sm m.no (push_at rfl)
  ⟨a, _, vs, rfl, .inr rfl, ⟨0, push_at rfl⟩, Vals.on a rs⟩
noncomputable def slObj (vl vu : PV) : Obj := { cls := .type "slice", data := .fields #[vl, vu, .none] }
theorem cut_all {l : List V} {vs : List PV} {lo hi : Option Int} (rs : Vals B N l vs) (e : cut vs lo hi = vs) : cut l lo hi = l :=
  ((List.drop_sublist _ _).trans (List.take_sublist _ _) : (cut l lo hi).Sublist l).eq_of_length ((RVs_length (RVs_cut lo hi rs)).symm.trans ((congrArg List.length e).trans (RVs_length rs)))
theorem arr_len {l : List V} {vs : Array PV} {n : Nat} (rs : Vals B N l vs.toList) (h : l.length ≤ n) : vs.size ≤ n := Nat.le_trans (Nat.le_of_eq (Array.length_toList.symm.trans (RVs_length rs))) h
theorem cut_tail {value : PE} {lower upper : Option PE} {p : Pos} {d1 : V} {x vl vu : PV} {lo hi : Option Int} {K : V → Prop} (sm : Sm B.D N) (r : Val B N d1 x) (pl : IsPart vl lo) (pu : IsPart vu hi) (e : oK (cutE d1 lo hi) K)
    (z : ∀ d Y v, K d → Aft B.D N noA Y → Y.σ = N.σ → Val B Y d v → Q v Y.s) :
    wpAny (model B.D.prog B.D.w) G.A (subscriptTail value (.Slice lower upper none p) x (.ref N.s.heap.objs.size)) Q E { N.s with heap := N.s.heap.push (slObj vl vu) } := by
  have m1 := (More.refl N).push (slObj vl vu)
  have hsl := Heap.IsSliceOf.new N.s.heap vl vu .none
  cases d1 with
  | list l =>
    obtain ⟨hl, e⟩ := if_of e
    obtain ⟨a, vs, rfl, _, il, rs⟩ := r
    have il' : (N.s.heap.push (slObj vl vu)).IsList a vs := il.list.at fun o e => m1.k _ _ e
    have w := new_list m1 sm (vs := slicePick vs lo hi none) (l := cut l lo hi) (by rw [slicePick_cut]; exact RVs_cut lo hi rs)
    exact tail_any il'.typeIs slot_list_getitem.lookup (wpAny_getItem_list_slice il' hsl pl pu .none (by simp) (z _ _ _ e w.1 rfl w.2) (cap_line (arr_len rs hl))) (ops := [.ref N.s.heap.objs.size, .ref a]) rfl
  | tup l =>
    obtain ⟨hl, e⟩ := if_of e
    have r0 := r
    obtain ⟨a, vs, rfl, wa, it, rs⟩ := r
    have it' : (N.s.heap.push (slObj vl vu)).IsTuple a vs := it.tup.at fun o e => m1.k _ _ e
    have w := new_tup m1 sm (vs := (cut vs.toList lo hi).toArray) (RVs_cut lo hi rs)
    exact tail_any it'.typeIs slot_tuple_getitem.lookup (getItem_tuple_cut it' hsl pl pu (fun e1 => z _ (N.at _) _ (cut_all rs e1 ▸ e) (m1.aft sm) rfl (Val.on (m1.aft sm) r0)) (z _ _ _ e w.1 rfl w.2) (arr_len rs hl)) (ops := [.ref N.s.heap.objs.size, .ref a]) rfl
  | _ => exact False.elim e
noncomputable def TO (B : Bd) (u : Nat) (c : Ck) (x : X) (o : Option PE) : Prop := match o with
  | some f => TE B u c x (fun env => eval f env)
  | none => x = .cst .none
theorem to_ok {x : X} {o : Option PE} (h : TO B u c x o) (H : Go B u c G N) {K : V → St → Prop} {Q : PV → Shared → Prop} (q : kX B G N x K) (z : ∀ d Y v, K d Y.σ → Aft B.D N noA Y → Val B Y d v → Q v Y.s) : Wp B G N (evalPart o G.env) Q E := by
  cases o with
  | some f => exact wpAny_evalPart_some (h G N _ E _ H q z)
  | none => cases (h : x = _); exact wpAny_evalPart_none (z .none N _ q H.refl rfl)
theorem endE_of {v : V} {x : PV} {K : Option Int → Prop} (e : oK (endE v) K) (r : Val B N v x) : ∃ i, IsPart x i ∧ K i := by
  cases v with
  | none => cases (r : x = .none); exact ⟨none, .none, e⟩
  | int i => obtain ⟨t, rfl⟩ := r; exact ⟨some i, .int i t, e⟩
  | _ => exact False.elim e
theorem te_sl {x y w : X} {f : PE} {lo hi : Option PE} {p1 p : Pos} (h1 : TE B u c x (fun env => eval f env)) (h2 : TO B u c y lo) (h3 : TO B u c w hi) : TE B u c (.sl x y w) (fun env => eval (.Subscript f (.Slice lo hi none p1) p) env) := fun G N Q E K H q z =>
  Subscript_ (h1 G N _ E _ H q fun d1 Y1 v1 k1 a1 r1 => wpAny_Slice (to_ok h2 (H.to a1) k1 fun d2 Y2 v2 k2 a2 r2 => to_ok h3 (H.to (a1.trans a2)) k2 fun d3 Y3 v3 k3 a3 r3 => wpAny_evalPart_none
    (let ⟨i, p1, k3⟩ := endE_of (oK_bind k3) (Val.on a3 r2)
     let ⟨j, p2, k3⟩ := endE_of (oK_bind k3) r3
     cut_tail (G := G) a3.sm (Val.on (a2.trans a3) r1) p1 p2 k3 fun d Y v k4 a es r => z d Y v (es ▸ k4) ((a1.trans (a2.trans a3)).trans a) r)))

noncomputable def bopOf : Bop → Operator
  | .add => .Add | .sub => .Sub | .mul => .Mult | .mod => .Mod
theorem asTup_of {v : V} {K : List V → Prop} (e : oK (asTup v) K) : ∃ l, v = .tup l ∧ K l := by
  cases v <;> first | exact ⟨_, rfl, e⟩ | exact False.elim e
theorem cap_size {a b : List V} {vs us : Array PV} (h : (a ++ b).length ≤ capL) (r1 : Vals B N a vs.toList) (r2 : Vals B N b us.toList) : vs.size + us.size ≤ sizeLine := by
  rw [← Array.length_toList, ← Array.length_toList (xs := us), RVs_length r1, RVs_length r2, ← List.length_append]
  exact cap_line h
theorem emp_of {l : List V} {vs : Array PV} (r : Vals B N l vs.toList) (h : vs.isEmpty = true) : l = [] := by
  cases Array.isEmpty_iff.mp h
  cases l with
  | nil => rfl
  | cons => obtain ⟨v, t, e, _⟩ := r; cases e
theorem add_tup_ok {l k : List V} {x y : PV} (sm : Sm B.D N) (hz : (l ++ k).length ≤ capL) (ra : Val B N (.tup l) x) (rb : Val B N (.tup k) y) (z : ∀ Y v, Aft B.D N noA Y → Y.σ = N.σ → Val B Y (.tup (l ++ k)) v → Q v Y.s) : Wp B G N (binaryOp .Add x y) Q E := by
  have ra' := ra
  have rb' := rb
  obtain ⟨a, vs, rfl, wa, ⟨i, ia⟩, rs⟩ := ra
  obtain ⟨b, us, rfl, wb, ⟨j, ib⟩, qs⟩ := rb
  have ta : N.s.TypeIs (.ref a) "tuple" := ⟨_, ia, rfl⟩
  have tb : N.s.TypeIs (.ref b) "tuple" := ⟨_, ib, rfl⟩
  by_cases h1 : vs.isEmpty = true
  · cases emp_of rs h1
    exact concat_meets ta tb noFill_tuple_add seq_tuple_add F.slot_tuple_add F.entry_tuple_add (F.args_tuple_add_2 _ _) (AutoSeq1.tuple___add___tuple_tuple_0 a vs i b us j h1) ⟨ia, ib, z N _ (.refl sm) rfl rb'⟩
  · by_cases h2 : us.isEmpty = true
    · cases emp_of qs h2
      rw [List.append_nil] at z
      exact concat_meets ta tb noFill_tuple_add seq_tuple_add F.slot_tuple_add F.entry_tuple_add (F.args_tuple_add_2 _ _) (AutoSeq1.tuple___add___tuple_tuple_1 a vs i b us j h1 h2) ⟨ia, ib, z N _ (.refl sm) rfl ra'⟩
    · have w := new_tup (More.refl N) sm (vs := vs ++ us) (l := l ++ k) (by rw [Array.toList_append]; exact RVs_append rs qs)
      exact concat_meets ta tb noFill_tuple_add seq_tuple_add F.slot_tuple_add F.entry_tuple_add (F.args_tuple_add_2 _ _) (AutoSeq1.tuple___add___tuple_tuple_2 a vs i b us j h1 h2 (cap_size hz rs qs)) ⟨ia, ib, z _ _ w.1 rfl w.2⟩
theorem lst_of {v : V} {x : PV} {K : List V → Prop} {Z : Prop} (sm : Sm B.D N) (e : oK (asLst N.σ v) K) (r : Val B N v x) (z : ∀ l a, K l → x = .ref a → RC B.D N a (.list l) → Z) : Z := by
  cases v with
  | list k => exact r.elim fun a q => q.elim fun vs q => z k a e q.1 ⟨vs, q.2.2⟩
  | loc k => exact r.elim fun p q => (st_of (f := fun o => oK (locL o) K) sm q.2 e id).elim fun o h => match o, h with
    | .list l, h => z l p.1 h.1 q.1 h.2.1.2
    | .inst _ _, h => h.1.elim
    | .dict _, h => h.1.elim
    | .dead, h => h.1.elim
  | _ => exact False.elim e
theorem add_list_ok {l k : List V} {a b : Addr} (sm : Sm B.D N) (hz : (l ++ k).length ≤ capL) (ra : RC B.D N a (.list l)) (rb : RC B.D N b (.list k)) (z : ∀ Y v, Aft B.D N noA Y → Y.σ = N.σ → Val B Y (.list (l ++ k)) v → Q v Y.s) : Wp B G N (binaryOp .Add (.ref a) (.ref b)) Q E := by
  obtain ⟨vs, ⟨i, ia⟩, rs⟩ := ra
  obtain ⟨us, ⟨j, ib⟩, qs⟩ := rb
  have w := new_list (More.refl N) sm (vs := vs ++ us) (l := l ++ k) (by rw [Array.toList_append]; exact RVs_append rs qs)
  exact P.add_list ia ib (z _ _ w.1 rfl w.2) (cap_size hz rs qs)
theorem bin_ok {o : Bop} {a b : V} {x y : PV} {K : V → Prop} (sm : Sm B.D N) (e : oK (binE N.σ o a b) K) (ra : Val B N a x) (rb : Val B N b y) (z : ∀ d Y v, K d → Aft B.D N noA Y → Y.σ = N.σ → Val B Y d v → Q v Y.s) : Wp B G N (binaryOp (bopOf o) x y) Q E := by
  have tk := fun {i} (hk : K (.int i)) => z (.int i) (N.tk (N.s.toks + 1)) (.int i N.s.toks) hk (toks_ok sm _) rfl ⟨_, rfl⟩
  have lst : oK ((asLst N.σ a).bind fun a => (asLst N.σ b).bind fun b => (okLen (a ++ b)).map V.list) K → Wp B G N (binaryOp .Add x y) Q E := fun e =>
    lst_of sm (oK_bind e) ra fun l a e e1 ra => lst_of sm (oK_bind e) rb fun k b e e2 rb => have w := if_of (oK_map e)
      e1 ▸ e2 ▸ add_list_ok sm w.1 ra rb fun Y v => z _ Y v w.2
  cases o with
  | add => cases a with
    | int i =>
      obtain ⟨t, rfl⟩ := ra
      obtain ⟨j, t', rfl, rfl, e⟩ := asInt_of (oK_map e) rb
      exact add_int (tk e)
    | tup l =>
      obtain ⟨k, rfl, e⟩ := asTup_of (oK_bind e)
      obtain ⟨hz, e⟩ := if_of (oK_map e)
      exact add_tup_ok sm hz ra rb fun Y v => z _ Y v e
    | list l => exact lst e
    | loc l => exact lst e
    | _ => exact False.elim e
  | sub =>
    obtain ⟨i, t, rfl, rfl, e⟩ := asInt_of (oK_bind e) ra
    obtain ⟨j, t', rfl, rfl, e⟩ := asInt_of (oK_map e) rb
    exact sub_int (tk e)
  | mul =>
    obtain ⟨i, t, rfl, rfl, e⟩ := asInt_of (oK_bind e) ra
    obtain ⟨j, t', rfl, rfl, e⟩ := asInt_of (oK_bind e) rb
    obtain ⟨hb, e⟩ := if_of e
    exact mul_int (tk e) (IntMulOk.of_left (intBits_le_64 (by omega) (by omega)))
  | mod =>
    obtain ⟨i, t, rfl, rfl, e⟩ := asInt_of (oK_bind e) ra
    obtain ⟨j, t', rfl, rfl, e⟩ := asInt_of (oK_bind e) rb
    obtain ⟨hb, e⟩ := if_of e
    refine mod_int (Int.ne_of_gt hb) ?_
    rw [Int.fmod_eq_emod_of_nonneg i (Int.le_of_lt hb)]
    exact tk e
theorem te_bin {o : Bop} {x y : X} {l r : PE} {p : Pos} (h1 : TE B u c x (fun env => eval l env)) (h2 : TE B u c y (fun env => eval r env)) : TE B u c (.bin o x y) (fun env => eval (.BinOp l (bopOf o) r p) env) := fun G N Q E K H q z =>
  wpAny_BinOp (two h1 h2 H q fun a b Y v w k1 a1 r1 r2 => bin_ok (G := G) a1.sm k1 r1 r2 fun d Z v k2 a es r => z d Z v (es ▸ k2) (a1.trans a) r)
end
end Mine

namespace Mine
open PySem PySem.W PyProof.Rows
structure Gt where
  fns : List (Str × Nat)
  clss : List (Str × Nat)
  consts : List (Str × Nat)
  flds : List Str
  mths : List Str

structure ClsOk (K : Frag) (C : Addr) : Prop where
  ga : findIn K (.ref C) "__getattribute__" = some (some (.builtin "object.__getattribute__"))
  gA : findIn K (.ref C) "__getattr__" = some none
  sa : findIn K (.ref C) "__setattr__" = some (some (.builtin "object.__setattr__"))
  po : plainOver K C = true
  hd : (clsIn K C).any (·.hasDict) = true
  ci : (clsIn K C).isSome = true
  mkc : makesIn K C = true
  kp : keepIn K (.ref C) = true

noncomputable def fldIn (K : Frag) (C : Addr) (x : Str) : Bool := match findIn K (.ref C) x with
  | some none => true
  | some (some a) => takesIn K a == some false && (specialIn K a "__get__").isSome
  | none => false
theorem fldIn_find {K : Frag} {C : Addr} {x : Str} {od : Option Obj} {cd : ClassData} {v : Value} (h : fldIn K C x = true) (hc : clsIn K C = some cd) (ho : PySem.W.ownOf cd od x = some (some v)) : findObj K C od x = some (.value v) := by
  unfold fldIn at h
  unfold findObj
  rw [hc, Option.bind_some]
  split at h
  · rename_i e
    rw [e, Option.bind_some]
    simp only [Option.bind_some, ho]
  · rename_i a e
    rw [Bool.and_eq_true, beq_iff_eq] at h
    obtain ⟨gt, hg⟩ := Option.isSome_iff_exists.mp h.2
    rw [e, Option.bind_some]
    simp only [hg, Option.bind_some]
    cases gt with
    | none => simp only [Option.bind_some, ho]
    | some g => simp only [h.1, Option.bind_some, ho]
  · cases h


structure Facts (B : Bd) (g : Gt) : Prop where
  X : B.D.K.In B.D.base
  lim : B.D.base.NoLimit
  fn : ∀ x i, g.fns.lookup x = some i → nsIn B.D.K mainGlobals x = some (some (.ref (B.D.fa i)))
  fk : ∀ i, (B.P.fn i).isSome = true → keepIn B.D.K (.ref (B.D.fa i)) = true
  cl : ∀ x i, g.clss.lookup x = some i → nsIn B.D.K mainGlobals x = some (some (.ref (B.D.ca i))) ∧ i < B.D.nc
  ck : ∀ i, i < B.D.nc → ClsOk B.D.K (B.D.ca i)
  fl : ∀ x, x ∈ g.flds → ∀ i, i < B.D.nc → fldIn B.D.K (B.D.ca i) x = true
  mt : ∀ x, x ∈ g.mths → ∀ i f, B.P.meth i (encS x) = some f → i < B.D.nc ∧ findIn B.D.K (.ref (B.D.ca i)) x = some (some (.ref (B.D.fa f))) ∧ typeIn B.D.K (.ref (B.D.fa f)) = some (.type "function") ∧ (B.P.fn f).isSome = true
  ini : ∀ i f, B.P.init i = some f → i < B.D.nc → findIn B.D.K (.ref (B.D.ca i)) "__init__" = some (some (.ref (B.D.fa f))) ∧ typeIn B.D.K (.ref (B.D.fa f)) = some (.type "function")
  co : ∀ x k, g.consts.lookup x = some k → ∀ d, B.P.glob k = some d → ∃ v, nsIn B.D.K mainGlobals x = some (some v) ∧ ∀ N, Sm B.D N → Val B N d v
noncomputable def TOk (B : Bd) : Prop :=
  ∀ (A : Around) (N : Nx) (f : Nat) (ds : List V) (vs : List PV) (K : V → St → Prop), B.T.call f ds N.σ K → Room B.n 0 A → Sm B.D N → Vals B N ds vs → (B.P.fn f).isSome = true ∧
    ∀ (R : Result → Shared → Prop), (∀ d Y v, K d Y.σ → Aft B.D N noA Y → Val B Y d v → R (.ok (.ret v)) Y.s) → codeAny (model B.D.prog B.D.w) A (.call (.ref (B.D.fa f)) ⟨vs, []⟩) R N.s
section
variable {B : Bd} {u : Nat} {c : Ck} {G : Ev} {N Y Z : Nx} {Q E : PV → Shared → Prop} {g : Gt}
theorem TOk.run (h : TOk B) {f : Nat} {ds : List V} {vs : List PV} {K : V → St → Prop} (e : B.T.call f ds N.σ K) (rm : Room B.n 0 G.A) (sm : Sm B.D N) (rs : Vals B N ds vs)
    (z : ∀ d Y v, K d Y.σ → Aft B.D N noA Y → Val B Y d v → Q v Y.s) : Wp B G N (call (.ref (B.D.fa f)) vs) Q E := wpAny_call ((h G.A N f ds vs K e rm sm rs).2 _ z)
theorem Facts.x (F : Facts B g) (sm : Sm B.D N) : B.D.K.In N.s.heap := F.X.keeps sm.gi
theorem Room.zero {n u : Nat} {A : Around} (r : Room n u A) : Room n 0 A := ⟨Nat.lt_of_le_of_lt (Nat.add_le_add_right (Nat.add_le_add_left (Nat.zero_le _) _) _) r.depth, Nat.lt_of_le_of_lt (Nat.add_le_add_left (Nat.zero_le _) _) r.units, r.hand⟩
theorem load_eq {x : Str} (H : Go B u c G N) (hx : c.sc.names.lookup x = some .globalImplicit) : loadName G.env x = loadGlobal G.env x := by
  have hx : G.env.kindOf x = some .globalImplicit := (H.eo.kd x).trans hx
  unfold loadName
  simp only [Env.blockKind, H.eo.kind, hx, ScopeKind.isAnnotationScope, Bool.false_and, Bool.false_eq_true, if_false]
theorem load_glo {x : Str} {v : PV} (H : Go B u c G N) (F : Facts B g) (hx : c.sc.names.lookup x = some .globalImplicit) (h : nsIn B.D.K mainGlobals x = some (some v)) (q : Q v N.s) : Wp B G N (loadName G.env x) Q E := by
  rw [load_eq H hx]
  unfold loadGlobal
  rw [H.eo.gl]
  exact wpAny_bind ((looks_nsIn (F.x H.sm) h).here (wpAny_pure q))
theorem load_blt {x : Str} {v : PV} (H : Go B u c G N) (F : Facts B g) (hx : c.sc.names.lookup x = some .globalImplicit) (h : nsIn B.D.K mainGlobals x = some none) (h2 : nsIn B.D.K builtinsNs x = some (some v)) (q : Q v N.s) : Wp B G N (loadName G.env x) Q E := by
  rw [load_eq H hx]
  unfold loadGlobal
  rw [H.eo.gl, H.eo.bi]
  exact wpAny_bind ((looks_nsIn (F.x H.sm) h).here (wpAny_bind ((looks_nsIn (F.x H.sm) h2).here (wpAny_pure q))))
theorem of_not {b : Bool} (h : (!b) = true) : b = false := by cases b <;> first | rfl | exact absurd h Bool.false_ne_true
theorem plain_any {env : PEnv} {pos : Pos} : ∀ (l : List PE), l.all (fun e => !isStarred e) = true → (backTo pos (starEach l env)).any (·.1) = false
  | [], _ => rfl
  | e :: r, h => by
    have h := Bool.and_eq_true_iff.mp h
    rw [starEach_cons (of_not h.1)]
    exact plain_any r h.2
theorem callWith_gen {Pp : Heap → Prop} {f : PV} {first : List PV} {es : List PE} {pos : Pos} (hk : ∀ h, Pp h → ∃ k, (k = Keeper.frame ∨ k = Keeper.machine ∨ k = Keeper.boundFrame) ∧ Looks (model B.D.prog B.D.w) h (keeperOf f) k) (hs : es.all (fun e => !isStarred e) = true)
    (h : Wp B G N (spliced (backTo pos (starEach es G.env))) (fun vs s₁ => Pp s₁.heap ∧ wpAny (model B.D.prog B.D.w) G.A (call f (first ++ vs)) Q E s₁) E) : Wp B G N (callWith pos f first (backTo pos (starEach es G.env)) []) Q E := by
  have hp := plain_any (env := G.env) (pos := pos) es hs
  cases es with
  | nil =>
    refine callWith_of rfl hk ?_
    show wpAny _ G.A (spliced [] >>= _) _ E N.s
    exact wpAny_bind (wpAny_mono h (fun vs s' h' => wpAny_holding (wpAny_bind (wpAny_pure (wpAny_bind (wpAny_pure (wpAny_pure h')))))) fun _ _ x => x)
  | cons e r =>
    rw [starEach_cons (of_not (Bool.and_eq_true_iff.mp hs).1)] at h hp ⊢
    exact callWith_of (by rw [hp]; rfl) hk (Calls.evalArgs_plain h)
theorem callWith_any {f : PV} {first : List PV} {es : List PE} {pos : Pos} (hk : keepIn B.D.K f = true) (hs : es.all (fun e => !isStarred e) = true)
    (h : Wp B G N (spliced (backTo pos (starEach es G.env))) (fun vs s₁ => B.D.K.In s₁.heap ∧ wpAny (model B.D.prog B.D.w) G.A (call f (first ++ vs)) Q E s₁) E) : Wp B G N (callWith pos f first (backTo pos (starEach es G.env)) []) Q E :=
  callWith_gen (keeps_K hk) hs h
theorem te_call {f : Nat} {x : Str} {xs : List X} {es : List PE} {np pos : Pos} (F : Facts B g) (TO : TOk B) (h0 : g.fns.lookup x = some f) (hf : (B.P.fn f).isSome = true) (h1 : c.sc.names.lookup x = some .globalImplicit) (h2 : (x == ("__debug__" : Str)) = false)
    (hs : es.all (fun e => !isStarred e) = true) (h3 : TEs B u c xs (fun env => spliced (backTo pos (starEach es env)))) : TE B u c (.call f xs) (fun env => eval (.Call (.Name x np) es [] pos) env) := fun G N Q E K H q z =>
  wpAny_bind (wpAny_Name (load_glo H F h1 (F.fn x f h0) (callWith_any (F.fk f hf) hs (h3 G N _ E _ H q fun ds Y vs k1 l1 a1 r1 => ⟨F.x a1.sm,
    TO.run (G := G) (N := Y) k1 H.rm.zero a1.sm r1 fun d Y2 v k2 a2 r2 => z d Y2 v k2 (a1.trans a2) r2⟩))) h2)
theorem te_glob {k : Nat} {x : Str} {p : Pos} (F : Facts B g) (h0 : g.consts.lookup x = some k) (h1 : c.sc.names.lookup x = some .globalImplicit) (h2 : (x == ("__debug__" : Str)) = false) : TE B u c (.glob k) (fun env => eval (.Name x p) env) := fun G N Q E K H q z =>
  oK_of q fun d e k1 => (F.co x k h0 d e).elim fun v w => wpAny_Name (load_glo H F h1 w.1 (z d N v k1 H.refl (w.2 N H.sm))) h2
structure Ins (B : Bd) (N : Nx) (p : Addr × Addr) (k : Nat) (fs : List (Nat × V)) (od : Obj) (mm : Str → Option PV) : Prop where
  nc : k < B.D.nc
  at_ : InstAt N.s.heap p.1 (instObj (B.D.ca k) p.2) (B.D.ca k) (some od)
  fo : FldOk B.D N mm fs
  lk : ∀ x, lookIn x od = some (mm x)
theorem ins_at {p : Addr × Addr} {k : Nat} {fs : List (Nat × V)} (r : OR B.D N p (.inst k fs)) : ∃ od mm, Ins B N p k fs od mm := by
  obtain ⟨⟨nc, e⟩, ne, mm, nl, n1, f, _⟩ := r
  obtain ⟨od, es, ep, ho, hd, hk, hl⟩ := n1.ns
  have lk : ∀ x, lookIn x od = some (mm x) := fun x => by
    unfold lookIn
    rw [hd]
    dsimp only
    have nr : es.toList.any (·.refKey) = false := by
      rw [List.any_eq_false]
      intro d hd
      obtain ⟨y, t, ek⟩ := hk d (Array.mem_toList_iff.mp hd)
      unfold DictEntry.refKey
      rw [ek]; exact Bool.false_ne_true
    have hx := hl x
    unfold nsFind findBy at hx
    rw [← Array.find?_toList] at hx
    cases e1 : es.toList.find? (fun d => d.key.isStr x) with
    | some d => rw [e1] at hx; exact congrArg some hx
    | none => rw [e1] at hx; dsimp only; rw [nr]; exact congrArg some hx
  exact ⟨od, mm, nc, ⟨e, rfl, rfl, ho⟩, f, lk⟩
noncomputable def plainBase : PE → Bool
  | .Call _ [] [] _ => false
  | _ => true
theorem attributeBase_plain {o : PE} {attr : Str} {env : PEnv} {whole : Sem PV} (h : plainBase o = true) : attributeBase o attr env whole = whole := by
  unfold attributeBase
  split
  · exact absurd h Bool.false_ne_true
  · rfl
theorem inst_of {v : V} {x : PV} {f : Option SObj → Prop} (sm : Sm B.D N) (r : Val B N v x) {k : Nat} (e : v = .loc k) (h : f N.σ[k]?) (hf : ∀ o, f o → ∃ cc fs, o = some (.inst cc fs)) :
    ∃ p cc fs od mm, x = .ref p.1 ∧ Ins B N p cc fs od mm ∧ f (some (.inst cc fs)) := by
  subst e
  obtain ⟨p, rfl, hp⟩ := r
  obtain ⟨cc, fs, e⟩ := hf _ h
  obtain ⟨od, mm, I⟩ := ins_at (sm.obj k _ p e hp)
  exact ⟨p, cc, fs, od, mm, rfl, I, e ▸ h⟩
theorem handed_val {d : V} {v : PV} (rv : Val B N d v) : handedIn v = true := by
  cases d with
  | none => cases (rv : v = _); rfl
  | bool => cases (rv : v = _); rfl
  | int => obtain ⟨t, rfl⟩ := rv; rfl
  | str => obtain ⟨y, t, rfl, _⟩ := rv; rfl
  | loc => obtain ⟨y, rfl, _⟩ := rv; rfl
  | _ => obtain ⟨y, t, rfl, _⟩ := rv; rfl
theorem get_field {p : Addr × Addr} {k f : Nat} {fs : List (Nat × V)} {x : Str} {od : Obj} {mm : Str → Option PV} {K : V → Prop} (F : Facts B g) (sm : Sm B.D N) (hx : x ∈ g.flds) (ho : strOk x = true) (he : encS x = f)
    (I : Ins B N p k fs od mm) (e : oK (getA fs f) K) (z : ∀ d v t, K d → Val B N d v → Q v (N.tk t).s) : Wp B G N (getAttr (.ref p.1) x true) Q E := by
  have C := F.ck k I.nc
  have fx := I.fo x ho
  rw [he] at fx
  refine oK_of e fun d e1 hk => ?_
  rw [e1] at fx
  obtain ⟨v, e2, rv⟩ := fx
  refine get_value (F.x sm) I.at_ C.ga ?_ (handed_val (B := B) rv) (z d v _ hk rv)
  obtain ⟨cd, hcd⟩ := Option.isSome_iff_exists.mp C.ci
  have hdi : cd.hasDict = true := by have := C.hd; rw [hcd] at this; exact this
  refine fldIn_find (F.fl x hx k I.nc) hcd ?_
  simp only [PySem.W.ownOf, hdi, if_true, I.lk, e2]
theorem loc_of {v : V} {f : Nat → Prop} (h : match v with | .loc k => f k | _ => False) : ∃ k, v = .loc k ∧ f k := by
  cases v <;> first | exact ⟨_, rfl, h⟩ | exact False.elim h
theorem te_attr {y : X} {e : PE} {x : Str} {f : Nat} {pos : Pos} (F : Facts B g) (hb : plainBase e = true) (hx : x ∈ g.flds) (ho : strOk x = true) (he : encS x = f)
    (h1 : TE B u c y (fun env => eval e env)) : TE B u c (.attr y f) (fun env => eval (.Attribute e x pos) env) := fun G N Q E K H q z => by
  have hb' : eval (.Attribute e x pos) G.env = (do
      let o ← eval e G.env
      standAt pos.atName
      let r ← holding [o] (getAttr o x true)
      letTemporaryGo e o r
      pure r) := by rw [arm_eval_Attribute, attributeBase_plain hb]
  refine Attribute_any_ (h1 G N _ E _ H q fun d Y v k1 a r => ?_) hb'
  cases d with
  | loc k =>
    obtain ⟨p, cc, fs, od, mm, rfl, I, k2⟩ := inst_of (f := fun o => oK (fldO f o) fun w => K w Y.σ) a.sm r rfl k1 fun o h => by
      cases o with
      | none => exact False.elim h
      | some o => cases o <;> first | exact ⟨_, _, rfl⟩ | exact False.elim h
    exact get_field (G := G) F a.sm hx ho he I k2 fun d v t k3 rv => z d (Y.tk t) v k3 (a.trans (toks_ok a.sm t)) (Val.on (toks_ok a.sm t) rv)
  | _ => exact False.elim k1
theorem plain_all {env : PEnv} {pos : Pos} : ∀ (l : List PE), l.all (fun e => !isStarred e) = true → (backTo pos (starEach l env)).all (fun x => !x.1) = true
  | [], _ => rfl
  | e :: r, h => by
    have h := Bool.and_eq_true_iff.mp h
    rw [starEach_cons (of_not h.1)]
    exact plain_all r h.2
theorem eval_methB {o : PE} {x : Str} {apos pos : Pos} {es : List PE} {env : PEnv} (hl : (apos.endLine == pos.line) = true) (hn : es.length < 29) (hs : es.all (fun e => !isStarred e) = true) :
    eval (.Call (.Attribute o x apos) es [] pos) env = (do
      let ov ← attributeBase o x env (eval o env)
      standAt apos.atName
      let (f, first) ← holding [ov] (getMethod ov x (do return (← importBound o env).getD true))
      callWith pos f first (backTo pos (starEach es env)) []) := by
  rw [arm_eval_Call]
  have few : methodCallForm (es.length + ([] : List Keyword).length) (backTo pos (starEach es env)) (backToKw pos (keywordEach [] env)) = true := by
    unfold methodCallForm
    rw [plain_all es hs]
    show (true && true && decide (es.length + 0 + 0 < 30)) = true
    exact decide_eq_true (Nat.lt_succ_of_lt hn)
  unfold methodCall
  rw [few]
  unfold calleeOf methodCallPos
  simp only [hl, Bool.not_true, Bool.false_or, if_true]
  rfl
theorem eval_method {o : PE} {x : Str} {apos pos : Pos} {es : List PE} {env : PEnv} (hb : plainBase o = true) (hl : (apos.endLine == pos.line) = true) (hn : es.length < 29) (hs : es.all (fun e => !isStarred e) = true) :
    eval (.Call (.Attribute o x apos) es [] pos) env = (do
      let ov ← eval o env
      standAt apos.atName
      let (f, first) ← holding [ov] (getMethod ov x (do return (← importBound o env).getD true))
      callWith pos f first (backTo pos (starEach es env)) []) := by rw [eval_methB hl hn hs, attributeBase_plain hb]
theorem get_meth {p : Addr × Addr} {k f fn : Nat} {fs : List (Nat × V)} {x : Str} {od : Obj} {mm : Str → Option PV} {pl : Sem Bool} {Q : PV × List PV → Shared → Prop} (F : Facts B g) (sm : Sm B.D N) (hx : x ∈ g.mths) (ho : strOk x = true) (he : encS x = f)
    (I : Ins B N p k fs od mm) (e : getA fs f = none) (e2 : B.P.meth k f = some fn) (z : Q (.ref (B.D.fa fn), [.ref p.1]) N.s) : wpAny (model B.D.prog B.D.w) G.A (getMethod (.ref p.1) x pl) Q E N.s := by
  have C := F.ck k I.nc
  obtain ⟨_, m1, m2, m3⟩ := F.mt x hx k fn (he ▸ e2)
  have fx := I.fo x ho
  rw [he, e] at fx
  exact method_fn (F.x sm) I.at_ C.ga C.gA m1 m2 (by rw [shadowIn, I.lk, fx]; rfl) z
theorem te_meth {y : X} {o : PE} {x : Str} {xs : List X} {es : List PE} {f : Nat} {apos pos : Pos} (F : Facts B g) (TO : TOk B) (hb : plainBase o = true) (hl : (apos.endLine == pos.line) = true) (hn : es.length < 29)
    (hs : es.all (fun e => !isStarred e) = true) (hx : x ∈ g.mths) (ho : strOk x = true) (he : encS x = f) (h1 : TE B u c y (fun env => eval o env)) (h2 : TEs B u c xs (fun env => spliced (backTo pos (starEach es env)))) :
    TE B u c (.meth y f xs) (fun env => eval (.Call (.Attribute o x apos) es [] pos) env) := fun G N Q E K H q z => by
  show wpAny _ _ (eval (.Call (.Attribute o x apos) es [] pos) G.env) _ _ _
  rw [eval_method hb hl hn hs]
  refine wpAny_bind (h1 G N _ E _ H q fun d Y v k1 a r => ?_)
  have r0 := r
  cases d with
  | loc k =>
    obtain ⟨p, cc, fs, od, mm, rfl, I, k2⟩ := inst_of (f := fun o => oK (methO B.P k f o) fun kf => kEs B.P B.T xs G.ρ Y.σ fun l σ => B.T.call kf.2 (.loc kf.1 :: l) σ K) a.sm r rfl k1 fun o h => by
      cases o with
      | none => exact False.elim h
      | some o => cases o <;> first | exact ⟨_, _, rfl⟩ | exact False.elim h
    cases e : getA fs f with
    | some w => rw [methO, e] at k2; exact False.elim k2
    | none =>
      rw [methO, e] at k2
      refine oK_of (oK_map k2) fun fn e2 k3 => ?_
      refine wpAny_bind (wpAny_standAt (wpAny_bind (wpAny_holding (get_meth (G := G) F a.sm hx ho he I e e2 ?_))))
      exact callWith_any (G := G) (F.fk fn (F.mt x hx cc fn (he ▸ e2)).2.2.2) hs (h2 G Y _ E _ (H.to a) k3 fun ds Y2 vs k4 l2 a2 r2 =>
        have b := a.trans a2
        ⟨F.x b.sm, TO.run (G := G) (N := Y2) (ds := .loc k :: ds) k4 H.rm.zero b.sm ⟨_, _, rfl, Val.on a2 r0, r2⟩ fun d3 Y3 v3 k5 a3 r3 => z d3 Y3 v3 k5 (b.trans a3) r3⟩)
  | _ => exact False.elim k1
end
end Mine

namespace Mine
open PySem PySem.W PyProof.Rows
section
variable {B : Bd} {u : Nat} {c : Ck} {G : Ev} {N Y Z : Nx} {Q E : PV → Shared → Prop} {g : Gt}
theorem stored_ne {k x : Str} {v w : PV} {t : List (Str × PV)} (h : x ≠ k) : stored ((x, w) :: t) k v = (x, w) :: stored t k v := by
  unfold stored
  have hx : decide (x = k) = false := decide_eq_false h
  simp only [List.any_cons, hx, Bool.false_or]
  split
  · rw [List.map_cons, if_neg h]
  · rfl
theorem stored_eq {k : Str} {v w : PV} {t : List (Str × PV)} (h : k ∉ t.map (·.1)) : stored ((k, w) :: t) k v = (k, v) :: t := by
  unfold stored
  simp only [List.any_cons, decide_true, Bool.true_or, if_true, List.map_cons]
  exact congrArg _ ((List.map_congr_left (g := id) fun p hp => if_neg fun e => h (List.mem_map.mpr ⟨p, hp, e⟩)).trans (List.map_id _))
theorem RVd_set {D : Wd} {z : Str} (hz : strOk z = true) {v : PV} {d : V} (rv : RV D N d v) : ∀ {l : List (V × V)} {kvs : List (Str × PV)}, RVd D N l kvs → (kvs.map (·.1)).Nodup → RVd D N (dset (.str (encS z)) d l) (stored kvs z v)
  | [], kvs, r, _ => by cases (r : kvs = []); exact ⟨z, v, [], rfl, ⟨rfl, hz⟩, rv, rfl⟩
  | (k, e) :: l, kvs, r, nd => by
    obtain ⟨x, w, t, rfl, ⟨rfl, hx⟩, r1, r2⟩ := r
    have nd := List.nodup_cons.mp nd
    by_cases e : x = z
    · subst e
      rw [show dset (.str (encS x)) d ((.str (encS x), _) :: l) = _ from if_pos (decide_eq_true rfl), stored_eq nd.1]
      exact ⟨x, v, t, rfl, ⟨rfl, hx⟩, rv, r2⟩
    · rw [show dset (.str (encS z)) d ((.str (encS x), _) :: l) = _ from if_neg fun q => e (encS_inj hx hz (of_decide_eq_true q)), stored_ne e]
      exact ⟨x, w, _, rfl, ⟨rfl, hx⟩, r1, RVd_set hz rv r2 nd.2⟩
theorem stored_nodup {k : Str} {v : PV} : ∀ {kvs : List (Str × PV)}, (kvs.map (·.1)).Nodup → ((stored kvs k v).map (·.1)).Nodup := fun {kvs} nd => by
  by_cases h : kvs.any (fun p => decide (p.1 = k)) = true
  · unfold stored
    rw [if_pos h, List.map_map, List.map_congr_left (g := (·.1)) fun p _ => by show (if p.1 = k then (p.1, v) else p).1 = p.1; split <;> rfl]
    exact nd
  · unfold stored
    rw [if_neg h, List.map_append, List.nodup_append]
    refine ⟨nd, List.nodup_cons.mpr ⟨List.not_mem_nil, List.nodup_nil⟩, fun a ha b hb e => ?_⟩
    obtain ⟨p, hp, e2⟩ := List.mem_map.mp ha
    exact h (List.any_eq_true.mpr ⟨p, hp, decide_eq_true (e2.trans (e.trans (List.mem_singleton.mp hb)))⟩)
inductive Kv (B : Bd) (u : Nat) (c : Ck) : List X → List (Option PE) → List PE → Prop
  | nil : Kv B u c [] [] []
  | cons {x y : X} {xs : List X} {k v : PE} {ks : List (Option PE)} {vs : List PE} : TE B u c x (fun env => eval k env) → TE B u c y (fun env => eval v env) → Kv B u c xs ks vs → Kv B u c (x :: y :: xs) (some k :: ks) (v :: vs)
theorem Kv.all {xs : List X} {ks : List (Option PE)} {vs : List PE} (h : Kv B u c xs ks vs) : ks.all (·.isSome) = true ∧ ks.length = vs.length := by
  induction h with
  | nil => exact ⟨rfl, rfl⟩
  | cons _ _ _ ih => exact ⟨ih.1, congrArg (· + 1) ih.2⟩
noncomputable def flatP : List (PV × PV) → List PV
  | [] => []
  | (a, b) :: r => a :: b :: flatP r
theorem pairs_all {xs : List X} {ks : List (Option PE)} {vs : List PE} (h : Kv B u c xs ks vs) (pos : Pos) : ∀ (G : Ev) (N : Nx) (Q : List (PV × PV) → Shared → Prop) (E : PV → Shared → Prop) (K : List V → St → Prop), Go B u c G N → kXs B G N xs K →
    (∀ ds Y l, K ds Y.σ → Aft B.D N noA Y → Vals B Y ds (flatP l) → Q l Y.s) → Wp B G N (evalPairs (pairTrees ks vs G.env pos)) Q E := by
  induction h with
  | nil => exact fun G N Q E K H q z => evalPairs_nil (z [] N [] q H.refl rfl)
  | cons h1 h2 _ ih => exact fun G N Q E K H q z => evalPairs_cons (h1 G N _ E _ H q fun d1 Y1 v1 k1 a1 r1 => wpAny_bind (h2 G Y1 _ E _ (H.to a1) k1 fun d2 Y2 v2 k2 a2 r2 => wpAny_bind (wpAny_standAt (wpAny_pure
      (ih G Y2 _ E _ (H.to (a1.trans a2)) k2 fun ds Y3 l k3 a3 r3 => z _ Y3 ((v1, v2) :: l) k3 ((a1.trans a2).trans a3) ⟨_, _, rfl, Val.on (a2.trans a3) r1, _, _, rfl, Val.on a3 r2, r3⟩)))))
theorem pairs_carry {K : List (V × V) → Prop} : ∀ {ds : List V} {l : List (PV × PV)} {acc : List (V × V)} {kvs : List (Str × PV)}, oK (pairUp ds acc) K → Vals B N ds (flatP l) → RVd B.D N acc kvs → (kvs.map (·.1)).Nodup →
    ∃ dd k2, K dd ∧ Carries (SK B.D) l k2 ∧ RVd B.D N dd (merged kvs k2)
  | [], [], acc, kvs, e, r, ra, nd => ⟨acc, [], e, trivial, ra⟩
  | [], _ :: _, acc, kvs, e, r, ra, nd => nomatch (show _ :: _ = [] from r)
  | [_], l, acc, kvs, e, r, ra, nd => False.elim e
  | k :: v :: ds, [], acc, kvs, e, r, ra, nd => by obtain ⟨v, t, e, _⟩ := r; cases e
  | k :: v :: ds, (a, b) :: t, acc, kvs, e, r, ra, nd => by
    obtain ⟨hk, e⟩ := if_of (show oK (if keyOk k then pairUp ds (dset k v acc) else none) K from e)
    obtain ⟨_, _, e1, r1, _, _, e2, r2, r3⟩ := r
    cases e1
    cases e2
    obtain ⟨z, tk, rfl, hz, rfl, is⟩ := key_of hk r1
    obtain ⟨dd, k2, h, c2, r4⟩ := pairs_carry e r3 (RVd_set hz r2 ra nd) (stored_nodup nd)
    exact ⟨dd, (z, b) :: k2, h, ⟨is, rfl, c2⟩, r4⟩
noncomputable def dictObj : Obj := { cls := .type "dict", data := .dict #[] }
theorem tf_dict {xs : List X} {ks : List (Option PE)} {vs : List PE} {pos : Pos} (h : Kv B u c xs ks vs) (hl : ks.length ≤ 15) : TF B u c (.dict xs) (fun env => eval (.Dict ks vs pos) env) := fun G N Q E K H q z => by
  obtain ⟨a, p⟩ := push_ok H.sm (o := dictObj) rfl
  have dn : IsDc B.D (N.s.heap.push dictObj) N.s.heap.objs.size [] := ⟨H.sm.one, Heap.DictOf.new N.s.heap⟩
  cases h with
  | nil => exact wpAny_Dict_empty (z (.dict []) (N.psh _) _ q a no_new p ⟨[], dn, rfl⟩)
  | @cons x y xs k v ks vs h1 h2 h3 =>
    have hk := (Kv.cons h1 h2 h3).all
    refine wpAny_Dict_walk (knd := SK B.D) hk.1 hk.2 (by simp) (by omega) (pairs_all (.cons h1 h2 h3) pos G (N.psh dictObj) _ E _ (H.to a) q fun ds Y l k1 a1 r1 => ?_)
    obtain ⟨dd, k2, hK, c2, r2⟩ := pairs_carry (kvs := []) k1 r1 rfl List.nodup_nil
    refine ⟨k2, c2, dn.2.at (fun o e => a1.old p.nc e), fun h' dh sb => ?_⟩
    have t := Aft.turn1 (t := Y.s.toks + l.length) a1.sm (p.go a1) (fun c o n e => sb.extBut c o n e) (dh.elim fun o q => q.elim fun _ q => q.elim fun _ q => ⟨o, q.1⟩)
    exact z (.dict dd) (Y.at _) _ hK (((a.trans a1).up.trans t).hide fun b e => by rw [e]; exact no_new) no_new ((p.go a1).go t) ⟨_, ⟨H.sm.one, dh⟩, RVd_le t.le _ _ r2⟩
theorem beq_none {r : V} (h : V.beq r .none = true) : r = .none := by cases r <;> first | rfl | exact absurd h Bool.false_ne_true
noncomputable def newH (h : Heap) (C : Addr) : Heap := (h.push emptyDict).push (instObj C h.objs.size)
noncomputable def newP (h : Heap) : Addr × Addr := (h.objs.size + 1, h.objs.size)
theorem new_obj {k : Nat} (m : Sm B.D N) (hk : k < B.D.nc) : Aft B.D N noA ((N.at { N.s with heap := newH N.s.heap (B.D.ca k) }).lo (newP N.s.heap) (.inst k [])) := by
  have w := (More.refl N).push emptyDict
  have w2 := w.push (instObj (B.D.ca k) N.s.heap.objs.size)
  have e0 : (N.s.heap.push emptyDict).get? N.s.heap.objs.size = some emptyDict := push_at rfl
  have e1 : (newH N.s.heap (B.D.ca k)).get? (N.s.heap.objs.size + 1) = some (instObj (B.D.ca k) N.s.heap.objs.size) := by
    have := Heap.get?_push_size (N.s.heap.push emptyDict) (o := instObj (B.D.ca k) N.s.heap.objs.size) rfl
    rw [Heap.size_push] at this
    exact this
  have n1 : ¬ N.has (N.s.heap.objs.size + 1) := fun h => absurd (has_lt h) (Nat.not_lt.mpr (Nat.le_succ _))
  exact (w2.aft m).lo (w2.pv m n1 e1) (w2.pv m no_new (Heap.get?_push_of_some _ e0)) ⟨n1, no_new⟩ (base_none m no_new)
    ⟨⟨hk, e1⟩, Nat.succ_ne_self _, fun _ => none, [], (Heap.Ns1.of_empty (Heap.Ns.new N.s.heap (.type "dict"))).at fun o e => Heap.get?_push_of_some _ e, fun x _ => rfl, Within.nil, Nat.le_refl _⟩
theorem te_new {k : Nat} {x : Str} {xs : List X} {es : List PE} {np pos : Pos} (F : Facts B g) (TO : TOk B) (hu : 40 ≤ u) (h0 : g.clss.lookup x = some k) (h1 : c.sc.names.lookup x = some .globalImplicit) (h2 : (x == ("__debug__" : Str)) = false)
    (hs : es.all (fun e => !isStarred e) = true) (h3 : TEs B u c xs (fun env => spliced (backTo pos (starEach es env)))) : TE B u c (.new k xs) (fun env => eval (.Call (.Name x np) es [] pos) env) := fun G N Q E K H q z => by
  obtain ⟨hcl, hk⟩ := F.cl x k h0
  have C := F.ck k hk
  refine wpAny_bind (wpAny_Name (load_glo H F h1 hcl (callWith_any C.kp hs (h3 G N _ E _ H q fun ds Y vs k1 l1 a r => ⟨F.x a.sm, ?_⟩))) h2)
  refine oK_of k1 fun f hf k2 => ?_
  obtain ⟨i1, i2⟩ := F.ini k f hf hk
  refine wpAny_call (make_core (makes_of (F.x a.sm) C.mkc) (looks_findIn (F.x a.sm) i1) (fun self => bind_fn (F.x a.sm) self i2) (.inl rfl) ?_)
  have af := new_obj (k := k) a.sm hk
  have rl : Val B ((Y.at { Y.s with heap := newH Y.s.heap (B.D.ca k) }).lo (newP Y.s.heap) (.inst k [])) (.loc Y.σ.length) (.ref (Y.s.heap.objs.size + 1)) := ⟨newP Y.s.heap, rfl, by rw [← a.sm.len]; exact at_end⟩
  have h1 := H.rm.depth
  have h2 := H.rm.units
  refine (TO (G.A.under (.builtin "type.__call__" ⟨.ref (B.D.ca k) :: ([] ++ vs), []⟩)) _ f (.loc Y.σ.length :: ds) (.ref (Y.s.heap.objs.size + 1) :: vs) _ k2
    ⟨by show G.A.depth + 1 + 5 * B.n + 0 + 2 < recursionLimit; omega, by show G.A.units + 1 + 100 * B.n + 0 < cLine; omega, H.rm.hand⟩ af.sm ⟨_, _, rfl, rl, Vals.on af r⟩).2 _ fun d Y3 v3 k3 a3 r3 => ?_
  obtain ⟨hn, k4⟩ := bK_of k3
  cases beq_none hn
  exact ⟨r3, z (.loc Y.σ.length) Y3 _ k4 ((a.trans af).trans a3) (Val.on a3 rl)⟩
end
end Mine

namespace Mine
open PySem PySem.W PyProof.Rows PySem.Calls

structure BiOk (D : Wd) (c : Ck) (x : Str) (v : PV) : Prop where
  g : nsIn D.K mainGlobals x = some none
  b : nsIn D.K builtinsNs x = some (some v)
  k : c.sc.names.lookup x = some .globalImplicit
  d : (x == ("__debug__" : Str)) = false
noncomputable def isBi : PV → Bool
  | .builtin _ => true
  | .type _ => true
  | _ => false
section
variable {B : Bd} {u : Nat} {c : Ck} {G : Ev} {N Y Z : Nx} {Q E : PV → Shared → Prop} {g : Gt}
theorem callWith_bi {f : PV} {first : List PV} {es : List PE} {pos : Pos} (hk : isBi f = true) (hs : es.all (fun e => !isStarred e) = true)
    (h : Wp B G N (spliced (backTo pos (starEach es G.env))) (fun vs s₁ => wpAny (model B.D.prog B.D.w) G.A (call f (first ++ vs)) Q E s₁) E) : Wp B G N (callWith pos f first (backTo pos (starEach es G.env)) []) Q E := by
  have args : wpAny (model B.D.prog B.D.w) G.A (evalArgs f true (backTo pos (starEach es G.env)) []) (fun a s₁ => wpAny (model B.D.prog B.D.w) G.A (call f (first ++ a.pos) a.kw) Q E s₁) E N.s := by
    cases es with
    | nil =>
      show wpAny _ G.A (spliced [] >>= _) _ E N.s
      exact wpAny_bind (wpAny_mono h (fun vs s' h' => wpAny_holding (wpAny_bind (wpAny_pure (wpAny_bind (wpAny_pure (wpAny_pure h')))))) fun _ _ x => x)
    | cons e r =>
      rw [starEach_cons (of_not (and_l hs))] at h ⊢
      exact Calls.evalArgs_plain h
  cases f with
  | builtin id => exact Calls.callWith_builtin (plain_any es hs) args
  | type t => exact PySem.callWith_type (plain_any es hs) args
  | _ => exact absurd hk Bool.false_ne_true
theorem call_name {x : Str} {v : PV} {xs : List X} {es : List PE} {np pos : Pos} {K : List V → St → Prop} (F : Facts B g) (BB : BiOk B.D c x v) (hv : isBi v = true) (hs : es.all (fun e => !isStarred e) = true) (h3 : TEs B u c xs (fun env => spliced (backTo pos (starEach es env))))
    (H : Go B u c G N) (q : kXs B G N xs K) (z : ∀ ds Y vs, K ds Y.σ → Aft B.D N noA Y → Vals B Y ds vs → wpAny (model B.D.prog B.D.w) G.A (call v vs) Q E Y.s) : Wp B G N (eval (.Call (.Name x np) es [] pos) G.env) Q E :=
  wpAny_bind (wpAny_Name (load_blt H F BB.k BB.g BB.b (callWith_bi hv hs (h3 G N _ E _ H q fun ds Y vs k _ a r => z ds Y vs k a r))) BB.d)
noncomputable def CallOk (B : Bd) (u : Nat) (f : PV) (b : Bi) : Prop :=
  ∀ (G : Ev) (N : Nx) (ds : List V) (vs : List PV) (Q E : PV → Shared → Prop) (K : V → Prop), Room B.n u G.A → oK (biE N.σ b ds) K → Sm B.D N → Vals B N ds vs →
    (∀ d Y v, K d → Aft B.D N noA Y → Y.σ = N.σ → Val B Y d v → Q v Y.s) → Wp B G N (call f vs) Q E
noncomputable def CallF (B : Bd) (u : Nat) (f : PV) (b : Bi) : Prop :=
  ∀ (G : Ev) (N : Nx) (ds : List V) (vs : List PV) (Q E : PV → Shared → Prop) (K : V → Prop), Room B.n u G.A → oK (biE N.σ b ds) K → Sm B.D N → Vals B N ds vs →
    (∀ d Y a, K d → Aft B.D N noA Y → Y.σ = N.σ → ¬ N.has a → Pv Y a → RC B.D Y a d → Q (.ref a) Y.s) → Wp B G N (call f vs) Q E
theorem te_bi {b : Bi} {x : Str} {f : PV} {xs : List X} {es : List PE} {np pos : Pos} (F : Facts B g) (BB : BiOk B.D c x f) (hf : isBi f = true) (hs : es.all (fun e => !isStarred e) = true) (h3 : TEs B u c xs (fun env => spliced (backTo pos (starEach es env)))) (hc : CallOk B u f b) :
    TE B u c (.bi b xs) (fun env => eval (.Call (.Name x np) es [] pos) env) := fun G N Q E K H q z =>
  call_name F BB hf hs h3 H q fun ds Y vs k a r => hc G Y ds vs Q E _ H.rm k a.sm r fun d Z v k2 a2 es r2 => z d Z v (by rw [es]; exact k2) (a.trans a2) r2
theorem tf_bi {b : Bi} {x : Str} {f : PV} {xs : List X} {es : List PE} {np pos : Pos} (F : Facts B g) (BB : BiOk B.D c x f) (hf : isBi f = true) (hs : es.all (fun e => !isStarred e) = true) (h3 : TEs B u c xs (fun env => spliced (backTo pos (starEach es env)))) (hc : CallF B u f b) :
    TF B u c (.bi b xs) (fun env => eval (.Call (.Name x np) es [] pos) env) := fun G N Q E K H q z =>
  call_name F BB hf hs h3 H q fun ds Y vs k a r => hc G Y ds vs Q E _ H.rm k a.sm r fun d Z b k2 a2 es n p rc => z d Z b (by rw [es]; exact k2) (a.trans a2) (fun h => n (a.ex _ h)) p rc
theorem one_of {l : List V} {f : V → Option V} {K : V → Prop} (h : oK (one l f) K) : ∃ v, l = [v] ∧ oK (f v) K := match l, h with
  | [v], h => ⟨v, rfl, h⟩
theorem Vals.one {d : V} {vs : List PV} (r : Vals B N [d] vs) : ∃ v, vs = [v] ∧ Val B N d v := r.elim fun v q => q.elim fun t q => ⟨v, q.1.trans (congrArg (v :: ·) q.2.2), q.2.1⟩
theorem uno {f : V → Option V} {ds : List V} {vs : List PV} {K : V → Prop} {Z : Prop} (e : oK (one ds f) K) (r : Vals B N ds vs) (z : ∀ d v, vs = [v] → oK (f d) K → Val B N d v → Z) : Z :=
  (one_of e).elim fun d q => (Vals.one (N := N) (d := d) (by rw [← q.1]; exact r)).elim fun v w => z d v w.1 q.2 w.2
theorem len_eq {l : List V} {vs : Array PV} (rs : Vals B N l vs.toList) : vs.size = l.length := Array.length_toList.symm.trans (RVs_length rs)
theorem RVd_length {D : Wd} : ∀ {d : List (V × V)} {v : List (Str × PV)}, RVd D N d v → v.length = d.length
  | [], v, r => congrArg List.length r
  | _ :: l, v, ⟨n, w, t, e, _, _, r2⟩ => (congrArg List.length e).trans (congrArg (· + 1) (RVd_length r2))
theorem cap_ln {n m : Nat} (e : n = m) (h : m ≤ capL) : n ≤ sizeLine := cap_line (e ▸ h)
theorem cap_63 {n m : Nat} (e : n = m) (h : m ≤ capL) : (n : Int) < 2 ^ 63 := Int.lt_of_le_of_lt (Int.ofNat_le.mpr (Nat.le_trans (Nat.le_of_eq e) h)) (by decide)
theorem ok_int : CallOk B u (.type "int") .int := fun G N ds vs Q E K rm e0 sm r0 z => uno e0 r0 fun d v hv e rv => by
  obtain ⟨i, t, rfl, rfl, e⟩ := asInt_of (oK_map e) rv
  subst hv
  exact call_int_int (z _ N _ e (.refl sm) rfl ⟨t, rfl⟩)
theorem ok_max : CallOk B u (.builtin "max") .max := fun G N ds vs Q E K rm e sm rs z => match ds, e, rs with
  | [a, b], e, rs => by
    obtain ⟨v, _, rfl, r1, w, _, rfl, r2, e3⟩ := rs
    cases (e3 : _ = [])
    obtain ⟨i, t, rfl, rfl, e⟩ := asInt_of (B := B) (oK_bind e) r1
    obtain ⟨j, t', rfl, rfl, e⟩ := asInt_of (B := B) (oK_map e) r2
    have w : ∃ tk, (if j > i then Value.int j t' else .int i t) = .int (if i < j then j else i) tk := (Decidable.em (i < j)).elim (fun h => ⟨t', by rw [if_pos h, if_pos h]⟩) fun h => ⟨t, by rw [if_neg h, if_neg h]⟩
    exact max_two_ints rm.hand fun h' tk kp => z _ (N.at { N.s with heap := h', toks := tk }) _ e ((⟨kp, rfl, rfl⟩ : More N { N.s with heap := h', toks := tk }).aft sm) rfl w
theorem ok_len : CallOk B u (.builtin "len") .len := fun G N ds vs Q E K rm e0 sm r0 z => uno e0 r0 fun d v hv e rv => by
  subst hv
  have fin : ∀ {n m : Nat} {t : Nat}, n = m → K (.int m) → Q (.int n t) { N.s with toks := t + 1 } := fun hn hk => z _ (N.tk _) _ hk (toks_ok sm _) rfl ⟨_, congrArg (fun k : Nat => Value.int k _) hn⟩
  have seq : oK (((asList N.σ d).bind okLen).map fun l => V.int l.length) K → Wp B G N (call (.builtin "len") [v]) Q E := fun e => seq_of sm (oK_bind (oK_map e)) rv fun l a arr e hx t rs => by
    subst hx
    have w := if_of e
    have hlen := len_eq rs
    exact t.elim (fun t => call_len_list t (cap_63 hlen w.1) (fin hlen w.2)) fun t => len_tuple t (cap_63 hlen w.1) (fin hlen w.2)
  cases d with
  | dict l =>
    obtain ⟨hl, e⟩ := if_of e
    obtain ⟨a, kvs, rfl, wa, t, rs⟩ := rv
    have hlen := RVd_length rs
    exact call_len_dict (not_sys t.1) t.2 (cap_63 hlen hl) (fin hlen e)
  | _ => exact seq e
theorem cf_list : CallF B u (.type "list") .list := fun G N ds vs Q E K rm e0 sm r0 z => uno e0 r0 fun d v hv e rv => seq_of sm (oK_bind (oK_map e)) rv fun l a arr e hx t rs => by
  subst hv hx
  have w := if_of e
  have go : ∀ T o (n : Nat), (T = "list" ∨ T = "tuple") → N.s.heap.get? a = some o → o.cls = .type T → o.data = .seq arr n → Wp B G N (call (.type "list") [.ref a]) Q E := fun T o n hT ho hc hd =>
    call_list_seq a hT ho hc hd (fun h' c' kp e1 =>
      have m : More N { N.s with heap := h' } := ⟨kp, rfl, rfl⟩
      z _ (N.at _) _ w.2 (m.aft sm) rfl no_new (m.pv sm no_new e1) ⟨arr, ⟨c', e1⟩, Vals.on (m.aft sm) rs⟩) (cap_ln (len_eq rs) w.1)
  exact t.elim (fun ⟨o, ho, hc, n, hd⟩ => go "list" o n (.inl rfl) ho hc hd) fun ⟨o, ho, hc, n, hd⟩ => go "tuple" o n (.inr rfl) ho hc hd
theorem CallF.ok {f : PV} {b : Bi} (h : CallF B u f b) : CallOk B u f b := fun G N ds vs Q E K rm e sm rs z => h G N ds vs Q E K rm e sm rs fun d Y a k f es n p r =>
  z d (Y.wi a) _ k (f.wi p n) es (RC_RV (.inr rfl) (RC_le Le.wi (fun _ e => e) r))
theorem ok_tuple : CallOk B u (.type "tuple") .tuple := fun G N ds vs Q E K rm e0 sm r0 z => uno e0 r0 fun d v hv e rv => by
  subst hv
  have lst : oK (((asLst N.σ d).bind okLen).map V.tup) K → Wp B G N (call (.type "tuple") [v]) Q E := fun e => lst_of sm (oK_bind (oK_map e)) rv fun l a e hx rc => by
    subst hx
    obtain ⟨arr, t, rs⟩ := rc
    have w := if_of e
    exact call_tuple_list t.list (fun h' kp => have m := new_tup (N := N) (⟨kp, rfl, rfl⟩ : More N { N.s with heap := h' }) sm rs; z _ _ _ w.2 m.1 rfl m.2) (cap_ln (len_eq rs) w.1)
  cases d with
  | tup k =>
    have w := if_of (oK_map e)
    obtain ⟨a, arr, rfl, wa, t, rs⟩ := id rv
    exact call_tuple_same (IsTp.tup t) (z _ N _ w.2 (.refl sm) rfl rv)
  | list k => exact lst e
  | loc k => exact lst e
  | _ => exact False.elim e
theorem getL_of {l : List (V × V)} {a : List V} {K : V → Prop} (h : oK (getL l a) K) : ∃ s v, a = [.str s, v] ∧ K ((dget (.str s) l).getD v) := match a, h with
  | [k, v], h => by
    have h : oK (getS l k v) K := h
    cases k <;> first | exact ⟨_, _, rfl, h⟩ | exact False.elim h
theorem dict_typ {a : Addr} {kvs : List (Str × PV)} (t : IsDc B.D N.s.heap a kvs) : N.s.TypeIs (.ref a) "dict" ∧ ∀ b, Value.ref a = .ref b → ∃ o, N.s.heap.get? b = some o ∧ o.dict = none :=
  ⟨t.2.typeIs, fun b e => by cases e; obtain ⟨o, es, ep, ho, ex, _⟩ := t.2; exact ⟨o, ho, ex.2.1⟩⟩
theorem list_typ {a : Addr} {vs : Array PV} (t : IsLs N.s.heap a vs) : N.s.TypeIs (.ref a) "list" ∧ ∀ b, Value.ref a = .ref b → ∃ o, N.s.heap.get? b = some o ∧ o.dict = none :=
  ⟨t.list.typeIs, fun b e => by cases e; exact t.elim fun k ho => ⟨_, ho, rfl⟩⟩
theorem call_meth {o : PE} {y : X} {x : Str} {t id : String} {xs : List X} {es : List PE} {apos pos : Pos} (pa : PlainAttrs t) (slot : Slot t x id) (hty : typeOf (.builtin id) = pure (.type "method_descriptor"))
    (hb : plainBase o = true) (hl : (apos.endLine == pos.line) = true) (hn : es.length < 29) (hs : es.all (fun e => !isStarred e) = true) (h1 : TE B u c y (fun env => eval o env)) (h3 : TEs B u c xs (fun env => spliced (backTo pos (starEach es env))))
    {J : V → St → Prop} (H : Go B u c G N) (q : kX B G N y J)
    (z : ∀ d Y v, J d Y.σ → Aft B.D N noA Y → Val B Y d v → (Y.s.TypeIs v t ∧ ∀ a, v = .ref a → ∃ o, Y.s.heap.get? a = some o ∧ o.dict = none) ∧ ∃ K, kXs B G Y xs K ∧
      ∀ ds Z vs, K ds Z.σ → Aft B.D Y noA Z → Vals B Z ds vs → wpAny (model B.D.prog B.D.w) G.A (call (.builtin id) (v :: vs)) Q E Z.s) : Wp B G N (eval (.Call (.Attribute o x apos) es [] pos) G.env) Q E := by
  rw [eval_method hb hl hn hs]
  exact wpAny_bind (h1 G N _ E _ H q fun d Y v k1 a r => (z d Y v k1 a r).elim fun w q => q.elim fun K q =>
    wpAny_bind (wpAny_standAt (wpAny_bind (wpAny_holding (getMethod_builtin w.1 pa slot hty w.2 (callWith_bi (G := G) (N := Y) (first := [v]) rfl hs (h3 G Y _ E _ (H.to a) q.1 fun ds Z vs k2 _ a2 r2 => q.2 ds Z vs k2 a2 r2)))))))
end
end Mine

namespace Mine
open PySem PySem.W PyProof.Rows PySem.Calls
theorem no_keys_list : typeLookup (.type "list") "keys" = pure none := by rw [typeLookup_type, builtinLookup_eq_fast]; kernel_rfl
theorem keys_of_list {prog : Program} {w : World} {A : Around} {E : PV → Shared → Prop} {s : Shared} {a : Addr} {xs : Array PV} {k : Nat} {sl : Array (Option PV)} {Q : Option PV → Shared → Prop} (hx : s.heap.get? a = some { cls := .type "list", dict := none, data := .seq xs k, slots := sl }) (hA : A.handled = none)
    (q : ∀ h' tk, (∀ b o, s.heap.get? b = some o → h'.get? b = some o) → Q none { s with heap := h', toks := tk }) : wpAny (model prog w) A (getAttr? (.ref a) "keys") Q E s := by
  obtain ⟨hp, g, d, tk, os⟩ := s
  have hT : ∀ tk', (⟨hp, g, d, tk', os⟩ : Shared).TypeIs (.ref a) "list" := fun _ => ⟨_, hx, rfl⟩
  have f1 := sub_AttributeError
  have f3 := F.slot_list_getattribute.lookup
  have f4 := F.slot_list_getattribute.bind (.ref a)
  have f5 := am_list_getattr_none
  unfold getAttr? getAttrBy? getAttrBy
  repeat (any_goals (first | assumption | exact hT _ | ((with_reducible show wpAny _ _ (call (Value.builtin "list.__getattribute__") _ _) _ _ _); refine call_meets F.slot_list_getattribute (hT _) am_entry_list_getattribute (F.args_list_getattribute_2 _ _) (meets_getattribute_miss_list a xs k sl "keys" _ no_keys_list (by decide) (by decide)) ⟨hx, hA, fun h' tk' e hx' => ?_⟩) | wp_step))
  obtain ⟨t', u', he⟩ := hx'.there
  show wpAny _ _ (getattributeRaised _ _ _ _ _ _ _) _ _ _
  unfold getattributeRaised
  repeat (any_goals (first | assumption | wp_step))
  exact q h' tk' hx'.of.keeps
theorem entry_upd_loop : entryFor table "dict.update.loop" = some Builtin.«dict.update.loop» := entryFor_of_tree (by kernel_rfl)
theorem plain_upd_loop : plainId "dict.update.loop" = true := by decide +kernel
theorem kvOf_of {x : V} {K : Nat × V → Prop} (e : oK (kvOf x) K) : ∃ s v, x = .tup [.str s, v] ∧ K (s, v) := by
  cases x with
  | tup l => match l, (show oK (kvL l) K from e) with
    | [k, v], e =>
      have e : oK (kvS k v) K := e
      cases k <;> first | exact ⟨_, _, rfl, e⟩ | exact False.elim e
  | _ => exact False.elim e
theorem arr_at {arr : Array PV} {k : Nat} {v : PV} {t : List PV} (e : arr.toList.drop k = v :: t) : arr[k]? = some v ∧ arr.toList.drop (k + 1) = t :=
  ⟨Array.getElem?_toList.symm.trans ((List.getElem?_drop.symm.trans (congrArg (·[0]?) e) : arr.toList[k + 0]? = _)), (List.drop_drop ..).symm.trans (congrArg (·.drop 1) e)⟩
theorem arr_end {arr : Array PV} {k : Nat} (e : arr.toList.drop k = []) : arr[k]? = none := Array.getElem?_toList.symm.trans (List.getElem?_eq_none (List.drop_eq_nil_iff.mp e))
section
variable {B : Bd} {u : Nat} {c : Ck} {G : Ev} {N Y Z : Nx} {Q E : PV → Shared → Prop} {g : Gt}
theorem Le.of {h' : Heap} {tk : Nat} (k : ∀ b o, N.W b → N.s.heap.get? b = some o → h'.get? b = some o) : Le N (N.at { N.s with heap := h', toks := tk }) := ⟨fun b o w e => ⟨k b o w e, w⟩, fun _ _ e => e⟩
theorem dict_nodup {D : Wd} {h : Heap} {a : Addr} {kvs : List (Str × PV)} (t : IsDc D h a kvs) : (kvs.map (·.1)).Nodup := t.2.elim fun _ q => q.elim fun _ q => q.elim fun _ q => q.2.2.2.2.2
theorem upd_loop {dd it l : Addr} {arr : Array PV} {result : PV} (hdi : dd ≠ it) (hdl : dd ≠ l) (hil : it ≠ l) {R : Result → Shared → Prop} {K : List (V × V) → Prop} :
    ∀ (ds : List V) (k : Nat) (acc : List (V × V)) (kvs : List (Str × PV)) (A : Around) (i : Int) (N : Nx), ¬ N.W dd → ¬ N.W it → A.handled = none → Vals B N ds (arr.toList.drop k) → oK (updD acc ds) K →
      RVd B.D N acc kvs → IsDc B.D N.s.heap dd kvs → N.s.heap.IsListIter it l k → N.s.heap.IsList l arr → kvs.length + ds.length ≤ sizeLine →
      (∀ d h' tk kvs', K d → (∀ b o, b ≠ dd → b ≠ it → N.s.heap.get? b = some o → h'.get? b = some o) → IsDc B.D h' dd kvs' → RVd B.D (N.at { N.s with heap := h', toks := tk }) d kvs' → R (.ok (.ret result)) { N.s with heap := h', toks := tk }) →
      codeAny (model B.D.prog B.D.w) A (.builtin "dict.update.loop" ⟨[.ref dd, .ref it, rawInt i, result], []⟩) R N.s
  | [], k, acc, kvs, A, i, N, wd, wi, hh, rs, hp, ra, td, ti, tl, hz, q => by
    refine codeAny_builtin entry_upd_loop ?_
    rw [Around.under_plainId plain_upd_loop _]
    show wpAny _ A.in1 (pyNext (.ref it) >>= _) _ _ N.s
    refine wpAny_bind (wpAny_pyNext_list_end hh ti tl (arr_end rs) fun h' eb => ?_)
    show wpAny _ A.in1 (Builtin.Dict.addKeywords dd [] >>= _) _ _ _
    exact wpAny_bind (wpAny_pure (wpAny_pure (q acc h' _ kvs hp (fun b o _ n2 e => eb b o n2 e) (td.at fun o e => eb _ o hdi e) (RVd_le (Le.of fun b o w e => eb b o (fun z => wi (z ▸ w)) e) _ _ ra))))
  | x :: ds, k, acc, kvs, A, i, N, wd, wi, hh, rs, hp, ra, td, ti, tl, hz, q => by
    obtain ⟨n, d, rfl, hp⟩ := kvOf_of (oK_bind hp)
    obtain ⟨v, t, e, ⟨a, pa, rfl, wa, ⟨n0, ta⟩, _, _, ep, ⟨z, tk, rfl, hz1, rfl⟩, v2, _, rfl, r2, rfl⟩, r3⟩ := rs
    obtain ⟨hv, ht⟩ := arr_at e
    refine codeAny_builtin entry_upd_loop ?_
    rw [Around.under_plainId plain_upd_loop _]
    show wpAny _ A.in1 (pyNext (.ref it) >>= _) _ _ N.s
    refine wpAny_bind (wpAny_pyNext_list_item ti tl hv fun h1 ti1 sb => ?_)
    have ta1 : h1.get? a = some { cls := .type "tuple", dict := none, data := .seq pa n0, slots := #[] } := sb.extBut a _ (fun z => wi (z ▸ wa)) ta
    show wpAny _ A.in1 (holding [Value.ref a] _ >>= _) _ _ _
    refine wpAny_bind (wpAny_holding (wpAny_bind (wpAny_tryCatch ?_)))
    unfold Builtin.Dict.pairItems
    refine wpAny_bind (wpAny_typeOf (T := "tuple") ⟨_, ta1, rfl⟩ ?_)
    rw [if_pos (by decide)]
    refine wpAny_bind (wpAny_seqItems ta1 rfl (wpAny_pure ?_))
    show wpAny _ A.in1 (match pa.toList with | [k, v] => _ | l => _) _ _ _
    rw [ep]
    refine wpAny_holding (wpAny_dictSet_pairs (strKind_is _ _ _ _) (td.2.at fun o e => sb.extBut _ o hdi e) (fun h2 td2 sb2 => ?_) (by simp only [List.length_cons] at hz; omega))
    have up : ∀ b o, b ≠ dd → b ≠ it → N.s.heap.get? b = some o → h2.get? b = some o := fun b o n1 n2 e => sb2.extBut b o n1 (sb.extBut b o n2 e)
    have l := Le.of (N := N) (tk := N.s.toks + 1) fun b o w e => up b o (fun z => wd (z ▸ w)) (fun z => wi (z ▸ w)) e
    obtain ⟨o1, ho1, w1⟩ := ti1
    obtain ⟨o2, ho2, w2⟩ := tl
    exact wpAny_pure ⟨plainId_quiet plain_upd_loop _, upd_loop hdi hdl hil ds (k + 1) (dset (.str (encS z)) d acc) (stored kvs z v2) A (i + 1) (N.at _) wd wi hh (by rw [ht]; exact RVs_le l _ _ r3) hp
      (RVd_set hz1 (RV_le l _ _ r2) (RVd_le l _ _ ra) (dict_nodup td)) ⟨td.1, td2⟩ ⟨o1, sb2.extBut _ _ (Ne.symm hdi) ho1, w1⟩ ⟨o2, up _ o2 (Ne.symm hdl) (Ne.symm hil) ho2, w2⟩
      (by have := stored_length_le kvs z v2; simp only [List.length_cons] at hz; omega) fun d h' tk' kvs' hk kp td' rd => q d h' tk' kvs' hk (fun b o n1 n2 e => kp b o n1 n2 (up b o n1 n2 e)) td' rd⟩
noncomputable def itObj (l : Addr) : Obj := { cls := .type "list_iterator", data := .fields #[.ref l, .int 0 0] }
theorem call_dict_pairs {l : Addr} {arr : Array PV} {ds : List V} {K : List (V × V) → Prop} (sm : Sm B.D N) (hh : G.A.handled = none) (il : IsLs N.s.heap l arr) (rs : Vals B N ds arr.toList)
    (hp : oK (updD [] ds) K) (hz : ds.length ≤ capL) (z : ∀ d Y a, K d → Aft B.D N noA Y → Y.σ = N.σ → ¬ N.has a → Pv Y a → RC B.D Y a (.dict d) → Q (.ref a) Y.s) : Wp B G N (call (.type "dict") [.ref l]) Q E := by
  refine callType_codes (Q₁ := fun obj s₁ => obj = .ref N.s.heap.objs.size ∧ s₁ = { N.s with heap := N.s.heap.push dictObj }) PySem.F.kt_called_dict (PySem.F.kt_typeCall_dict_1 _) PySem.F.entry_dict_init (kt_code_dict_new _ ⟨rfl, rfl⟩) ?_
  rintro obj s₁ ⟨rfl, rfl⟩
  have hnew : (N.s.heap.push dictObj).DictOf (SK B.D) N.s.heap.objs.size [] := Heap.DictOf.new N.s.heap
  obtain ⟨kk, ho⟩ := id il
  have lt := Heap.lt_size ho
  have m1 := (More.refl N).push dictObj
  have ho1 := m1.k _ _ ho
  refine ⟨hnew.typeIs, PySem.F.args_dict_init_2 _ _, ?_⟩
  unfold Builtin.«dict.__init__»
  refine wpAny_bind ?_
  unfold Builtin.Dict.selfAndRest
  refine wpAny_bind (wpAny_notOrdered_dict hnew.typeIs ?_)
  show wpAny _ _ (pure (N.s.heap.objs.size, [Value.ref l])) _ _ _
  refine wpAny_pure ?_
  show wpAny _ _ (Builtin.Dict.updateFrom "dict.__init__" N.s.heap.objs.size (.ref l) [] .none) _ _ _
  unfold Builtin.Dict.updateFrom
  refine wpAny_bind (wpAny_typeOf (T := "list") ⟨_, ho1, rfl⟩ ?_)
  rw [if_pos (by decide)]
  refine wpAny_bind (keys_of_list ho1 hh fun h1 tk1 k1 => ?_)
  have il1 : IsLs h1 l arr := ⟨kk, k1 _ _ ho1⟩
  have dn1 := hnew.at (h' := h1) fun o e => k1 _ _ e
  simp only [Option.isNone_none, if_true]
  refine wpAny_bind (wpAny_rule ?_)
  refine wpAny_bind (wpAny_pyIter_list (IsLs.list il1) (wpAny_pure ⟨plainId_quiet plain_upd_loop _, ?_⟩))
  have lt1 := dn1.elim fun o q => q.elim fun _ q => q.elim fun _ q => Heap.lt_size q.1
  have m2 : More N { N.s with heap := h1.push (itObj l), toks := tk1 } := ⟨fun b o e => Heap.get?_push_of_some _ (k1 b o (m1.k b o e)), rfl, rfl⟩
  have ni : ¬ N.has h1.objs.size := (⟨fun b o e => k1 b o (m1.k b o e), rfl, rfl⟩ : More N { N.s with heap := h1 }).no
  have a2 := m2.aft sm
  refine upd_loop (B := B) (arr := arr) (l := l) (Nat.ne_of_lt lt1) (Nat.ne_of_gt lt) (Nat.ne_of_gt (Heap.lt_size (k1 _ _ ho1)))
    ds 0 [] [] _ 0 (N.at { N.s with heap := h1.push (itObj l), toks := tk1 }) (fun w => no_new (sm.wd _ w)) (fun w => ni (sm.wd _ w)) hh (Vals.on a2 rs) hp rfl ⟨sm.one, dn1.push _⟩ ⟨_, Heap.get?_push_size _ rfl, rfl, rfl⟩ ((IsLs.list il1).at fun o e => Heap.get?_push_of_some _ e) ?_ fun d h' tk kvs' hk kp td rd => ?_
  · rw [List.length_nil, Nat.zero_add]; exact cap_line hz
  · have m3 : More N { N.s with heap := h', toks := tk } := ⟨fun b o e => kp b o (fun q => no_new (q ▸ has_of e)) (fun q => ni (q ▸ has_of e)) (m2.k b o e), rfl, rfl⟩
    exact ⟨rfl, z d (N.at _) _ hk (m3.aft sm) rfl no_new (td.2.elim fun o q => q.elim fun _ q => q.elim fun _ q => m3.pv sm no_new q.1) ⟨_, td, rd⟩⟩
theorem copy_dict {v0 : V} {v : PV} {K : V → Prop} (sm : Sm B.D N) (e : oK ((asDict N.σ v0).bind fun l => if l.length ≤ capL then some (V.dict l) else none) K) (rv : Val B N v0 v)
    (z : ∀ d Y a, K d → Aft B.D N noA Y → Y.σ = N.σ → ¬ N.has a → Pv Y a → RC B.D Y a d → Q (.ref a) Y.s) : Wp B G N (call (.type "dict") [v]) Q E :=
  dict_of sm (oK_bind e) rv fun l x kvs e hx t rs => by
    obtain ⟨hl, e⟩ := if_of e
    subst hx
    refine kt_call_dict (not_sys t.1) t.2 (cap_ln (RVd_length rs) hl) fun h' dh sb => ?_
    have m : More N { N.s with heap := h' } := ⟨fun b o e => sb.extBut b o (fun q => no_new (q ▸ has_of e)) (Heap.get?_push_of_some _ e), rfl, rfl⟩
    exact z _ (N.at _) _ e (m.aft sm) rfl no_new (dh.elim fun o q => q.elim fun _ q => q.elim fun _ q => m.pv sm no_new q.1) ⟨_, ⟨sm.one, dh⟩, RVd_le (m.aft sm).le _ _ rs⟩
theorem cf_dict : CallF B u (.type "dict") .dict := fun G N ds vs Q E K rm e0 sm r0 z => uno e0 r0 fun d v hv e rv => by
  subst hv
  have cp : oK ((asDict N.σ d).bind fun l => if l.length ≤ capL then some (V.dict l) else none) K → Wp B G N (call (.type "dict") [v]) Q E := fun e => copy_dict sm e rv z
  cases d with
  | list l =>
    obtain ⟨hz, e⟩ := if_of (oK_bind (oK_map e))
    obtain ⟨a, arr, rfl, wa, il, rs⟩ := rv
    exact call_dict_pairs sm rm.hand il rs e hz fun d Y a hk f es n p r => z _ Y a hk f es n p r
  | _ => exact cp e
theorem te_get {y : X} {xs : List X} {o : PE} {es : List PE} {apos pos : Pos} (hb : plainBase o = true) (hl : (apos.endLine == pos.line) = true) (hn : es.length < 29) (hs : es.all (fun e => !isStarred e) = true) (h1 : TE B u c y (fun env => eval o env))
    (h3 : TEs B u c xs (fun env => spliced (backTo pos (starEach es env)))) : TE B u c (.get y xs) (fun env => eval (.Call (.Attribute o "get" apos) es [] pos) env) := fun G N Q E K H q z =>
  call_meth F.plainAttrs_dict F.slot_dict_get F.type_dict_get hb hl hn hs h1 h3 H q fun d Y w k1 a r => by
    obtain ⟨hd, k1⟩ := bK_of k1
    refine ⟨dict_of (K := fun _ => True) a.sm (by cases e : asDict Y.σ d with | none => rw [e] at hd; cases hd | some l => trivial) r fun l x kvs _ hx t rd => hx ▸ dict_typ t, _, k1, fun ds Z vs k2 a2 rs => ?_⟩
    refine dict_of a2.sm k2 (Val.on a2 r) fun l x kvs k2 hx t rd => ?_
    subst hx
    obtain ⟨s, dv, rfl, k2⟩ := getL_of k2
    obtain ⟨vk, _, rfl, ⟨n, tk, rfl, hz, rfl⟩, vv, _, rfl, rv, e⟩ := rs
    cases (e : _ = [])
    have t1 := toks_ok (y := Z) a2.sm (Z.s.toks + 1)
    exact call_meetsIn F.slot_dict_get t.2.typeIs F.entry_dict_get (F.args_dict_get_3 _ _ _) (meets_dict_get_default (SK B.D) x (strKind_is _ _ _ _) (not_sys t.1) vv) ⟨_, t.2.mapOf,
      z _ (Z.tk (Z.s.toks + 1)) _ k2 ((a.trans a2).trans t1) (Val.on t1 (RVd_get hz rd (fun h1 h2 => by rw [h1, h2]; exact rv) fun d w h1 h2 r => by rw [h1, h2]; exact r))⟩
end
end Mine

namespace Mine
open PySem PySem.W PyProof.Rows PySem.Calls
theorem dec_step {a c : Nat} (h : c < 2097151) : (a * 2097152 + (c + 1)) / 2097152 = a ∧ (a * 2097152 + (c + 1)) % 2097152 - 1 = c := by omega
theorem dec_rev : ∀ (k : Nat) (l : List Nat), (∀ c ∈ l, c < 2097151) → decL k (encL l.reverse) = (l.take k).reverse
  | 0, _, _ => rfl
  | k + 1, [], _ => rfl
  | k + 1, x :: r, h => by
    have e := dec_step (a := encL r.reverse) (h x (List.mem_cons_self ..))
    rw [List.reverse_cons, encL_snoc, decL, if_neg (show ¬ encL r.reverse * 2097152 + (x + 1) = 0 from Nat.succ_ne_zero _), e.1, e.2, dec_rev k r fun c hc => h c (List.mem_cons_of_mem _ hc), List.take_succ_cons, List.reverse_cons]
theorem strOk_lt {x : Str} (h : strOk x = true) : ∀ c ∈ x.cps.toList, c < 2097151 := fun c hc => Nat.lt_trans (of_decide_eq_true (List.all_eq_true.mp h c hc)) (by decide)
theorem dec_enc {x : Str} (h : strOk x = true) (k : Nat) : decL k (encS x) = (x.cps.toList.reverse.take k).reverse := by
  have := dec_rev k x.cps.toList.reverse fun c hc => strOk_lt h c (List.mem_reverse.mp hc)
  rwa [List.reverse_reverse] at this
theorem short_of {x : Str} (h : strOk x = true) (s : shortS (encS x) = true) : x.length ≤ 1000 := by
  have s := of_decide_eq_true s
  rw [dec_enc h, List.length_reverse, List.length_take, List.length_reverse] at s
  exact Nat.le_trans (Nat.le_of_eq Array.length_toList.symm) (Nat.le_of_not_lt fun q => absurd (Nat.le_trans (Nat.le_min.mpr ⟨Nat.le_refl _, q⟩) s) (by decide))
theorem encS_append {x y : Str} (hy : strOk y = true) (s : shortS (encS y) = true) : encS (x ++ y) = catS (encS x) (encS y) := by
  have e : decL 1001 (encS y) = y.cps.toList := by
    rw [dec_enc hy, List.take_of_length_le, List.reverse_reverse]
    rw [List.length_reverse, Array.length_toList]
    exact Nat.le_trans (short_of hy s) (by decide)
  unfold catS
  rw [e]
  show encL (x.cps ++ y.cps).toList = _
  rw [Array.toList_append]
  exact List.foldl_append
theorem strOk_append {x y : Str} (hx : strOk x = true) (hy : strOk y = true) : strOk (x ++ y) = true := by
  show ((x.cps ++ y.cps).toList.all fun c => decide (c < 1114112)) = true
  rw [Array.toList_append, List.all_append]
  exact Bool.and_eq_true_iff.mpr ⟨hx, hy⟩
theorem char_lt (c : Char) : c.toNat < 1114112 := by
  have h : c.toNat.isValidChar := c.valid
  unfold Nat.isValidChar at h
  omega
theorem digs_str (k : Nat) : strOk (Str.ofString (toString ((k : Nat) : Int))) = true ∧ encS (Str.ofString (toString ((k : Nat) : Int))) = encL (digs k) := by
  unfold strOk encS
  rw [KIN.signs_num]
  refine ⟨?_, rfl⟩
  rw [List.all_map, List.all_eq_true]
  intro c _
  exact decide_eq_true (char_lt c)
section
variable {B : Bd} {u : Nat} {c : Ck} {G : Ev} {N Y Z : Nx} {Q E : PV → Shared → Prop} {g : Gt}
noncomputable def TP (B : Bd) (u : Nat) (c : Ck) (x : X) (t : PE) : Prop :=
  ∀ (G : Ev) (N : Nx) (Q E : PV → Shared → Prop) (K : Nat → St → Prop), Go B u c G N → kX B G N x (fun d σ => oK (strOf d) fun z => K z σ) →
    (∀ y t Y, K (encS y) Y.σ → Aft B.D N noA Y → strOk y = true → shortS (encS y) = true → y.length ≤ sizeLine → Q (.str y t) Y.s) → Wp B G N (eval t G.env) Q E
theorem len_line {x : Str} {k : Nat} (h : x.length ≤ k) (hk : k ≤ 1000000) : x.length ≤ sizeLine := cap_line (Nat.le_trans h hk)
theorem short_line {x : Str} (h : strOk x = true) (s : shortS (encS x) = true) : x.length ≤ sizeLine := len_line (short_of h s) (by decide)
theorem tp_cst {x : Str} {z k : Nat} {p : Pos} (h1 : strOk x = true) (h2 : encS x = z) : TP B u c (.cst (.str z)) (.Constant (.str x) k p) := fun G N Q E K H q y =>
  have w := if_of (show oK (if shortS z then some z else none) (fun z => K z N.σ) from q)
  wpAny_Constant_str (y x _ (N.tk _) (h2 ▸ w.2) (H.toks _) h1 (h2 ▸ w.1) (short_line h1 (h2 ▸ w.1)))
theorem tp_fmt {x : X} {t : PE} {p : Pos} (h : TE B u c x (fun env => eval t env)) : TP B u c x (.FormattedValue t (-1) none p) := fun G N Q E K H q z =>
  FormattedValue_plain (h G N _ E _ H q fun d Y v k1 a r => by
    have fin := fun y t tk hk (h1 : strOk y = true) (hs : shortS (encS y) = true) => z y t (Y.tk tk) hk (a.trans (toks_ok a.sm tk)) h1 hs (short_line h1 hs)
    cases d with
    | str k =>
      obtain ⟨y, t, rfl, hy, rfl⟩ := r
      obtain ⟨hl, k1⟩ := if_of (show oK (if shortS (encS y) then some (encS y) else none) (fun z => K z Y.σ) from k1)
      exact formatField_str (fun t' tk => fin y t' tk k1 hy hl) (short_line hy hl)
    | int i =>
      obtain ⟨t, rfl⟩ := r
      obtain ⟨hi, k1⟩ := if_of (show oK (if (0 ≤ i ∧ i ≤ 1000000) ∧ shortS (encL (digs i.toNat)) = true then some (encL (digs i.toNat)) else none) (fun z => K z Y.σ) from k1)
      have hi' : i = ((i.toNat : Nat) : Int) := (Int.toNat_of_nonneg hi.1.1).symm
      have hd : i.natAbs.log2 < 1920 := (Decidable.em (i.natAbs = 0)).elim (fun h0 => by rw [h0]; decide) fun h0 => Nat.lt_of_lt_of_le ((Nat.log2_lt h0).mpr (Nat.lt_of_le_of_lt (show i.natAbs ≤ 1000000 by omega) (show 1000000 < 2 ^ 20 by decide))) (by decide)
      obtain ⟨d1, d2⟩ := digs_str i.toNat
      rw [← hi'] at d1 d2
      exact formatField_int_small hd (fin _ _ _ (d2 ▸ k1) d1 (d2 ▸ hi.2))
    | _ => exact False.elim k1)
theorem join_all {xs : List X} {es : List PE} (h : All2 (TP B u c) xs es) : ∀ (G : Ev) (N : Nx) (out : Str) (Q E : PV → Shared → Prop) (K : Nat → St → Prop), Go B u c G N → kFs B.P B.T xs (encS out) G.ρ N.σ K → strOk out = true →
    (∀ y t Y, K (encS y) Y.σ → Aft B.D N noA Y → strOk y = true → Q (.str y t) Y.s) → Wp B G N (joinParts out (evalEach es G.env)) Q E := by
  induction h with
  | nil => exact fun G N out Q E K H q ho z => have w := bK_of q; joinParts_nil (z out _ (N.tk _) w.2 (H.toks _) ho) (short_line ho w.1)
  | cons h1 h2 ih => exact fun G N out Q E K H q ho z => joinParts_cons (h1 G N _ E _ H q fun y t Y k1 a hy hs hyl => by
      rw [← encS_append hy hs] at k1
      have w := bK_of k1
      have ho' := strOk_append ho hy
      exact ⟨short_line ho' w.1, ih G Y (out ++ y) Q E K (H.to a) w.2 ho' fun y2 t2 Y2 k2 a2 h2 => z y2 t2 Y2 k2 (a.trans a2) h2⟩)
theorem te_fstr {x1 x2 : X} {xs : List X} {e1 e2 : PE} {es : List PE} {p : Pos} (h1 : TP B u c x1 e1) (h2 : TP B u c x2 e2) (h : All2 (TP B u c) xs es) : TE B u c (.fstr (x1 :: x2 :: xs)) (fun env => eval (.JoinedStr (e1 :: e2 :: es) p) env) := fun G N Q E K H q z =>
  JoinedStr_many (join_all (.cons h1 (.cons h2 h)) G N Str.empty Q E _ H q rfl fun y t Y k1 a hy => z _ Y _ k1 a ⟨y, t, rfl, hy, rfl⟩)
end
end Mine

namespace Mine
open PySem PySem.W PyProof.Rows
noncomputable def Fr (oc : Bool) (c : Ck) (env : PEnv) (b : Addr) : Prop := b = env.locals ∨ (oc = true ∧ ∃ x, c.sc.names.lookup x = some .cell ∧ env.cells.lookup x = some b)
structure Gs (B : Bd) (u : Nat) (oc : Bool) (c : Ck) (G : Ev) (N : Nx) : Prop where
  go : Go B u c G N
  pv : ∀ b, Fr oc c G.env b → Pv N b
  ns : ∃ m, N.s.heap.Ns G.env.locals m
  cl : oc = true → ∀ x, c.sc.names.lookup x = some .cell → ∃ b v, G.env.cells.lookup x = some b ∧ N.s.heap.IsCell b v
  ap : oc = true → ∀ x y b, c.sc.names.lookup x = some .cell → G.env.cells.lookup x = some b → G.env.cells.lookup y = some b → x = y
structure Nm (oc : Bool) (c : Ck) (x : Str) (i : Nat) : Prop where
  at_ : c.names.lookup x = some i
  inj : ∀ y, c.names.lookup y = some i → y = x
  kind : c.sc.names.lookup x = some .local ∨ (oc = true ∧ c.sc.names.lookup x = some .cell)
noncomputable def Ev.set (G : Ev) (i : Nat) (d : V) : Ev := ⟨G.env, G.A, G.ρ.set i (some d)⟩
noncomputable def Ev.to (G : Ev) (ρ : REnv) : Ev := ⟨G.env, G.A, ρ⟩
section
variable {B : Bd} {u : Nat} {c : Ck} {G : Ev} {N Y Z : Nx} {i : Nat} {x : Str} {oc : Bool} {d : V} {v : PV} {E : PV → Shared → Prop}
theorem ns_cell {h : Heap} {a : Addr} {mm : Str → Option PV} {v : Option PV} (x : h.Ns a mm) (y : h.IsCell a v) : False := by
  obtain ⟨o, es, ep, ho, hd, _⟩ := x
  obtain ⟨o', ho', hd'⟩ := y
  cases ho.symm.trans ho'
  cases hd.symm.trans hd'
theorem Ns_has {h : Heap} {a : Addr} {m : Str → Option PV} (n : h.Ns a m) : ∃ o, h.get? a = some o := n.elim fun o q => q.elim fun _ q => q.elim fun _ q => ⟨o, q.1⟩
theorem cell_has {h : Heap} {a : Addr} {v : Option PV} (n : h.IsCell a v) : ∃ o, h.get? a = some o := n.elim fun o q => ⟨o, q.1⟩
theorem Aft.mono {D : Wd} {F F' : Addr → Prop} (a : Aft D N F Z) (h : ∀ b, F b → F' b) : Aft D N F' Z := ⟨a.sm, a.le, fun b o e n f => a.kp b o e n fun q => f (h b q), a.ex, a.mn, a.wn, a.gens, a.os⟩
theorem set_some {ρ : REnv} {o : Option V} {j : Nat} {w : V} (e : (ρ.set i o)[j]? = some (some w)) : (i = j ∧ o = some w) ∨ (i ≠ j ∧ ρ[j]? = some (some w)) := by
  by_cases h : i = j
  · subst h
    exact .inl ⟨rfl, by rw [List.getElem?_set] at e; simp at e; exact e.2⟩
  · exact .inr ⟨h, (List.getElem?_set_ne h).symm.trans e⟩
theorem Gs.to (H : Gs B u oc c G N) (a : Aft B.D N noA Y) : Gs B u oc c G Y :=
  ⟨H.go.to a, fun b f => (H.pv b f).go a, H.ns.elim fun m n => ⟨m, n.at fun o e => a.old (H.pv _ (.inl rfl)).nc e⟩, fun w x h => (H.cl w x h).elim fun b q => q.elim fun v q => ⟨b, v, q.1, q.2.elim fun o r => ⟨o, a.old (H.pv _ (.inr ⟨w, x, h, q.1⟩)).nc r.1, r.2⟩⟩, H.ap⟩
theorem store_ok {Q : Unit → Shared → Prop} (H : Gs B u oc c G N) (nm : Nm oc c x i) (rv : Val B N d v) (z : ∀ Y, Y.σ = N.σ → Aft B.D N (Fr oc c G.env) Y → Gs B u oc c (G.set i d) Y → Q () Y.s) : Wp B G N (storeName G.env x v) Q E := by
  obtain ⟨mm, ns⟩ := H.ns
  have kd := H.go.eo.kd
  have go : ∀ {h' : Heap} {b : Addr} {tk : Nat}, Heap.SameBut b N.s.heap h' → Fr oc c G.env b → (∃ o, h'.get? b = some o) → (∃ m, h'.Ns G.env.locals m) → (∀ y b v, oc = true → c.sc.names.lookup y = some .cell → G.env.cells.lookup y = some b → N.s.heap.IsCell b v → ∃ v', h'.IsCell b v') →
      (∀ y w, y ≠ x → At N.s.heap G.env y w → At h' G.env y w) → At h' G.env x v → Q () { N.s with heap := h', toks := tk } := fun {h' b tk} sb hb he hns hc hat hx => by
    have a := Aft.turn1 (t := tk) H.go.sm (H.pv b hb) (fun c o n e => sb.extBut c o n e) he
    exact z (N.at _) rfl (a.mono fun c e => e ▸ hb) ⟨⟨H.go.rm, H.go.eo.go a, fun y j d' h1 h2 h3 => by
      rcases set_some h3 with ⟨rfl, e⟩ | ⟨hj, h3⟩
      · cases nm.inj y h1
        cases e
        exact ⟨v, hx, Val.on (B := B) a rv⟩
      · obtain ⟨w, at_, r⟩ := H.go.fe y j d' h1 h2 h3
        exact ⟨w, hat y w (fun e => hj (Option.some.inj (nm.at_.symm.trans (e ▸ h1)))) at_, Val.on (B := B) a r⟩, a.sm⟩, fun b f => (H.pv b f).go a, hns, fun w y hy => (H.cl w y hy).elim fun b q => q.elim fun v q => (hc y b v w hy q.1 q.2).elim fun v' r => ⟨b, v', q.1, r⟩, H.ap⟩
  have nc : ∀ b w, N.s.heap.IsCell b w → b ≠ G.env.locals := fun b w ic e => by subst e; exact ns_cell ns ic
  rcases nm.kind with hk | ⟨hoc, hk⟩
  · have k0 := (kd x).trans hk
    refine wpAny_storeName_local k0 ns (fun h' ns' sb => ?_) (by rw [H.go.eo.kind]; rfl)
    refine go sb (.inl rfl) (Ns_has ns') ⟨_, ns'⟩ (fun y b w _ _ hb ⟨o, ho, r⟩ => ⟨w, o, by rw [sb.2 b (nc b _ ⟨o, ho, r⟩)]; exact ho, r⟩) (fun y w hy at_ => ?_) (.inl ⟨k0, _, ns', if_pos rfl⟩)
    rcases at_ with ⟨k1, m1, n1, e1⟩ | ⟨k1, cc, e1, o, ho, r⟩
    · exact .inl ⟨k1, _, ns', by rw [if_neg hy, ns.agree n1 y]; exact e1⟩
    · exact .inr ⟨k1, cc, e1, o, by rw [sb.2 cc (nc cc _ ⟨o, ho, r⟩)]; exact ho, r⟩
  · obtain ⟨b, v0, k2, k3⟩ := H.cl hoc x hk
    have k0 := (kd x).trans hk
    refine wpAny_storeName_cell H.go.eo.kind k0 k2 k3 fun h' ic' sb => ?_
    have nl : G.env.locals ≠ b := (nc b _ k3).symm
    refine go (tk := N.s.toks) sb (.inr ⟨hoc, x, hk, k2⟩) (cell_has ic') ⟨mm, ns.at fun o e => (sb.2 _ nl).trans e⟩ (fun y b' w' _ _ hb ⟨o, ho, r⟩ => ?_) (fun y w' hy at_ => ?_) (.inr ⟨.inl k0, b, k2, ic'⟩)
    · by_cases hb' : b' = b
      · subst hb'; exact ⟨_, ic'⟩
      · exact ⟨w', o, by rw [sb.2 b' hb']; exact ho, r⟩
    · rcases at_ with ⟨k1', m1, n1, e1⟩ | ⟨k1', cc, e1, o, ho, r⟩
      · exact .inl ⟨k1', m1, n1.at (fun o e => (sb.2 _ nl).trans e), e1⟩
      · exact .inr ⟨k1', cc, e1, o, by rw [sb.2 cc (fun e => by subst e; exact hy (H.ap hoc x y cc hk k2 e1).symm)]; exact ho, r⟩
noncomputable def OutOk (B : Bd) (u : Nat) (c : Ck) (G : Ev) (N : Nx) (K : Out → Prop) (Q : Flow → Shared → Prop) : Prop :=
  (∀ ρ Y, K (.next ρ Y.σ) → Aft B.D N (Fr true c G.env) Y → Gs B u true c (G.to ρ) Y → Q .next Y.s) ∧ ∀ d Y v, K (.ret d Y.σ) → Aft B.D N (Fr true c G.env) Y → Val B Y d v → Q (.ret v) Y.s
noncomputable def TS (B : Bd) (u : Nat) (c : Ck) (x : S) (t : PEnv → Sem Flow) : Prop :=
  ∀ (G : Ev) (N : Nx) (Q : Flow → Shared → Prop) (E : PV → Shared → Prop) (K : Out → Prop), Gs B u true c G N → kS B.P B.T x G.ρ N.σ K → OutOk B u c G N K Q → Wp B G N (t G.env) Q E
noncomputable def TSs (B : Bd) (u : Nat) (c : Ck) (x : List S) (t : PEnv → Sem Flow) : Prop :=
  ∀ (G : Ev) (N : Nx) (Q : Flow → Shared → Prop) (E : PV → Shared → Prop) (K : Out → Prop), Gs B u true c G N → kSs B.P B.T x G.ρ N.σ K → OutOk B u c G N K Q → Wp B G N (t G.env) Q E
theorem OutOk.after {K : Out → Prop} {Q : Flow → Shared → Prop} {ρ : REnv} (h : OutOk B u c G N K Q) (a : Aft B.D N (Fr true c G.env) Y) : OutOk B u c (G.to ρ) Y K Q := ⟨fun ρ Z k b g => h.1 ρ Z k (a.trans b) g, fun d Z v k b r => h.2 d Z v k (a.trans b) r⟩
theorem tss_nil : TSs B u c [] (fun env => execs [] env) := fun G N Q E K H q z => wpAny_execs_nil (z.1 G.ρ N q (.refl H.go.sm) H)
theorem tss_cons {x : S} {xs : List S} {st : Stmt} {r : List Stmt} (h1 : TS B u c x (fun env => exec st env)) (h2 : TSs B u c xs (fun env => execs r env)) : TSs B u c (x :: xs) (fun env => execs (st :: r) env) := fun G N Q E K H q z =>
  wpAny_execs_cons (h1 G N _ E _ H q ⟨fun ρ Y k1 a H1 => h2 (G.to ρ) Y Q E K H1 k1 (z.after a), fun d Z v k1 a rv => z.2 d Z v k1 a rv⟩)
theorem ts_ret {x : X} {t : PE} {pos : Pos} (h : TE B u c x (fun env => eval t env)) : TS B u c (.ret x) (fun env => exec (.Return (some t) pos) env) := fun G N Q E K H q z =>
  wpAny_Return_some (h G N _ E _ H.go q fun d Z v k1 a r => z.2 d Z v k1 a.up r)
theorem ts_raise {t : PEnv → Sem Flow} : TS B u c .raise t := fun G N Q E K H q z => False.elim q
theorem ts_expr {x : X} {t : PE} {pos : Pos} (h : TE B u c x (fun env => eval t env)) (hs : ∀ env : PEnv, env.scope = c.sc → swapsWith t none pos.line env = pure false) : TS B u c (.expr x) (fun env => exec (.Expr t pos) env) := fun G N Q E K H q z =>
  wpAny_Expr_any (h G N _ E _ H.go q fun d Z v k1 a r => z.1 G.ρ Z k1 a.up (H.to a)) (by unfold interactive; rw [H.go.eo.kind]; rfl) (hs _ H.go.eo.sc)
theorem ts_ite {x : X} {s1 s2 : List S} {t : PE} {body orelse : List Stmt} {pos : Pos} (h : TB B u c x (fun env => isTrue t env (eval t env))) (h1 : TSs B u c s1 (fun env => execs body env)) (h2 : TSs B u c s2 (fun env => execs orelse env)) :
    TS B u c (.ite x s1 s2) (fun env => exec (.If t body orelse pos) env) := fun G N Q E K H q z =>
  wpAny_If (h G N _ E _ H.go q fun b Z k1 a => match b, k1 with
    | true, k1 => h1 G Z Q E K (H.to a) k1 (z.after (ρ := G.ρ) a.up)
    | false, k1 => h2 G Z Q E K (H.to a) k1 (z.after (ρ := G.ρ) a.up))
theorem ts_name {x : X} {y : Str} {t : PE} {py pos : Pos} (nm : Nm true c y i) (h : TE B u c x (fun env => eval t env)) (hs : ∀ env : PEnv, env.scope = c.sc → swapsWith t (some (.Name y py)) pos.line env = pure false) :
    TS B u c (.asg (.name i) x) (fun env => exec (.Assign [.Name y py] t pos) env) := fun G N Q E K H q z =>
  wpAny_Assign_Name (h G N _ E _ H.go q fun d Z v k1 a r => store_ok (H.to a) nm r fun Y es b H2 => z.1 (G.set i d).ρ Y (by rw [es]; exact k1) (a.up.trans b) H2) (hs _ H.go.eo.sc)
theorem kWhile_unf {c : REnv → St → (Bool → St → Prop) → Prop} {body : REnv → St → (Out → Prop) → Prop} {n : Nat} {ρ : REnv} {σ : St} {k : Out → Prop} (h : kWhile c body n ρ σ k) : kWhile0 c body n ρ σ k := by
  unfold kWhile at h; exact h
theorem ts_while {x : X} {b : List S} {t : PE} {body : List Stmt} {pos : Pos} (h : TB B u c x (fun env => isTrue t env (eval t env))) (h1 : TSs B u c b (fun env => execs body env)) :
    TS B u c (.while_ x b) (fun env => exec (.While t body [] pos) env) := fun G N Q E K H q z =>
  wpAny_While (codeAny_whileLoop (I := fun k s1 => ∃ ρ Y, s1 = Y.s ∧ Aft B.D N (Fr true c G.env) Y ∧ kWhile0 (fun ρ σ k => kE B.P B.T x ρ σ fun t σ => oK t.truthy fun t => k t σ) (fun ρ σ k => kSs B.P B.T b ρ σ k) k ρ Y.σ K ∧ Gs B u true c (G.to ρ) Y) (fun k s1 I => by
    obtain ⟨ρ, Y, rfl, a, q, H⟩ := I
    cases k with
    | zero => exact False.elim q
    | succ k => exact h (G.to ρ) Y _ _ _ H.go q fun t Z k1 a2 => match t, k1 with
      | false, k1 => wpAny_execs_nil (z.1 ρ Z k1 (a.trans a2.up) (H.to a2))
      | true, k1 => h1 (G.to ρ) Z _ _ _ (H.to a2) k1 ⟨fun ρ2 Y2 k2 a3 H2 => ⟨k, Nat.lt_succ_self k, ρ2, Y2, rfl, (a.trans a2.up).trans a3, k2, H2⟩, fun d Z2 v k2 a3 rv => z.2 d Z2 v k2 ((a.trans a2.up).trans a3) rv⟩) 5000 ⟨G.ρ, N, rfl, .refl H.go.sm, kWhile_unf q, H⟩)
end
end Mine

namespace Mine
open PySem PySem.W PyProof.Rows PySem.Calls
theorem lookup_cons {k f : Nat} {v : V} {r : List (Nat × V)} : ((k, v) :: r).lookup f = if f = k then some v else r.lookup f := by
  rw [List.lookup_cons]
  by_cases h : f = k
  · subst h; rw [BEq.rfl, if_pos rfl]
  · rw [if_neg h, beq_eq_false_iff_ne.mpr h]
theorem getA_set {f g : Nat} {v : V} : ∀ {fs : List (Nat × V)}, getA (setA fs f v) g = if g = f then some v else getA fs g
  | [] => lookup_cons
  | (k, w) :: r => by
    unfold setA getA
    rw [lookup_cons]
    by_cases hk : k = f
    · subst hk
      rw [if_pos rfl, lookup_cons]
      by_cases h : g = k
      · rw [if_pos h, if_pos h]
      · rw [if_neg h, if_neg h, if_neg h]
    · rw [if_neg hk, lookup_cons, show List.lookup g (setA r f v) = _ from getA_set (fs := r)]
      by_cases h : g = k
      · subst h; rw [if_pos rfl, if_neg hk, if_pos rfl]
      · rw [if_neg h, if_neg h]; rfl
theorem setA_len {f : Nat} {v : V} : ∀ {fs : List (Nat × V)}, (setA fs f v).length = if (getA fs f).isSome then fs.length else fs.length + 1
  | [] => rfl
  | (k, w) :: r => by
    unfold setA getA
    rw [lookup_cons]
    by_cases hk : k = f
    · subst hk
      rw [if_pos rfl, if_pos rfl]; rfl
    · rw [if_neg hk, if_neg (Ne.symm hk), List.length_cons, setA_len (fs := r)]
      show _ = if (getA r f).isSome = true then _ else _
      by_cases h : (getA r f).isSome = true
      · rw [if_pos h, if_pos h]; rfl
      · rw [if_neg h, if_neg h]; rfl
theorem fldIn_taker {K : Frag} {C : Addr} {x : Str} (h : fldIn K C x = true) : takerIn K C x = some none := by
  unfold fldIn at h
  unfold takerIn
  cases e : findIn K (.ref C) x with
  | none => rw [e] at h; cases h
  | some o => cases o with
    | none => rfl
    | some a =>
      rw [e] at h
      rw [Option.bind_some]
      simp only [show takesIn K a = some false from beq_iff_eq.mp (and_l h), Option.map_some]
      rfl
section
variable {D : Wd} {N : Nx}
noncomputable def Nx.ob (N : Nx) (k : Nat) (o : SObj) (s : Shared) : Nx := ⟨N.μ, N.W, N.σ.set k o, s⟩
theorem nodup_at {μ : Mp} {k j : Nat} {p q : Addr × Addr} (nd : (μ.map (·.2)).Nodup) (h1 : μ[k]? = some p) (h2 : μ[j]? = some q) (e : p.2 = q.2) : k = j := by
  refine (List.getElem?_inj (l := μ.map (·.2)) ?_ nd).mp ?_
  · rw [List.length_map]; exact (List.getElem?_eq_some_iff.mp h1).1
  · rw [List.getElem?_map, List.getElem?_map, h1, h2]; exact congrArg some e
theorem Aft.ob (m : Sm D N) {k : Nat} {p : Addr × Addr} {o : SObj} {s : Shared} (hp : N.μ[k]? = some p) (kp : ∀ b o, b ≠ p.2 → N.s.heap.get? b = some o → s.heap.get? b = some o) (he : ∃ o, s.heap.get? p.2 = some o) (g : s.gens = N.s.gens) (os : s.os = N.s.os)
    (ho : Le N (N.ob k o s) → OR D (N.ob k o s) p o) : Aft D N noA (N.ob k o s) := by
  have mp := List.mem_of_getElem? hp
  have np : ∀ a, N.W a → a ≠ p.2 := fun a w e => m.wk a w ⟨p, mp, e.symm⟩
  have l : Le N (N.ob k o s) := ⟨fun a o w e => ⟨kp a o (np a w) e, w⟩, fun _ _ e => e⟩
  have ex : ∀ a, N.has a → (N.ob k o s).has a := fun a h => (Classical.em (a = p.2)).elim (fun e => by rw [e]; exact Option.isSome_iff_exists.mpr he) fun e => (Option.isSome_iff_exists.mp h).elim fun o g => Option.isSome_iff_exists.mpr ⟨o, kp a o e g⟩
  refine ⟨⟨fun a o e => kp a o (fun q => absurd ((m.new p mp).symm.trans (show D.base.get? p.2 = some o from q ▸ e)) (fun h => nomatch h)) (m.gi a o e), m.big, m.len.trans List.length_set.symm, m.nodup, m.new, m.apart, m.wk, fun a w => ex a (m.wd a w), m.cs, fun q h => ⟨ex _ (m.lt q h).1, ex _ (m.lt q h).2⟩, fun j o' q e1 e2 => ?_⟩,
    l, fun a o e n _ => kp a o (fun q => n ⟨p, mp, q.symm⟩) e, ex, fun _ h => .inl h, fun _ h => .inl h, g, os⟩
  by_cases hj : k = j
  · subst hj
    cases hp.symm.trans e2
    cases (List.getElem?_set_self (m.len ▸ (List.getElem?_eq_some_iff.mp hp).1)).symm.trans e1
    exact ho l
  · have n2 : q.2 ≠ p.2 := fun e => hj (nodup_at m.nodup hp e2 e.symm)
    exact OR_le l (fun o e => kp _ o (fun e => n2 ((m.apart q (List.mem_of_getElem? e2) p mp e).symm.trans e)) e) (fun o e => kp _ o n2 e) (m.obj j o' q ((List.getElem?_set_ne hj).symm.trans e1) e2)
theorem or_field {Y : Nx} {p : Addr × Addr} {k f : Nat} {fs : List (Nat × V)} {x : Str} {mm : Str → Option PV} {d : V} {v : PV} (l : Le N Y) (kp : ∀ b o, b ≠ p.2 → N.s.heap.get? b = some o → Y.s.heap.get? b = some o) (ho : strOk x = true) (he : encS x = f) (hn : N.s.heap.Ns p.2 mm) (hn' : Y.s.heap.Ns1 p.2 (fun y => if y = x then some v else mm y))
    (r : OR D N p (.inst k fs)) (rv : RV D Y d v) : OR D Y p (.inst k (setA fs f d)) := by
  obtain ⟨⟨hk, e⟩, ne, m2, ns, n1, fo, w1, w2⟩ := r
  cases (funext fun y => n1.ns.agree hn y : m2 = mm)
  have fx := fo x ho
  rw [he] at fx
  refine ⟨⟨hk, kp _ _ ne e⟩, ne, _, (if (getA fs f).isSome then ns else x :: ns), hn', fun y hy => ?_, fun y hy => ?_, ?_⟩
  · rw [getA_set]
    dsimp only
    by_cases hyx : y = x
    · subst hyx
      rw [if_pos he]
      exact ⟨v, if_pos rfl, rv⟩
    · rw [if_neg fun e => hyx (encS_inj hy ho (e.trans he.symm)), if_neg hyx]
      exact FldOk_le l fo y hy
  · dsimp only at hy
    by_cases hs : (getA fs f).isSome = true
    · rw [if_pos hs]
      by_cases hyx : y = x
      · obtain ⟨d2, hd2⟩ := Option.isSome_iff_exists.mp hs
        rw [hd2] at fx
        obtain ⟨v2, e1, _⟩ := fx
        exact hyx ▸ w1 x (by rw [e1]; exact fun h => nomatch h)
      · rw [if_neg hyx] at hy; exact w1 y hy
    · rw [if_neg hs]
      by_cases hyx : y = x
      · exact hyx ▸ List.mem_cons_self ..
      · rw [if_neg hyx] at hy; exact List.mem_cons_of_mem _ (w1 y hy)
  · rw [setA_len]
    by_cases hs : (getA fs f).isSome = true
    · rw [if_pos hs, if_pos hs]; exact w2
    · rw [if_neg hs, if_neg hs]; exact Nat.succ_le_succ w2
end
section
variable {B : Bd} {u : Nat} {c : Ck} {G : Ev} {N Y Z : Nx} {Q E : PV → Shared → Prop} {g : Gt}
theorem set_field {q : Addr × Addr} {j k f : Nat} {fs : List (Nat × V)} {x : Str} {d : V} {v : PV} {Q : Unit → Shared → Prop} (F : Facts B g) (sm : Sm B.D N) (hx : x ∈ g.flds) (ho : strOk x = true) (he : encS x = f) (hz : fs.length ≤ 1000)
    (hq : N.μ[j]? = some q) (hs : N.σ[j]? = some (.inst k fs)) (rv : Val B N d v) (z : ∀ s', Aft B.D N noA (N.ob j (.inst k (setA fs f d)) s') → Q () s') : Wp B G N (setAttr (.ref q.1) x v) Q E := by
  have r := sm.obj j _ q hs hq
  obtain ⟨od, mm, I⟩ := ins_at (B := B) r
  obtain ⟨⟨hk, ge⟩, ne, m2, nl, n1, fo2, w1, w2⟩ := id r
  have C := F.ck k hk
  have X := F.x sm
  refine set_plain X I.at_ C.sa (osa_open (s := { N.s with toks := N.s.toks + 1 }) X I.at_ C.po (fldIn_taker (F.fl x hx k hk)) fun b => ?_)
  obtain ⟨cd, hc, hd'⟩ := any_some C.hd
  refine wpAny_bind (wpAny_pure (wpAny_bind (wpAny_bind (wpAny_loadPart (s := { N.s with toks := N.s.toks + 1 }) ge (wpAny_bind ((looks_clsIn X hc).here (s := { N.s with toks := N.s.toks + 1 }) ?_))))))
  rw [hd']
  refine wpAny_pure (a := some q.2) (wpAny_bind (wpAny_pure (wpAny_bind ?_)))
  refine wpAny_nsSet1 (s := { N.s with toks := N.s.toks + 1 }) n1 fun h1 hn1 sb => ?_
  obtain ⟨o1, es1, ep1, e1, e2, e3⟩ := hn1.count (w1.cons x v)
  refine wpAny_bind (wpAny_lookBehind (s := ⟨h1, N.s.gens, N.s.drawn, N.s.toks + 1 + 1, N.s.os⟩) e1 (by rw [e2]; exact pastItsLine_dict (by rw [sizeLine_eq]; simp only [List.length_cons] at e3; omega)) ?_)
  exact wpAny_pure (z _ (.ob sm hq (fun b o n e => sb.extBut b o n e) ⟨_, e1⟩ rfl rfl fun l => or_field l (fun b o n e => sb.extBut b o n e) ho he n1.ns hn1 r (RV_le l _ _ rv)))
theorem setFldO_of {f : Nat} {v : V} {n : Nat} {σ : St} {o : Option SObj} {K : St → Prop} (h : oK (setFldO f v n σ o) K) : ∃ c fs, o = some (.inst c fs) ∧ fs.length ≤ 1000 ∧ K (σ.set n (.inst c (setA fs f v))) := by
  cases o with
  | none => exact False.elim h
  | some o => cases o with
    | inst c fs => have w := if_of h; exact ⟨c, fs, rfl, of_decide_eq_true w.1, w.2⟩
    | _ => exact False.elim h
theorem ts_attr {x o : X} {f : Nat} {e oe : PE} {attr : Str} {ap pos : Pos} (F : Facts B g) (hx : attr ∈ g.flds) (hos : strOk attr = true) (he : encS attr = f) (h : TE B u c x (fun env => eval e env)) (h2 : TE B u c o (fun env => eval oe env))
    (hs : ∀ env : PEnv, env.scope = c.sc → swapsWith e (some (.Attribute oe attr ap)) pos.line env = pure false) : TS B u c (.asg (.attr o f) x) (fun env => exec (.Assign [.Attribute oe attr ap] e pos) env) := fun G N Q E K H q z =>
  plainObj_wpAny_Assign_Attribute (h G N _ E _ H.go q fun d Y v k1 a r => h2 G Y _ E _ (H.go.to a) k1 fun d2 Y2 w k2 a2 rw => by
    have af := a.trans a2
    cases d2 with
    | loc k =>
      obtain ⟨cc, fs, hk, hz, k4⟩ := setFldO_of (show oK (setFldO f d k Y2.σ Y2.σ[k]?) _ from k2)
      obtain ⟨p, rfl, hp⟩ := rw
      exact set_field (G := G) F a2.sm hx hos he hz hp hk (Val.on a2 r) fun s' b => z.1 G.ρ (Y2.ob k _ s') k4 (af.trans b).up (H.to (af.trans b))
    | _ => exact False.elim k2) (hs _ H.go.eo.sc)
theorem ts_item {x o k : X} {e oe ke : PE} {sp pos : Pos} (hu : 30 ≤ u) (h : TE B u c x (fun env => eval e env)) (h2 : TE B u c o (fun env => eval oe env)) (h3 : TE B u c k (fun env => eval ke env))
    (hs : ∀ env : PEnv, env.scope = c.sc → swapsWith e (some (.Subscript oe ke sp)) pos.line env = pure false) : TS B u c (.asg (.item o k) x) (fun env => exec (.Assign [.Subscript oe ke sp] e pos) env) := fun G N Q E K H q z =>
  wpAny_Assign_Subscript (h G N _ E _ H.go q fun d Y v k1 a r => h2 G Y _ E _ (H.go.to a) k1 fun d2 Y2 w k2 a2 rw => h3 G Y2 _ E _ (H.go.to (a.trans a2)) k2 fun d3 Y3 y k3 a3 ry => by
    have af := (a.trans a2).trans a3
    have rv := Val.on (a2.trans a3) r
    cases d2 with
    | loc j =>
      obtain ⟨p, rfl, hp⟩ := Val.on a3 rw
      refine (st_of (f := fun s => oK (setObjO d3 d j Y3.σ s) fun σ => K (.next G.ρ σ)) a3.sm hp k3 id).elim fun s w => ?_
      cases s with
      | dict l =>
        obtain ⟨k4, ⟨e12, kvs, t, rs⟩, hj⟩ := w
        have fin : ∀ {o s'}, K (.next G.ρ (Y3.σ.set j o)) → Aft B.D Y3 noA (Y3.ob j o s') → Q .next s' := fun {o s'} k4 b => z.1 G.ρ (Y3.ob j o s') k4 (af.trans b).up (H.to (af.trans b))
        refine if_or k4 (fun hc k4 => ?_) fun _ k6 => ?_
        · obtain ⟨s, tk, rfl, hzs, rfl, is⟩ := key_of (and_l hc) ry
          refine wpAny_setItem_pairs is t.2 (fun h' t' sb => ?_) (cap_ln (RVd_length rs) (of_decide_eq_true (and_r hc)))
          have t2 : IsDc B.D h' p.1 _ := ⟨t.1, t'⟩
          exact fin (s' := { Y3.s with heap := h', toks := _ }) k4 (.ob a3.sm hp (fun b o n e => sb.extBut b o (e12 ▸ n) e) (by rw [← e12]; exact t'.elim fun o q => q.elim fun _ q => q.elim fun _ q => ⟨o, q.1⟩) rfl rfl fun l => ⟨e12, _, t2, RVd_set hzs (RV_le l _ _ rv) (RVd_le l _ _ rs) (dict_nodup t)⟩)
        · obtain ⟨hc, k5⟩ := if_of k6
          obtain ⟨c0, ks, rfl, ik⟩ := tup_key (and_l hc) ry
          cases l with
          | nil =>
            cases (rs : kvs = [])
            exact wpAny_setItem_heap (knd := tupleKind (SK B.D)) (k := ks) (H.go.rm.un (Nat.le_trans (by decide : 1 ≤ 30) hu)) ik (dict_nil t.2) (fun h' t' sb => fin (s' := { Y3.s with heap := h', toks := _ }) k5 (.ob a3.sm hp (fun b o n e => sb.extBut b o (e12 ▸ n) e) (by rw [← e12]; exact t'.elim fun o q => q.elim fun _ q => q.elim fun _ q => ⟨o, q.1⟩) rfl rfl fun l => trivial)) (cap_line (by decide))
          | cons _ _ => exact absurd (and_r hc) Bool.false_ne_true
      | _ => exact w.1.elim
    | _ => exact False.elim k3) (hs _ H.go.eo.sc)
end
end Mine

namespace Mine
open PySem PySem.W PyProof.Rows PySem.Calls
noncomputable def mthId : Mth → String
  | .app => "list.append" | .ext => "list.extend" | .upd => "dict.update" | .rem => "list.remove"
noncomputable def mthT : Mth → String
  | .upd => "dict" | _ => "list"
section
variable {B : Bd} {u : Nat} {c : Ck} {G : Ev} {N Y Z : Nx} {Q E : PV → Shared → Prop} {g : Gt}
noncomputable def MthOk (B : Bd) (u : Nat) (m : Mth) : Prop :=
  ∀ (G : Ev) (N : Nx) (k : Nat) (p : Addr × Addr) (d : V) (v : PV) (Q E : PV → Shared → Prop) (K : St → Prop), Room B.n u G.A → Sm B.D N → N.μ[k]? = some p → oK (mthO N.σ d k m N.σ[k]?) K → Val B N d v →
    (∀ o s', K (N.σ.set k o) → Aft B.D N noA (N.ob k o s') → Q .none s') → Wp B G N (call (.builtin (mthId m)) [.ref p.1, v]) Q E
theorem turn_list {b : Addr} {j : Nat} {p : Addr × Addr} {arr : Array PV} {ka : Nat} {k : List V} (f : Array PV → Array PV) (sm : Sm B.D N) (hp : N.μ[j]? = some p) (e12 : p.1 = p.2) (il : N.s.heap.get? p.1 = some { cls := .type "list", dict := none, data := .seq arr ka, slots := #[] }) (rs : Vals B N k (f arr).toList) (tk : Tok) :
    Aft B.D N noA (N.ob j (.list k) { N.s with heap := N.s.heap.update p.1 (Obj.mapSeq f), toks := tk }) := by
  have sb : Heap.SameBut p.1 N.s.heap (N.s.heap.update p.1 (Obj.mapSeq f)) := Heap.SameBut.update ..
  obtain ⟨k', e'⟩ : ∃ k', Obj.mapSeq f { cls := .type "list", data := .seq arr ka } = { cls := .type "list", data := .seq (f arr) k' } := ⟨_, rfl⟩
  have e2 := Heap.get?_update_self (Obj.mapSeq f) il (by rw [e']; rfl)
  rw [e'] at e2
  exact .ob sm hp (fun b o n e => sb.extBut b o (e12 ▸ n) e) ⟨_, by rw [← e12]; exact e2⟩ rfl rfl fun l => ⟨e12, f arr, ⟨k', e2⟩, RVs_le l _ _ rs⟩
theorem mthL_of {σ : St} {d : V} {k : Nat} {m : Mth} {o : SObj} {K : St → Prop} (hm : m ≠ .upd) (h : oK (mthO σ d k m (some o)) K) : ∃ l, o = .list l := by
  cases o with
  | list l => exact ⟨l, rfl⟩
  | dict l => cases m <;> first | exact absurd rfl hm | exact False.elim h
  | _ => exact False.elim h
theorem ok_app : MthOk B u .app := fun G N k p d v Q E K rm sm hp hh rv z => (st_of (f := fun o => oK (mthO N.σ d k .app o) K) sm hp hh id).elim fun o w => by
  obtain ⟨h, r, hs⟩ := w
  obtain ⟨l, rfl⟩ := mthL_of (m := .app) (fun h => nomatch h) h
  obtain ⟨e12, arr, ⟨ka, il⟩, rs⟩ := r
  obtain ⟨hz, h⟩ := if_of (oK_map h)
  have hlen := len_eq (B := B) rs
  refine wpAny_list_append_plain ⟨ka, il⟩ (fun h' il' sb => ?_) (cap_line (by have hz : (l ++ [d]).length ≤ 1000000 := hz; rw [List.length_append] at hz; rw [hlen]; exact Nat.le_of_succ_le hz))
  exact z (.list (l ++ [d])) _ h (.ob sm hp (fun b o n e => sb.extBut b o (e12 ▸ n) e) (by rw [← e12]; exact il'.elim fun _ e => ⟨_, e⟩) rfl rfl fun le => ⟨e12, arr.push v, il', by rw [Array.toList_push]; exact RVs_append (RVs_le le _ _ rs) ⟨v, [], rfl, RV_le le _ _ rv, rfl⟩⟩)
theorem seqX {v : V} {x : PV} {K : List V → Prop} {Z : Prop} (sm : Sm B.D N) (e : oK (asList N.σ v) K) (r : Val B N v x) (z : ∀ l b vs, K l → x = .ref b → (IsLs N.s.heap b vs ∨ IsTp N.s.heap b vs) → Vals B N l vs.toList → Z) : Z := by
  cases v with
  | tup k => exact r.elim fun a q => q.elim fun vs q => z k a vs e q.1 (.inr q.2.2.1) q.2.2.2
  | list k => exact lst_of (v := .list k) sm e r fun l a k q rc => rc.elim fun vs w => z l a vs k q (.inl w.1) w.2
  | loc k => exact lst_of (v := .loc k) sm e r fun l a k q rc => rc.elim fun vs w => z l a vs k q (.inl w.1) w.2
  | _ => exact False.elim e
theorem ok_ext : MthOk B u .ext := fun G N k p d v Q E K rm sm hp hh rv z => (st_of (f := fun o => oK (mthO N.σ d k .ext o) K) sm hp hh id).elim fun o w => by
  obtain ⟨h, r, hs⟩ := w
  obtain ⟨l, rfl⟩ := mthL_of (m := .ext) (fun h => nomatch h) h
  obtain ⟨e12, arr, ⟨ka, il⟩, rs⟩ := r
  refine seqX sm (oK_bind h) rv fun k' c arr2 h hx t rs2 => ?_
  subst hx
  obtain ⟨hz, h⟩ := if_of (oK_map h)
  have hz2 := cap_size hz rs rs2
  have hs1 : ¬(!arr.isEmpty && Builtin.List.listTooLong (arr.size + arr2.size)) = true := fun h => Nat.not_lt.mpr hz2 (of_decide_eq_true (and_r h))
  have fin : ∀ tk, Q .none { N.s with heap := N.s.heap.update p.1 (Obj.mapSeq fun x => x ++ arr2), toks := tk } := fun tk => z _ _ h (turn_list (b := c) (fun x => x ++ arr2) sm hp e12 il (by rw [Array.toList_append]; exact RVs_append rs rs2) tk)
  rcases t with ⟨kb, t⟩ | ⟨kb, t⟩
  · exact call_meets PySem.F.slot_list_extend ⟨_, il, rfl⟩ PySem.F.entry_list_extend (PySem.F.args_list_extend_2 _ _) (AutoSeq1.list_extend_list_list_0 p.1 arr ka c arr2 kb hs1 (Nat.le_trans (Nat.le_add_right _ _) hz2) (Nat.le_succ_of_le hz2)) ⟨il, t, fin _⟩
  · exact call_meets PySem.F.slot_list_extend ⟨_, il, rfl⟩ PySem.F.entry_list_extend (PySem.F.args_list_extend_2 _ _) (AutoSeq1.list_extend_list_tuple_0 p.1 arr ka c arr2 kb hs1 (Nat.le_trans (Nat.le_add_right _ _) hz2) (Nat.le_succ_of_le hz2)) ⟨il, t, fin _⟩
theorem eraseIdx_rv : ∀ {l : List V} {vs : List PV} (j : Nat), Vals B N l vs → Vals B N (l.eraseIdx j) (vs.eraseIdx j)
  | [], vs, j, r => (show vs = [] from r) ▸ rfl
  | d :: l, vs, 0, ⟨v, t, e, r1, r2⟩ => e ▸ r2
  | d :: l, vs, j + 1, ⟨v, t, e, r1, r2⟩ => ⟨v, t.eraseIdx j, congrArg (·.eraseIdx (j + 1)) e, r1, eraseIdx_rv j r2⟩
noncomputable def isTxt (z : Str) : PV → Bool
  | .str x _ => x == z
  | _ => false
theorem txt_of {d : V} {v : PV} (hd : isS d = true) (r : Val B N d v) : ∃ x t, v = .str x t ∧ strOk x = true ∧ d = .str (encS x) := by
  cases d with
  | str s => exact r.elim fun x q => q.elim fun t q => ⟨x, t, q.1, q.2.1, by rw [q.2.2]⟩
  | _ => exact absurd hd Bool.false_ne_true
theorem ok_rem : MthOk B u .rem := fun G N k p d v Q E K rm sm hp hh rv z => (st_of (f := fun o => oK (mthO N.σ d k .rem o) K) sm hp hh id).elim fun o w => by
  obtain ⟨h, r, hs⟩ := w
  obtain ⟨l, rfl⟩ := mthL_of (m := .rem) (fun h => nomatch h) h
  obtain ⟨e12, arr, ⟨ka, il⟩, rs⟩ := r
  obtain ⟨hc, h0⟩ := if_of (oK_map h)
  have hS := List.all_eq_true.mp (and_l (and_l hc))
  clear h
  refine oK_of (oK_map h0) fun j hj h => ?_
  have hlen := len_eq (B := B) rs
  obtain ⟨s, tz, rfl, hzs, rfl⟩ := txt_of (and_r (and_l hc)) rv
  obtain ⟨hjl, hp2, hbefore⟩ := List.findIdx?_eq_some_iff_getElem.mp hj
  -- the items' tests agree
  have tst : ∀ i (h2 : i < arr.size), (∃ x t, arr[i] = .str x t) ∧ isTxt s arr[i] = V.beq (l[i]'(hlen ▸ h2)) (.str (encS s)) := fun i h2 => by
    have h1 : i < l.length := hlen ▸ h2
    obtain ⟨w, e1, r1⟩ := RVs_get rs (List.getElem?_eq_getElem h1)
    obtain ⟨x, t, e3, hx, e4⟩ := txt_of (hS _ (List.getElem_mem h1)) r1
    have e2 : arr[i] = .str x t := Option.some.inj (((Array.getElem?_eq_getElem h2).symm.trans Array.getElem?_toList.symm).trans (e1.trans (congrArg some e3)))
    rw [e2, e4]
    exact ⟨⟨x, t, rfl⟩, str_beq hx hzs⟩
  have he : ∀ y, y ∈ arr → MeetsSeq.EqGives y (.str s tz) (isTxt s y) := fun y hy => by
    obtain ⟨i, h2, rfl⟩ := Array.mem_iff_getElem.mp hy
    obtain ⟨x, t, e⟩ := (tst i h2).1
    rw [e]
    exact eqGives_str x s t tz
  have hja : j < arr.size := hlen.symm ▸ hjl
  refine call_meets PySem.F.slot_list_remove ⟨_, il, rfl⟩ PySem.F.entry_list_remove (PySem.F.args_list_remove_2 _ _) (MeetsSeq.list_remove p.1 arr ka (.str s tz) (isTxt s) he j hja ((tst j hja).2.trans hp2)
    (fun i h1 h2 => (tst i h1).2.trans (Bool.not_eq_true _ ▸ hbefore i h2)) (cap_ln hlen (of_decide_eq_true (and_r hc)))) ⟨il, z _ _ h (turn_list (b := p.1) (fun xs => xs.eraseIdxIfInBounds j) sm hp e12 il ?_ _)⟩
  rw [show (arr.eraseIdxIfInBounds j).toList = arr.toList.eraseIdx j by rw [Array.eraseIdxIfInBounds, dif_pos hja]; simp]
  exact eraseIdx_rv j rs
theorem asListL_of {v : V} {K : List V → Prop} (e : oK (asListL v) K) : ∃ l, v = .list l ∧ K l := by
  cases v <;> first | exact ⟨_, rfl, e⟩ | exact False.elim e
theorem ok_upd : MthOk B u .upd := fun G N k p d v Q E K rm sm hp hh rv z => (st_of (f := fun o => oK (mthO N.σ d k .upd o) K) sm hp hh id).elim fun o w => by
  obtain ⟨h, r, hs⟩ := w
  cases o with
  | dict dd =>
    obtain ⟨e12, kvs, td, rs⟩ := r
    obtain ⟨l, rfl, h⟩ := asListL_of (oK_bind h)
    obtain ⟨hz, h⟩ := if_of h
    obtain ⟨b, arr, rfl, wb, il, rsl⟩ := rv
    obtain ⟨kk, ho⟩ := id il
    have nw : ¬ N.W p.1 := fun w => sm.wk _ w ⟨p, List.mem_of_getElem? hp, e12.symm⟩
    have hp1 := (sm.lt p (List.mem_of_getElem? hp)).1
    have nab : p.1 ≠ b := fun e => nw (e ▸ wb)
    refine wpAny_call (codeAny_call_builtin PySem.F.slot_dict_update.plain PySem.F.entry_dict_update (PySem.F.slot_dict_update.check _ _ _ _ _ _ _ _ td.2.typeIs (PySem.F.args_dict_update_2 _ _) ?_))
    unfold Builtin.«dict.update»
    refine wpAny_bind ?_
    unfold Builtin.Dict.selfAndRest
    refine wpAny_bind (wpAny_notOrdered_dict td.2.typeIs ?_)
    show wpAny _ _ (pure (p.1, [Value.ref b])) _ _ _
    refine wpAny_pure ?_
    show wpAny _ _ (Builtin.Dict.updateFrom "dict.update" p.1 (.ref b) [] .none) _ _ _
    unfold Builtin.Dict.updateFrom
    refine wpAny_bind (wpAny_typeOf (T := "list") ⟨_, ho, rfl⟩ ?_)
    rw [if_pos (by decide)]
    refine wpAny_bind (keys_of_list ho rm.hand fun h1 tk1 k1 => ?_)
    have il1 : IsLs h1 b arr := ⟨kk, k1 _ _ ho⟩
    simp only [Option.isNone_none, if_true]
    refine wpAny_bind (wpAny_rule ?_)
    refine wpAny_bind (wpAny_pyIter_list (IsLs.list il1) (wpAny_pure ⟨plainId_quiet plain_upd_loop _, ?_⟩))
    have m : More N { N.s with heap := h1.push (itObj b), toks := tk1 } := ⟨fun b o e => Heap.get?_push_of_some _ (k1 b o e), rfl, rfl⟩
    have ni : ¬ N.has h1.objs.size := (⟨k1, rfl, rfl⟩ : More N { N.s with heap := h1 }).no
    have a := m.aft sm
    refine upd_loop (B := B) (arr := arr) (l := b) (fun e : p.1 = h1.objs.size => ni (e ▸ hp1)) nab (fun e : h1.objs.size = b => ni (by rw [e]; exact sm.wd _ wb)) l 0 dd kvs _ 0 (N.at { N.s with heap := h1.push (itObj b), toks := tk1 }) nw (fun w => ni (sm.wd _ w)) rm.hand (Vals.on a rsl) (oK_map h) (RVd_le a.le _ _ rs) (td.at fun o e => m.k _ _ e)
      ⟨_, Heap.get?_push_size _ rfl, rfl, rfl⟩ ((IsLs.list il1).at fun o e => Heap.get?_push_of_some _ e) ?_ fun d2 h' tk kvs' k2 kp td' rd => ?_
    · rw [RVd_length rs]; exact cap_line hz
    · have kp2 : ∀ x o, x ≠ p.2 → N.s.heap.get? x = some o → h'.get? x = some o := fun x o n e => kp x o (e12 ▸ n) (fun q => ni (q ▸ has_of e)) (m.k x o e)
      exact z (.dict d2) { N.s with heap := h', toks := tk } k2 (.ob sm hp kp2 (by rw [← e12]; exact td'.2.elim fun o q => q.elim fun _ q => q.elim fun _ q => ⟨o, q.1⟩) rfl rfl fun l => ⟨e12, kvs', td', RVd_le (by exact ⟨fun _ _ w e => ⟨e, w⟩, fun _ _ e => e⟩) _ _ rd⟩)
  | _ => exact False.elim h
theorem con_typ {m : Mth} {d : V} {v : PV} (sm : Sm B.D N) (h : isCon m d N.σ = true) (r : Val B N d v) : N.s.TypeIs v (mthT m) ∧ ∀ a, v = .ref a → ∃ o, N.s.heap.get? a = some o ∧ o.dict = none := by
  cases d with
  | loc k =>
    obtain ⟨p, rfl, hp⟩ := r
    obtain ⟨o, h, r, _⟩ := st_of (f := fun o => conO m o = true) sm hp h fun h => nomatch h
    cases o with
    | list l => cases m <;> first | exact list_typ r.2.elim.1 | exact absurd h Bool.false_ne_true | exact r.2.elim fun _ w => list_typ w.1
    | dict l => cases m <;> first | exact absurd h Bool.false_ne_true | exact r.2.elim fun _ w => dict_typ w.1
    | _ => exact absurd h Bool.false_ne_true
  | _ => exact absurd h Bool.false_ne_true
theorem ts_mth {m : Mth} {y x : X} {o e : PE} {meth : Str} {apos cpos pos : Pos} (mo : MthOk B u m) (pa : PlainAttrs (mthT m)) (slot : Slot (mthT m) meth (mthId m)) (hty : typeOf (.builtin (mthId m)) = pure (.type "method_descriptor")) (hb : plainBase o = true) (hl : (apos.endLine == cpos.line) = true) (hst : isStarred e = false)
    (h1 : TE B u c y (fun env => eval o env)) (h : TE B u c x (fun env => eval e env)) : TS B u c (.mth m y x) (fun env => exec (.Expr (.Call (.Attribute o meth apos) [e] [] cpos) pos) env) := fun G N Q E K H q z =>
  wpAny_Expr_any (call_meth pa slot hty hb hl (show 1 < 29 by decide) (by rw [List.all_cons, hst]; rfl) h1 (tes_cons hst h tes_nil) H.go q fun d Y w k1 a r => by
    obtain ⟨hc, k1⟩ := bK_of k1
    refine ⟨con_typ a.sm hc r, fun ds σ => match ds with | [v] => oK (mthE m d v σ) fun σ => K (.next G.ρ σ) | _ => False, k1, fun ds Z vs k2 a2 rs => ?_⟩
    match ds, k2, rs with
    | [dv], k2, rs =>
      obtain ⟨vv, rfl, rv⟩ := rs.one
      cases d with
      | loc k =>
        obtain ⟨p, rfl, hp⟩ := Val.on a2 r
        exact mo G Z k p dv vv _ E _ H.go.rm a2.sm hp k2 rv fun o s' k3 b => z.1 G.ρ (Z.ob k o s') k3 ((a.trans a2).trans b).up (H.to ((a.trans a2).trans b))
      | _ => exact False.elim k2) (by unfold interactive; rw [H.go.eo.kind]; rfl) rfl
end
end Mine

namespace Mine
open PySem PySem.W PyProof.Rows PySem.Calls
inductive NmS (oc : Bool) (c : Ck) : List Nat → List PE → Prop
  | nil : NmS oc c [] []
  | cons {x : Str} {i : Nat} {is : List Nat} {es : List PE} {p : Pos} : Nm oc c x i → NmS oc c is es → NmS oc c (i :: is) (.Name x p :: es)
inductive TgOk (oc : Bool) (c : Ck) : Tg → PE → Prop
  | one {x : Str} {i : Nat} {p : Pos} : Nm oc c x i → TgOk oc c (.one i) (.Name x p)
  | many {is : List Nat} {es : List PE} {k : Nat} {p : Pos} : NmS oc c is es → TgOk oc c (.many is) (.Tuple es k p)
section
variable {B : Bd} {u : Nat} {oc : Bool} {c : Ck} {G : Ev} {N Y Z : Nx} {E : PV → Shared → Prop}
theorem nms_len {is : List Nat} {es : List PE} (h : NmS oc c is es) (env : PEnv) : (assignEach es env).length = is.length ∧ (assignEach es env).findIdx? (·.1) = none := by
  induction h with
  | nil => exact ⟨rfl, rfl⟩
  | @cons x i is es p h1 _ ih =>
    refine ⟨congrArg (· + 1) ih.1, ?_⟩
    show ((false, assign (.Name x p) env) :: assignEach es env).findIdx? (·.1) = none
    rw [List.findIdx?_cons, ih.2]; rfl
theorem stores {is : List Nat} {es : List PE} (h : NmS oc c is es) : ∀ (G : Ev) (N : Nx) (l : List V) (vs : List PV) (Q : Unit → Shared → Prop), is.length = l.length → Gs B u oc c G N → Vals B N l vs →
    (∀ Y, Y.σ = N.σ → Aft B.D N (Fr oc c G.env) Y → Gs B u oc c (G.to (setMany is l G.ρ)) Y → Q () Y.s) → Wp B G N (assignInOrder ((assignEach es G.env).map (·.2)) vs) Q E := by
  induction h with
  | nil => exact fun G N l vs Q hl H rs q => assignInOrder_nil (q N rfl (.refl H.go.sm) H)
  | @cons y i is es p h1 _ ih => exact fun G N l vs Q hl H rs q => match l, hl, rs with
    | d :: l, hl, ⟨v, t, e, r1, r2⟩ => by
      subst e
      show wpAny _ G.A (assignInOrder (assign (.Name y p) G.env :: (assignEach es G.env).map (·.2)) (v :: t)) Q E N.s
      exact assignInOrder_cons (wpAny_assign_Name (store_ok H h1 r1 fun Y e1 a1 H1 => ih (G.set i d) Y l t Q (Nat.succ.inj hl) H1 (Vals.on a1 r2) fun Z e2 a2 H2 => q Z (e2.trans e1) (a1.trans a2) H2))
theorem unpack_sized {t : Addr} {items : Array PV} {targets : List (Bool × (PV → Sem Unit))} {Q : Unit → Shared → Prop} (hh : G.A.handled = none) (ht : N.s.heap.IsTuple t items) (hn : targets.length = items.size) (hstar : targets.findIdx? (·.1) = none)
    (h : ∀ s', More N s' → wpAny (model B.D.prog B.D.w) G.A (assignInOrder (targets.map (·.2)) items.toList) Q E s') : Wp B G N (unpack (.ref t) targets) Q E := by
  unfold Wp unpack
  rw [hn, hstar]
  exact wpAny_bind (wpAny_holding (wpAny_unpackItems_tuple hh ht fun h' e => h { N.s with heap := h' } ⟨fun b o g => e b o (fun q => no_new (q ▸ has_of g)) g, rfl, rfl⟩))
theorem bind_for {tg : Tg} {target : PE} (h : TgOk oc c tg target) {d : V} {v : PV} {Q : Unit → Shared → Prop} {K : REnv → Prop} (H : Gs B u oc c G N) (ev : oK (bindTg G.ρ tg d) K) (rv : Val B N d v)
    (z : ∀ ρ Y, K ρ → Y.σ = N.σ → Aft B.D N (Fr oc c G.env) Y → Gs B u oc c (G.to ρ) Y → Q () Y.s) : Wp B G N (assign target G.env v) Q E := by
  cases h with
  | one hb => exact wpAny_assign_Name (store_ok H hb rv fun Y e a H1 => z _ Y ev e a H1)
  | @many is es k p hb =>
    cases d with
    | tup l =>
      obtain ⟨hl, ev⟩ := if_of ev
      obtain ⟨a, arr, rfl, wa, t, rs⟩ := rv
      have e := nms_len hb G.env
      unfold Wp
      rw [assign_Tuple]
      refine wpAny_bind (wpAny_standAt (unpack_sized (N := N) H.go.rm.hand (IsTp.tup t) (e.1.trans (hl.trans (len_eq rs).symm)) e.2 fun s' m => ?_))
      have a := m.aft H.go.sm
      exact stores hb G (N.at s') l _ Q hl (H.to a) (Vals.on a rs) fun Y e2 a2 H2 => z _ Y ev e2 (a.up.trans a2) H2
    | _ => exact False.elim ev
theorem ts_asgT {is : List Nat} {x : X} {es : List PE} {t : PE} {k : Nat} {tp pos : Pos} (hb : NmS true c is es) (h : TE B u c x (fun env => eval t env)) (hs : ∀ env : PEnv, env.scope = c.sc → swapsWithSole [.Tuple es k tp] t pos.line env = pure false) (hw : ∀ env : PEnv, env.scope = c.sc → swappedStores [.Tuple es k tp] t env = pure none) :
    TS B u c (.asgT is x) (fun env => exec (.Assign [.Tuple es k tp] t pos) env) := fun G N Q E K H q z =>
  Assign_Tuple (h G N _ E _ H.go q fun d Y v k1 a r => bind_for (TgOk.many (k := k) (p := tp) hb) (H.to a) k1 r fun ρ Z k2 e b H2 => z.1 ρ Z (by rw [e]; exact k2) (a.up.trans b) H2) (hs _ H.go.eo.sc) (hw _ H.go.eo.sc)
inductive NmN (c : Ck) : List Nat → List Str → Prop
  | nil : NmN c [] []
  | cons {x : Str} {i : Nat} {is : List Nat} {xs : List Str} : Nm true c x i → NmN c is xs → NmN c (i :: is) (x :: xs)
theorem NmN.len {is : List Nat} {xs : List Str} (h : NmN c is xs) : is.length = xs.length := by
  induction h with
  | nil => rfl
  | cons _ _ ih => exact congrArg (· + 1) ih
theorem store_names {is : List Nat} {xs : List Str} (h : NmN c is xs) : ∀ (G : Ev) (N : Nx) (l : List V) (vs : List PV) (Q : Unit → Shared → Prop), is.length = l.length → Gs B u true c G N → Vals B N l vs →
    (∀ Y, Y.σ = N.σ → Aft B.D N (Fr true c G.env) Y → Gs B u true c (G.to (setMany is l G.ρ)) Y → Q () Y.s) → Wp B G N (assignInOrder (xs.map fun n => bindName G.env n) vs) Q E := by
  induction h with
  | nil => exact fun G N l vs Q hl H rs q => assignInOrder_nil (q N rfl (.refl H.go.sm) H)
  | @cons y i is xs h1 _ ih => exact fun G N l vs Q hl H rs q => match l, hl, rs with
    | d :: l, hl, ⟨v, t, e, r1, r2⟩ => by
      subst e
      show wpAny _ G.A (assignInOrder (bindName G.env y :: xs.map fun n => bindName G.env n) (v :: t)) Q E N.s
      exact assignInOrder_cons (bindName_ (store_ok H h1 r1 fun Y e1 a1 H1 => ih (G.set i d) Y l t Q (Nat.succ.inj hl) H1 (Vals.on a1 r2) fun Z e2 a2 H2 => q Z (e2.trans e1) (a1.trans a2) H2))
theorem RVs_rev {D : Wd} : ∀ {l : List V} {vs : List PV}, RVs D N l vs → RVs D N l.reverse vs.reverse
  | [], vs, r => (show vs = [] from r) ▸ rfl
  | d :: l, vs, ⟨v, t, e, r1, r2⟩ => by
    rw [e, List.reverse_cons, List.reverse_cons]
    exact RVs_append (RVs_rev r2) ⟨v, [], rfl, r1, rfl⟩
theorem ts_asgTs {w : Bool} {is : List Nat} {xs : List X} {es vs : List PE} {k k' : Nat} {tp vp pos : Pos} {names : List Str} (hb : match w with | false => NmS true c is es | true => NmN c is.reverse names.reverse)
    (h : TEs B u c xs (fun env => spliced (backTo vp (starEach vs env)))) (hl : xs.length ≤ 1000) (hs : ∀ env : PEnv, env.scope = c.sc → swapsWithSole [.Tuple es k tp] (.Tuple vs k' vp) pos.line env = pure false)
    (hw : ∀ env : PEnv, env.scope = c.sc → swappedStores [.Tuple es k tp] (.Tuple vs k' vp) env = pure (match w with | false => none | true => some names)) :
    TS B u c (.asgTs w is xs) (fun env => exec (.Assign [.Tuple es k tp] (.Tuple vs k' vp) pos) env) := fun G N Q E K H q z => by
  have tup : ∀ {Q' : PV → Shared → Prop}, (∀ d Y t us, is.length = d.length ∧ K (.next (setMany (rvs w is) (rvs w d) G.ρ) Y.σ) → Aft B.D N noA Y → IsTp Y.s.heap t us → Vals B Y d us.toList → Q' (.ref t) Y.s) → Wp B G N (eval (.Tuple vs k' vp) G.env) Q' E := fun q' =>
    Tuple_ (h G N _ E _ H.go q fun d Y v k1 l1 a r => have b := tre_ok (o := tpO v.toArray) a.sm rfl; have w := bK_of k1
      wpAny_newTuple (q' d (Y.tre _) _ v.toArray ⟨of_decide_eq_true w.1, w.2⟩ (a.trans b) ⟨_, push_at rfl⟩ (Vals.on b r)) (seq_len r l1 hl))
  cases w with
  | false =>
    refine Assign_Tuple (tup fun d Y t us k1 a it rs => ?_) (hs _ H.go.eo.sc) (hw _ H.go.eo.sc)
    have e := nms_len (show NmS true c is es from hb) G.env
    rw [assign_Tuple]
    refine wpAny_bind (wpAny_standAt (unpack_sized (G := G) (N := Y) H.go.rm.hand (IsTp.tup it) (e.1.trans (k1.1.trans (len_eq rs).symm)) e.2 fun s' m => ?_))
    have b := m.aft a.sm
    exact stores (show NmS true c is es from hb) G (Y.at s') d _ _ k1.1 (H.to (a.trans b)) (Vals.on b rs) fun Z e2 a2 H2 => z.1 _ Z (by rw [e2]; exact k1.2) ((a.trans b).up.trans a2) H2
  | true =>
    refine Assign_Tuple_swapped (tup fun d Y t us k1 a it rs => ?_) (hs _ H.go.eo.sc) (hw _ H.go.eo.sc)
    have hn : NmN c is.reverse names.reverse := hb
    have hl2 := hn.len
    rw [List.length_reverse, List.length_reverse] at hl2
    rw [show names.length = us.size from hl2.symm.trans (k1.1.trans (len_eq rs).symm)]
    refine wpAny_unpackItems_tuple H.go.rm.hand (IsTp.tup it) fun h' e => ?_
    have b := More.aft (y := Y) (s := { Y.s with heap := h' }) ⟨fun b o g => e b o (fun q => no_new (q ▸ has_of g)) g, rfl, rfl⟩ a.sm
    exact store_names hn G (Y.at { Y.s with heap := h' }) d.reverse _ _ (by rw [List.length_reverse, List.length_reverse]; exact k1.1) (H.to (a.trans b)) (RVs_rev (Vals.on b rs)) fun Z e2 a2 H2 => z.1 _ Z (by rw [e2]; exact k1.2) ((a.trans b).up.trans a2) H2
end
end Mine

namespace Mine
open PySem PySem.W PyProof.Rows PySem.Calls
mutual
theorem beq_eq : ∀ (a : V) {b : V}, V.beq a b = true → a = b
  | .none, b, h => by cases b <;> first | rfl | exact absurd h Bool.false_ne_true
  | .bool x, b, h => by cases b <;> first | exact congrArg V.bool (eq_of_beq h) | exact absurd h Bool.false_ne_true
  | .int x, b, h => by cases b <;> first | exact congrArg V.int (of_decide_eq_true h) | exact absurd h Bool.false_ne_true
  | .str x, b, h => by cases b <;> first | exact congrArg V.str (of_decide_eq_true h) | exact absurd h Bool.false_ne_true
  | .loc x, b, h => by cases b <;> first | exact congrArg V.loc (of_decide_eq_true h) | exact absurd h Bool.false_ne_true
  | .tup l, b, h => by cases b <;> first | exact congrArg V.tup (beqs_eq l h) | exact absurd h Bool.false_ne_true
  | .list l, b, h => by cases b <;> first | exact congrArg V.list (beqs_eq l h) | exact absurd h Bool.false_ne_true
  | .dict l, b, h => by cases b <;> first | exact congrArg V.dict (beqp_eq l h) | exact absurd h Bool.false_ne_true
theorem beqs_eq : ∀ (a : List V) {b : List V}, beqs a b = true → a = b
  | [], b, h => by cases b <;> first | rfl | exact absurd h Bool.false_ne_true
  | x :: r, b, h => by cases b <;> first | exact (have w := Bool.and_eq_true_iff.mp h; List.cons_eq_cons.mpr ⟨beq_eq x w.1, beqs_eq r w.2⟩) | exact absurd h Bool.false_ne_true
theorem beqp_eq : ∀ (a : List (V × V)) {b : List (V × V)}, beqp a b = true → a = b
  | [], b, h => by cases b <;> first | rfl | exact absurd h Bool.false_ne_true
  | (x, y) :: r, b, h => by cases b <;> first | exact (have w := Bool.and_eq_true_iff.mp h; have z := Bool.and_eq_true_iff.mp w.2; List.cons_eq_cons.mpr ⟨Prod.ext (beq_eq x w.1) (beq_eq y z.1), beqp_eq r z.2⟩) | exact absurd h Bool.false_ne_true
end
theorem still_of {g : Option Nat} {l : List V} {σ : St} (h : stillB g l σ = true) : still g l σ := by
  cases g with
  | none => trivial
  | some n =>
    show σ[n]? = _
    have h : stO l σ[n]? = true := h
    generalize σ[n]? = o at h ⊢
    cases o with
    | none => exact absurd h Bool.false_ne_true
    | some o => cases o <;> first | exact congrArg (fun l => some (SObj.list l)) (beqs_eq _ h) | exact absurd h Bool.false_ne_true
theorem stB_of {g : Option Nat} {l : List V} {σ : St} {p : Prop} (h : bK (stillB g l σ) p) : still g l σ ∧ p := ⟨still_of (bK_of h).1, (bK_of h).2⟩
structure ItOk (D : Wd) (tg : PE) (I : Addr) (fp : Addr → Prop) (J : Nat → Nx → Prop) (vs : List V) (g : Option Nat) : Prop where
  jm : ∀ (k : Nat) (N Y : Nx), Le N Y → (∀ b, fp b → ∀ o, N.s.heap.get? b = some o → Y.s.heap.get? b = some o) → J k N → J k Y
  item : ∀ (A : Around) (k : Nat) (d : V) (N : Nx) (Q : PV → Shared → Prop) (E E' : PV → Shared → Prop), A.handled = none → vs[k]? = some d → J k N → Sm D N → (∀ b, fp b → Pv N b) → still g vs N.σ →
    (∀ v Y, J (k + 1) Y → Aft D N fp Y → Y.σ = N.σ → RV D Y d v → Q v Y.s) → wpAny (model D.prog D.w) A (pyNext (.ref I)) (fun r s₁ => ∃ v, r = some v ∧ wpAny (model D.prog D.w) A (letOwnedTupleGo tg (.ref I) v) (fun _ s₂ => Q v s₂) E' s₁) E N.s
  stop : ∀ (A : Around) (N : Nx) (Q : Shared → Prop) (E : PV → Shared → Prop), A.handled = none → J vs.length N → Sm D N → still g vs N.σ →
    (∀ s₁ : Shared, (∀ b o, N.s.heap.get? b = some o → ¬ fp b → s₁.heap.get? b = some o) → s₁.gens = N.s.gens → s₁.os = N.s.os → Q s₁) → wpAny (model D.prog D.w) A (pyNext (.ref I)) (fun r s₁ => r = none ∧ Q s₁) E N.s
  self : ∀ (A : Around) (k : Nat) (N : Nx) (Q : PV → Shared → Prop) (E : PV → Shared → Prop), J k N → Q (.ref I) N.s → wpAny (model D.prog D.w) A (pyIter (.ref I)) Q E N.s
noncomputable def ownsTuples (n : String) : Bool := ["enumerate", "zip", "dict_itemiterator", "dict_reverseitemiterator", "odict_iterator", "itertools.zip_longest", "itertools.pairwise"].contains n
noncomputable def Itr (nm : String) (h : Heap) (a l : Addr) (i : Nat) : Prop := ∃ o, h.get? a = some o ∧ o.cls = .type nm ∧ o.data = .fields #[.ref l, .int i 0]
noncomputable def Cn (D : Wd) (g : Option Nat) (vs : List V) (T : Heap → Addr → Array PV → Prop) (l : Addr) (C : Nx → Prop) : Prop :=
  (∀ N Y, Le N Y → C N → C Y) ∧ ∀ N, Sm D N → still g vs N.σ → C N → ∃ arr, T N.s.heap l arr ∧ RVs D N vs arr.toList
section
variable {D : Wd} {A : Around} {N : Nx} {tg : PE} {vs : List V} {g : Option Nat} {it l : Addr} {C : Nx → Prop}
theorem letgo_skip {s : Shared} {I : Addr} {v : PV} {o : Obj} {n : String} {vs : Array PV} {Q : Unit → Shared → Prop} {E : PV → Shared → Prop} (ho : s.heap.get? I = some o) (hc : o.cls = .type n) (hd : o.data = .fields vs) (hn : ownsTuples n = false) (q : Q () s) :
    wpAny (model D.prog D.w) A (letOwnedTupleGo tg (.ref I) v) Q E s := by
  have core : wpAny (model D.prog D.w) A (do
      let (.ref r, .ref a) := ((.ref I, v) : PV × PV) | return
      let o ← load r
      match o.cls, o.data with
      | .type n, .fields vs =>
        if ["enumerate", "zip", "dict_itemiterator", "dict_reverseitemiterator", "odict_iterator", "itertools.zip_longest", "itertools.pairwise"].contains n && vs[0]? == some (rawInt a) then
          rule "for.unpacks-the-owned-tuple"
          updateField r 0 .none
      | _, _ => pure () : Sem Unit) Q E s := by
    cases v with
    | ref T =>
      refine wpAny_bind (wpAny_load ho ?_)
      rw [hc, hd]
      show wpAny _ _ (if (ownsTuples n && _) = true then _ else _) _ _ _
      rw [hn]
      exact wpAny_pure q
    | _ => exact wpAny_pure q
  cases tg <;> first | exact core | exact wpAny_pure q
theorem get_arr {arr : Array PV} {k : Nat} {x : Option PV} (h : arr.toList[k]? = x) : arr[k]? = x := by rw [← Array.getElem?_toList]; exact h
theorem arr_stop {arr : Array PV} (r : RVs D N vs arr.toList) : arr[vs.length]? = none := get_arr (List.getElem?_eq_none (Nat.le_of_eq (RVs_length r)))
theorem it_seq {nm : String} {T : Heap → Addr → Array PV → Prop} (hn : ownsTuples nm = false) (hc : Cn D g vs T l C)
    (hi : ∀ {A : Around} {s : Shared} {i : Nat} {arr : Array PV} {x : PV} {Q : Option PV → Shared → Prop} {E : PV → Shared → Prop}, Itr nm s.heap it l i → T s.heap l arr → arr[i]? = some x → (∀ h', Itr nm h' it l (i + 1) → Heap.SameBut it s.heap h' → Q (some x) { s with heap := h' }) → wpAny (model D.prog D.w) A (pyNext (.ref it)) Q E s)
    (he : ∀ {A : Around} {s : Shared} {i : Nat} {arr : Array PV} {Q : Option PV → Shared → Prop} {E : PV → Shared → Prop}, A.handled = none → Itr nm s.heap it l i → T s.heap l arr → arr[i]? = none → (∀ h', Heap.ExtBut it s.heap h' → Q none { s with heap := h' }) → wpAny (model D.prog D.w) A (pyNext (.ref it)) Q E s)
    (hs : ∀ {A : Around} {s : Shared} {i : Nat} {Q : PV → Shared → Prop} {E : PV → Shared → Prop}, Itr nm s.heap it l i → Q (.ref it) s → wpAny (model D.prog D.w) A (pyIter (.ref it)) Q E s) :
    ItOk D tg it (fun b => b = it) (fun k N => Itr nm N.s.heap it l k ∧ C N) vs g :=
  ⟨fun k N Y le hk j => ⟨j.1.elim fun o q => ⟨o, hk it rfl o q.1, q.2⟩, hc.1 N Y le j.2⟩,
    fun A k d N Q E E' hh hv j m pv st q => (hc.2 N m st j.2).elim fun arr w => (RVs_get w.2 hv).elim fun x r => hi j.1 w.1 (get_arr r.1) fun h' j2 sb =>
      have a := Aft.turn1 (t := N.s.toks) m (pv it rfl) (fun c o n e => sb.extBut c o n e) (j2.elim fun o q => ⟨o, q.1⟩)
      ⟨x, rfl, j2.elim fun o w => letgo_skip w.1 w.2.1 w.2.2 hn (q x (N.at { N.s with heap := h' }) ⟨j2, hc.1 _ _ a.le j.2⟩ a rfl (RV_le a.le d x r.2))⟩,
    fun A N Q E hh j m st q => (hc.2 N m st j.2).elim fun arr w => he hh j.1 w.1 (arr_stop w.2) fun h' sb => ⟨rfl, q { N.s with heap := h' } (fun b o e n => sb b o n e) rfl rfl⟩,
    fun A k N Q E j q => hs j.1 q⟩
theorem it_list (hc : Cn D g vs Heap.IsList l C) : ItOk D tg it (fun b => b = it) (fun k N => Itr "list_iterator" N.s.heap it l k ∧ C N) vs g :=
  it_seq (by decide) hc (fun a b c q => wpAny_pyNext_list_item a b c q) (fun a b c d q => wpAny_pyNext_list_end a b c d q) fun a q => wpAny_pyIter_listiter a q
theorem it_tuple (hc : Cn D g vs Heap.IsTuple l C) : ItOk D tg it (fun b => b = it) (fun k N => Itr "tuple_iterator" N.s.heap it l k ∧ C N) vs g :=
  it_seq (by decide) hc (fun a b c q => wpAny_pyNext_tuple_item a b c q) (fun a b c d q => wpAny_pyNext_tuple_end a b c d q) fun a q => wpAny_pyIter_tupleiter a q
theorem range_at {n k : Nat} {d : V} (h : ((List.range n).map fun (k : Nat) => V.int k)[k]? = some d) : k < n ∧ d = .int k := by
  have l := (List.getElem?_eq_some_iff.mp h).1
  rw [List.length_map, List.length_range] at l
  rw [List.getElem?_map, List.getElem?_range l] at h
  exact ⟨l, (Option.some.inj h).symm⟩
theorem it_range {n : Nat} : ItOk D tg it (fun b => b = it) (fun k N => IsRangeIter N.s.heap it k (n - k : Int) 1) ((List.range n).map fun (k : Nat) => V.int k) none :=
  ⟨fun k N Y le hk j => hk it rfl _ j,
    fun A k d N Q E E' hh hv j m pv st q => have w := range_at hv
      wpAny_pyNext_range_item j (Int.sub_pos.mpr (Int.ofNat_lt.mpr w.1)) fun h' j2 sb =>
        have a := Aft.turn1 (t := N.s.toks + 1) m (pv it rfl) (fun c o n e => sb.extBut c o n e) ⟨_, j2⟩
        ⟨_, rfl, letgo_skip j2 rfl rfl (by decide) (q _ (N.at { N.s with heap := h', toks := N.s.toks + 1 }) (by
          show IsRangeIter h' it ((k + 1 : Nat) : Int) ((n : Int) - ((k + 1 : Nat) : Int)) 1
          rw [Int.natCast_add, ← Int.sub_sub]; exact j2) a rfl (by rw [w.2]; exact ⟨_, rfl⟩))⟩,
    fun A N Q E hh j m st q => wpAny_pyNext_range_end hh j (by rw [List.length_map, List.length_range]; exact Int.le_of_eq (Int.sub_self _)) fun h' sb => ⟨rfl, q { N.s with heap := h' } (fun b o e n => sb b o n e) rfl rfl⟩,
    fun A k N Q E j q => wpAny_pyIter_rangeiter j q⟩
theorem hand_out {F : Addr → Prop} {s : Shared} {T : Addr} {a b : PV} (m : Sm D N) (hF : ∀ b, F b → Pv N b) (k : ∀ b o, N.s.heap.get? b = some o → ¬ F b → s.heap.get? b = some o) (z : ∀ a, F a → ∃ o, s.heap.get? a = some o) (g : s.gens = N.s.gens) (os : s.os = N.s.os) (hT : IsPair s.heap T a b) (nT : ¬ N.has T) :
    Aft D N F ((N.at s).wi T) ∧ ∀ {d1 d2}, RV D ((N.at s).wi T) d1 a → RV D ((N.at s).wi T) d2 b → RV D ((N.at s).wi T) (.tup [d1, d2]) (.ref T) :=
  ⟨(Aft.turn m hF k (fun a f => Option.isSome_iff_exists.mpr (z a f)) g os).wi ⟨Option.isSome_iff_exists.mpr ⟨_, hT⟩, fun w => nT (m.wd T w), fun p hp => ⟨fun e => nT (e ▸ (m.lt p hp).1), fun e => nT (e ▸ (m.lt p hp).2)⟩⟩ nT,
    fun r1 r2 => ⟨T, _, rfl, .inr rfl, ⟨_, hT⟩, _, _, rfl, r1, _, _, rfl, r2, rfl⟩⟩
theorem enum_at {k : Nat} {d : V} (h : ((List.range vs.length).zip vs |>.map fun (q : Nat × V) => V.tup [.int q.1, q.2])[k]? = some d) : ∃ x, vs[k]? = some x ∧ d = .tup [.int k, x] := by
  rw [List.getElem?_map] at h
  obtain ⟨⟨a, x⟩, e1, e2⟩ := Option.map_eq_some_iff.mp h
  have e3 := List.getElem?_zip_eq_some.mp e1
  have l := (List.getElem?_eq_some_iff.mp e3.1).1
  rw [List.length_range] at l
  exact ⟨x, e3.2, by rw [← e2, ← Option.some.inj ((List.getElem?_range l).symm.trans e3.1)]⟩
theorem it_enum {elts : List PE} {x1 : Nat} {tp : Pos} {e : Addr} (hei : e ≠ it) (hc : Cn D none vs Heap.IsList l C) :
    ItOk D (.Tuple elts x1 tp) e (fun b => b = e ∨ b = it) (fun k N => (∃ old, IsEnum N.s.heap e it (k : Int) old) ∧ Itr "list_iterator" N.s.heap it l k ∧ C N) ((List.range vs.length).zip vs |>.map fun (q : Nat × V) => V.tup [.int q.1, q.2]) none :=
  ⟨fun k N Y le hk j => ⟨j.1.elim fun old q => ⟨old, hk e (.inl rfl) _ q⟩, j.2.1.elim fun o q => ⟨o, hk it (.inr rfl) o q.1, q.2⟩, hc.1 N Y le j.2.2⟩,
    fun A k d N Q E E' hh hv j m pv st q => (enum_at hv).elim fun y w => (hc.2 N m trivial j.2.2).elim fun arr t => (RVs_get t.2 w.1).elim fun v r => j.1.elim fun old h1 =>
      wpAny_pyNext_enum_item h1 j.2.1 t.1 (x := v) (get_arr r.1) hei fun h' h3 h4 h5 h6 k1 => ⟨_, rfl, wpAny_letOwnedTupleGo_enum h3 fun h'' h7 sb =>
        have hne : N.s.heap.objs.size ≠ e := fun z => no_new (z ▸ has_of h1)
        have i2 : Itr "list_iterator" h'' it l (k + 1) := h4.elim fun o q => ⟨o, sb.extBut it o hei.symm q.1, q.2⟩
        have a := hand_out (s := { N.s with heap := h'', toks := N.s.toks + 1 }) m pv (fun b o eo n => sb.extBut b o (fun z => n (.inl z)) (k1 b o (fun z => n (.inl z)) (fun z => n (.inr z)) eo)) (fun a f => f.elim (fun f => ⟨_, f ▸ h7⟩) fun f => i2.elim fun o q => ⟨o, f ▸ q.1⟩) rfl rfl (sb.extBut _ _ hne h5) no_new
        q _ _ ⟨⟨_, by rw [Int.natCast_add]; exact h7⟩, i2, hc.1 _ _ a.1.le j.2.2⟩ a.1 rfl (by rw [w.2]; exact a.2 ⟨_, rfl⟩ (RV_le a.1.le y v r.2))⟩,
    fun A N Q E hh j m st q => (hc.2 N m trivial j.2.2).elim fun arr t => j.1.elim fun old h1 => by
      have z : ((List.range vs.length).zip vs |>.map fun (q : Nat × V) => V.tup [.int q.1, q.2]).length = vs.length := by rw [List.length_map, List.length_zip, List.length_range, Nat.min_self]
      have j2 := j.2.1
      rw [z] at h1 j2
      exact wpAny_pyNext_enum_end hh h1 j2 t.1 (arr_stop t.2) fun h' sb => ⟨rfl, q { N.s with heap := h' } (fun b o e n => sb b o (fun z => n (.inr z)) e) rfl rfl⟩,
    fun A k N Q E j q => j.1.elim fun _ h1 => wpAny_pyIter_enum h1 q⟩
end
end Mine

namespace Mine
open PySem PySem.W PyProof.Rows PySem.Calls
noncomputable def TSr (B : Bd) (u : Nat) (c : Ck) (tg : PE) (x : Src) (t : PE) : Prop :=
  ∀ (G : Ev) (N : Nx) (Q E : PV → Shared → Prop) (K : List V × Option Nat → St → Prop), Go B u c G N → kSrc B.P B.T x G.ρ N.σ K →
    (∀ vs g Y I fp J, K (vs, g) Y.σ → ItOk B.D tg I fp J vs g → J 0 Y → Aft B.D N noA Y → (∀ b, fp b → ¬ N.has b ∧ Pv Y b) → Q (.ref I) Y.s) →
    Wp B G N (eval t G.env) (fun x s₁ => wpAny (model B.D.prog B.D.w) G.A (pyIter x) Q E s₁) E
noncomputable def lone (l : List V) (p : V → Prop) : Prop := match l with
  | [v] => p v
  | _ => False
theorem lone_of {l : List V} {p : V → Prop} (h : lone l p) : ∃ v, l = [v] ∧ p v := match l, h with
  | [v], h => ⟨v, rfl, h⟩
section
variable {D : Wd} {A : Around} {N : Nx} {g : Option Nat} {it l : Addr} {C : Nx → Prop}
theorem cn_tp {vs : List V} {b : Addr} : Cn D none vs Heap.IsTuple b fun N => N.W b ∧ ∃ arr, IsTp N.s.heap b arr ∧ RVs D N vs arr.toList :=
  ⟨fun N Y le h => h.2.elim fun arr q => have w := q.1.le le h.1; ⟨w.1, arr, w.2, RVs_le le _ _ q.2⟩, fun N m st h => h.2.elim fun arr q => ⟨arr, q.1.tup, q.2⟩⟩
theorem cn_ls {vs : List V} {b : Addr} : Cn D none vs Heap.IsList b fun N => N.W b ∧ ∃ arr, IsLs N.s.heap b arr ∧ RVs D N vs arr.toList :=
  ⟨fun N Y le h => h.2.elim fun arr q => have w := q.1.le le h.1; ⟨w.1, arr, w.2, RVs_le le _ _ q.2⟩, fun N m st h => h.2.elim fun arr q => ⟨arr, q.1.list, q.2⟩⟩
theorem cn_st {vs : List V} {n : Nat} {p : Addr × Addr} : Cn D (some n) vs Heap.IsList p.1 fun N => N.μ[n]? = some p :=
  ⟨fun N Y le h => le.m _ _ h, fun N m st h => (m.obj n _ p st h).2.elim fun arr q => ⟨arr, q.1.list, q.2⟩⟩
theorem RVd_at : ∀ {d : List (V × V)} {v : List (Str × PV)}, RVd D N d v → ∀ {i : Nat} {q : V × V}, d[i]? = some q → ∃ y u, v[i]? = some (y, u) ∧ (q.1 = .str (encS y) ∧ strOk y = true) ∧ RV D N q.2 u
  | [], v, r, i, q, e => nomatch e
  | _ :: l, v, ⟨n, w, t, e1, hk, r1, _⟩, 0, q, e => by cases e; exact ⟨n, w, by rw [e1]; rfl, hk, r1⟩
  | _ :: l, v, ⟨n, w, t, e1, _, _, r2⟩, i + 1, q, e => e1 ▸ RVd_at r2 (i := i) e
theorem entry_itemiter : entryFor table "dict_itemiterator.__iter__" = some Builtin.«dict_keyiterator.__iter__» :=
  entryFor_alias (id' := "dict_keyiterator.__iter__") (by kernel_rfl) (by first | rfl | decide +kernel | (unfold String.splitOn; simp +decide [String.splitOnAux])) (by decide +kernel) (by kernel_rfl)
theorem pyIter_itemiter {prog : Program} {w : World} {s : Shared} {d : Addr} {i n ep : Nat} {ok ov : PV} {Q : PV → Shared → Prop} {E : PV → Shared → Prop} (hit : IsItemIter s.heap it d i n ep ok ov) (h : Q (.ref it) s) : wpAny (model prog w) A (pyIter (.ref it)) Q E s :=
  have hT : s.TypeIs (.ref it) "dict_itemiterator" := ⟨_, hit, rfl⟩
  wpAny_pyIter_slot hT PySem.F.slot_dict_itemiterator_iter (wpAny_call_entry PySem.F.slot_dict_itemiterator_iter hT entry_itemiter (show wpAny _ _ (ret (.ref it)) _ _ s from wpAny_pure ⟨_, rfl, "dict_itemiterator", _, hT, PySem.F.slot_dict_itemiterator_next.lookup, h⟩) (PySem.F.args_dict_itemiterator_iter_1 _))
theorem it_items {elts : List PE} {x1 : Nat} {tp : Pos} {d : Addr} {vs : List (V × V)} {n ep : Nat} :
    ItOk D (.Tuple elts x1 tp) it (fun b => b = it) (fun k N => (∃ ok ov, IsItemIter N.s.heap it d k n ep ok ov) ∧ N.W d ∧ ∃ kvs, N.s.heap.DictAt (SK D) d kvs ep ∧ RVd D N vs kvs ∧ n = kvs.length) (vs.map fun (q : V × V) => V.tup [q.1, q.2]) none :=
  have go : ∀ {N Y : Nx}, Le N Y → (N.W d ∧ ∃ kvs, N.s.heap.DictAt (SK D) d kvs ep ∧ RVd D N vs kvs ∧ n = kvs.length) → Y.W d ∧ ∃ kvs, Y.s.heap.DictAt (SK D) d kvs ep ∧ RVd D Y vs kvs ∧ n = kvs.length := fun {N Y} le j =>
    ⟨j.2.elim fun kvs q => q.1.elim fun o q => q.elim fun es q => (le.w d _ j.1 q.1).2, j.2.elim fun kvs q => ⟨kvs, q.1.elim fun o r => r.elim fun es r => ⟨o, es, (le.w d _ j.1 r.1).1, r.2⟩, RVd_le le _ _ q.2.1, q.2.2⟩⟩
  ⟨fun k N Y le hk j => ⟨j.1.elim fun ok q => q.elim fun ov q => ⟨ok, ov, hk it rfl _ q⟩, go le j.2⟩,
    fun A k dd N Q E E' hh hv j m pv st q => by
      obtain ⟨⟨ok, ov, h1⟩, wd, kvs, t, rs, e0⟩ := id j
      rw [e0] at h1
      rw [List.getElem?_map] at hv
      obtain ⟨p, hp, hd⟩ := Option.map_eq_some_iff.mp hv
      obtain ⟨y, v, e1, hk, rv⟩ := RVd_at rs hp
      refine wpAny_pyNext_items_item h1 t e1 fun key h' hkey h3 h5 h6 k1 => ⟨_, rfl, wpAny_letOwnedTupleGo_items h3 fun h'' h7 sb => ?_⟩
      have hne : N.s.heap.objs.size ≠ it := fun z => no_new (z ▸ has_of h1)
      have a := hand_out (s := { N.s with heap := h'' }) m pv (fun b o eo n => sb.extBut b o n (k1 b o n eo)) (fun a f => ⟨_, f ▸ h7⟩) rfl rfl (sb.extBut _ _ hne h5) no_new
      obtain ⟨tk, rfl⟩ := Value.isStrOf_shape hkey
      rw [← e0] at h7
      exact q _ _ ⟨⟨_, _, h7⟩, go a.1.le j.2⟩ a.1 rfl (by rw [← hd]; exact a.2 (by rw [hk.1]; exact ⟨y, tk, rfl, hk.2, rfl⟩) (RV_le a.1.le _ v rv)),
    fun A N Q E hh j m st q => by
      obtain ⟨⟨ok, ov, h1⟩, wd, kvs, t, rs, e0⟩ := j
      rw [List.length_map, ← RVd_length rs, e0] at h1
      exact wpAny_pyNext_items_end hh h1 t (List.getElem?_eq_none (Nat.le_refl _)) fun h' sb => ⟨rfl, q { N.s with heap := h' } (fun b o e n => sb b o n e) rfl rfl⟩,
    fun A k N Q E j q => j.1.elim fun _ w => w.elim fun _ w => pyIter_itemiter w q⟩
end
section
variable {B : Bd} {u : Nat} {c : Ck} {G : Ev} {N Y Z : Nx} {g : Gt}
theorem tsr_val {tg : PE} {y : X} {e : PE} (h : TE B u c y (fun env => eval e env)) : TSr B u c tg (.val y) e := fun G N Q E K H q z => h G N _ E _ H q fun d Y v k a r => by
  have fin : ∀ {l : List V} {g : Option Nat} {o : Obj} {J : Nat → Nx → Prop}, o.isFreed = false → K (l, g) Y.σ → ItOk B.D tg Y.s.heap.objs.size (fun b => b = Y.s.heap.objs.size) J l g → (Aft B.D Y noA (Y.psh o) → J 0 (Y.psh o)) → Q (.ref Y.s.heap.objs.size) (Y.psh o).s := fun {l g o J} hf k io j =>
    have w := push_ok a.sm hf
    z l g (Y.psh o) _ _ J k io (j w.1) (a.trans w.1) fun b e => ⟨fun h => no_new (a.ex _ (e ▸ h)), e ▸ w.2⟩
  cases d with
  | tup l =>
    obtain ⟨b, arr, rfl, w, t, rs⟩ := r
    exact wpAny_pyIter_tuple t.tup (fin rfl k (it_tuple cn_tp) fun a => ⟨⟨_, push_at rfl, rfl, rfl⟩, cn_tp.1 _ _ a.le ⟨w, arr, t, rs⟩⟩)
  | list l =>
    obtain ⟨b, arr, rfl, w, t, rs⟩ := r
    exact wpAny_pyIter_list t.list (fin rfl k (it_list cn_ls) fun a => ⟨⟨_, push_at rfl, rfl, rfl⟩, cn_ls.1 _ _ a.le ⟨w, arr, t, rs⟩⟩)
  | loc n =>
    obtain ⟨p, rfl, hp⟩ := r
    obtain ⟨o, k, w, e⟩ := st_of (f := fun o => oK (locL o) fun l => K (l, some n) Y.σ) a.sm hp k id
    cases o with
    | list l => exact (cn_st.2 Y a.sm e hp).elim fun arr t => wpAny_pyIter_list t.1 (fin rfl k (it_list (cn_st (p := p))) fun a => ⟨⟨_, push_at rfl, rfl, rfl⟩, hp⟩)
    | _ => exact False.elim k
  | _ => exact False.elim k
theorem range_size {n : Int} : Builtin.Range.rangeSize 0 n 1 = (n.toNat : Int) := by
  unfold Builtin.Range.rangeSize
  rw [if_pos (by decide)]
  split
  · rename_i h
    have : (n - 0 - 1) / 1 = n - 1 := by rw [Int.ediv_one]; omega
    rw [this]; omega
  · omega
theorem range_small {n : Int} (h1 : -1000000 ≤ n) (h2 : n ≤ 1000000) : Builtin.Range.small 0 n 1 = true := by
  have p : (2 : Int) ^ 63 = 9223372036854775808 := by decide
  have h4 : ((n.toNat : Int)) ≤ 1000000 := by omega
  have h3 : (0 : Int) ≤ (n.toNat : Int) := by omega
  unfold Builtin.Range.small
  rw [range_size]
  unfold Builtin.Range.rangeFitsLong
  rw [p, if_pos (by decide)]
  simp only [Bool.and_eq_true, Bool.or_eq_true, decide_eq_true_eq]
  refine ⟨⟨⟨⟨⟨?_, ?_⟩, ?_, ?_⟩, ?_, ?_⟩, ?_, ?_⟩, .inr ⟨?_, ?_⟩⟩ <;> omega
theorem tsr_range {tg : PE} {y : X} {e : PE} {x : Str} {np pos : Pos} (F : Facts B g) (BB : BiOk B.D c x (.type "range")) (hs : isStarred e = false) (h : TEs B u c [y] (fun env => spliced (backTo pos (starEach [e] env)))) :
    TSr B u c tg (.range y) (.Call (.Name x np) [e] [] pos) := fun G N Q E K H q z =>
  call_name (K := fun l σ => lone l fun v => oK (rangeE v) fun l => K (l, none) σ) F BB rfl (by rw [List.all_cons, hs]; rfl) h H q fun ds Y vs k a r => by
    obtain ⟨d, rfl, k⟩ := lone_of k
    obtain ⟨v, rfl, rv⟩ := Vals.one r
    obtain ⟨n, t, rfl, rfl, k⟩ := asInt_of (oK_bind k) rv
    have w := if_of k
    refine call_range_1 (wpAny_pyIter_range (push_at rfl) (range_small w.1.1 w.1.2) ?_)
    have m := ((More.refl Y).push { cls := .type "range", data := .fields #[.int 0 Y.s.toks, .int n t, .int 1 (Y.s.toks + 1)] }).toks (Y.s.toks + 1 + 1)
    rw [range_size]
    exact z _ none (Y.at _) _ _ _ w.2 it_range (by rw [Int.natCast_zero, Int.sub_zero]; exact push_at rfl) (a.trans ((m.push _).aft a.sm)) fun b e => ⟨fun h => m.no (a.ex _ (e ▸ h)), e ▸ (m.push _).pv a.sm m.no (push_at rfl)⟩
theorem tsr_enum {elts : List PE} {x1 : Nat} {tp : Pos} {y : X} {e : PE} {x : Str} {np pos : Pos} (F : Facts B g) (BB : BiOk B.D c x (.type "enumerate")) (hs : isStarred e = false) (h : TEs B u c [y] (fun env => spliced (backTo pos (starEach [e] env)))) :
    TSr B u c (.Tuple elts x1 tp) (.enum y) (.Call (.Name x np) [e] [] pos) := fun G N Q E K H q z =>
  call_name (K := fun l σ => lone l fun v => oK (asListL v) fun l => K (((List.range l.length).zip l |>.map fun (q : Nat × V) => V.tup [.int q.1, q.2]), none) σ) F BB rfl (by rw [List.all_cons, hs]; rfl) h H q fun ds Y vs k a r => by
    obtain ⟨d, rfl, k⟩ := lone_of k
    obtain ⟨v, rfl, rv⟩ := Vals.one r
    cases d with
    | list l =>
      obtain ⟨b, arr, rfl, wa, t, rs⟩ := rv
      refine call_enumerate_list t.list fun h' h1 h2 h3 kp => wpAny_pyIter_enum h1 ?_
      have m : More Y { Y.s with heap := h' } := ⟨kp, rfl, rfl⟩
      have n1 : ∀ {k : Nat}, Y.s.heap.objs.size ≤ k → ¬ Y.has k := fun hk h => absurd (has_lt h) (Nat.not_lt.mpr hk)
      have af := m.aft a.sm
      exact z _ none (Y.at _) _ _ _ k (it_enum (Nat.succ_ne_self _) cn_ls) ⟨⟨_, h1⟩, h2, cn_ls.1 _ _ af.le ⟨wa, arr, t, rs⟩⟩ (a.trans af) fun b e => e.elim (fun e => by
        rw [e]; exact ⟨fun h => n1 (Nat.le_succ _) (a.ex _ h), m.pv a.sm (n1 (Nat.le_succ _)) h1⟩) fun e => by
        rw [e]; exact ⟨fun h => n1 (Nat.le_refl _) (a.ex _ h), h2.elim fun o q => m.pv a.sm (n1 (Nat.le_refl _)) q.1⟩
    | _ => exact False.elim k
theorem tsr_items {elts : List PE} {x1 : Nat} {tp : Pos} {y : X} {e : PE} {apos pos : Pos} (hb : plainBase e = true) (hl : (apos.endLine == pos.line) = true) (h : TE B u c y (fun env => eval e env)) :
    TSr B u c (.Tuple elts x1 tp) (.items y) (.Call (.Attribute e "items" apos) [] [] pos) := fun G N Q E K H q z =>
  call_meth (xs := []) PySem.F.plainAttrs_dict PySem.F.slot_dict_items PySem.F.type_dict_items hb hl (by decide) rfl h tes_nil H q fun d Y v k a r => by
    cases d with
    | dict l =>
      obtain ⟨b, kvs, rfl, wa, t, rs⟩ := r
      refine ⟨dict_typ t, fun l' σ => K ((l.map fun (q : V × V) => V.tup [q.1, q.2]), none) σ ∧ l' = [], ⟨k, rfl⟩, fun ds Z vs k a2 r2 => ?_⟩
      cases k.2
      cases (r2 : vs = [])
      obtain ⟨wa, t⟩ := t.le a2.le wa
      refine call_meetsIn PySem.F.slot_dict_items t.2.typeIs PySem.F.entry_dict_items (PySem.F.args_dict_items_1 _) (meets_dict_items (SK B.D) b (not_sys t.1)) ⟨⟨kvs, t.2⟩, ?_⟩
      obtain ⟨ep, da⟩ := t.2.dictAt
      refine wpAny_pyIter_items ⟨_, push_at rfl, rfl, rfl⟩ (da.push _) ?_
      have m := (More.refl Z).push { cls := .type "dict_items", data := .fields #[.ref b] }
      have af := (m.push { cls := .type "dict_itemiterator", data := .fields #[.none, .bool false, .ref b, .int 0 0, .int kvs.length 0, .int ep 0, .none, .none] }).aft a2.sm
      exact z _ none (Z.at _) _ _ _ k.1 it_items ⟨⟨_, _, push_at rfl⟩, wa, kvs, (da.push _).push _, RVd_le (af.le) _ _ (RVd_le a2.le _ _ rs), rfl⟩ ((a.trans a2).trans af) fun b e => ⟨fun h => m.no (a2.ex _ (a.ex _ (e ▸ h))), e ▸ (m.push _).pv a2.sm m.no (push_at rfl)⟩
    | _ => exact False.elim k
end
end Mine

namespace Mine
open PySem PySem.W PyProof.Rows PySem.Calls
structure ZS (z TI TO i1 i2 l1 l2 : Addr) (f : PV) (k : Nat) (h : Heap) : Prop where
  hz : IsZip h z TI TO f
  hI : IsPair h TI (.ref i1) (.ref i2)
  hO : ∃ a b, IsPair h TO a b
  h1 : Itr "tuple_iterator" h i1 l1 k
  h2 : Itr "list_iterator" h i2 l2 k
noncomputable def Zf (z TI TO i1 i2 : Addr) (c : Addr) : Prop := c = z ∨ c = TI ∨ c = TO ∨ c = i1 ∨ c = i2
section
variable {prog : Program} {w : World} {A : Around} {E : PV → Shared → Prop} {s : Shared}
theorem nextOf_tp {it t : Addr} {i : Nat} {items : Array PV} {Q : PV → Shared → Prop} (hit : Itr "tuple_iterator" s.heap it t i) (ht : s.heap.IsTuple t items) (hh : A.handled = none)
    (q : ∀ x h', items[i]? = some x → Itr "tuple_iterator" h' it t (i + 1) → Heap.SameBut it s.heap h' → Q x { s with heap := h' })
    (e : ∀ h' x, items[i]? = none → Heap.ExtBut it s.heap h' → (∃ o, h'.get? x = some o ∧ o.cls = .type "StopIteration") → E (.ref x) { s with heap := h' }) :
    wpAny (model prog w) A (Builtin.SmallTypes.nextOf (.ref it)) Q E s := by
  obtain ⟨o, ho, hc, hd⟩ := hit
  obtain ⟨ol, hol, _, nl, hdl⟩ := ht
  unfold Builtin.SmallTypes.nextOf
  refine wpAny_bind (wpAny_callSpecial?_slot (name := Str.ofString "__next__") ⟨o, ho, hc⟩ PySem.F.slot_tuple_iterator_next (wpAny_call_entry PySem.F.slot_tuple_iterator_next ⟨o, ho, hc⟩ PySem.F.entry_tuple_iterator_next ?_ (PySem.F.args_tuple_iterator_next_1 _)))
  refine wpAny_bind (m := field (.ref it) 0) (wpAny_field ho hd (x := .ref t) rfl ?_)
  refine wpAny_bind (m := field (.ref it) 1) (wpAny_field ho hd (x := .int i 0) rfl ?_)
  refine wpAny_bind (m := seqItems? (.ref t)) (wpAny_seqItems hol hdl ?_)
  cases hx : items[i]? with
  | some x =>
    simp only [Int.toNat_natCast, hx]
    refine wpAny_bind (wpAny_setField ho hd (by simp) (wpAny_pure ⟨x, rfl, wpAny_pure (q x _ hx ?_ (Heap.SameBut.update ..))⟩))
    exact ⟨_, Heap.get?_update_self _ ho (Obj.isFreed_of_fields (Obj.data_mapFields hd _)), (Obj.cls_mapFields ..).trans hc, by rw [Obj.data_mapFields hd]; rfl⟩
  | none =>
    simp only [Int.toNat_natCast, hx]
    refine wpAny_bind (wpAny_rule (wpAny_bind (wpAny_setField ho hd (by simp) ?_)))
    refine wpAny_bind (m := newExc (.type "StopIteration") []) ?_
    refine wpAny_bind (m := newTuple []) (wpAny_newObj_type ?_ (by size_fits))
    refine wpAny_bind (m := firstArgMember _ _) (wpAny_of_eq (a := Value.none) (by first | rfl | (simp only [firstArgMember]; rfl)) ?_)
    refine wpAny_newObj_type ?_ (by size_fits)
    unfold raiseNew
    refine wpAny_bind (wpAny_handled ?_)
    rw [show A.in1.handled = none from hh]
    exact wpAny_bind (wpAny_pure (wpAny_throw (e _ _ hx (((Heap.SameBut.update ..).extBut.push _).push _) ⟨_, Heap.get?_push_size _ rfl, rfl⟩)))
theorem Itr.ext {nm : String} {h h' : Heap} {a l : Addr} {i : Nat} (x : Itr nm h a l i) (e : ∀ o, h.get? a = some o → h'.get? a = some o) : Itr nm h' a l i := x.elim fun o q => ⟨o, e o q.1, q.2⟩
theorem zip_tl {z TI TO i1 i2 l1 l2 : Addr} {k : Nat} {xs ys : Array PV} {Q : PV → Shared → Prop} (hh : A.handled = none) (D : ZipApart z TI TO i1 i2 l1 l2) (S : ZS z TI TO i1 i2 l1 l2 .none k s.heap) (t1 : s.heap.IsTuple l1 xs) (t2 : s.heap.IsList l2 ys) (hy : ∀ x, xs[k]? = some x → ∃ y, ys[k]? = some y)
    (q : ∀ x y h', xs[k]? = some x → ys[k]? = some y → ZS z TI TO i1 i2 l1 l2 (rawInt s.heap.objs.size) (k + 1) h' → IsPair h' s.heap.objs.size x y → (∀ c o, s.heap.get? c = some o → ¬ Zf z TI TO i1 i2 c → h'.get? c = some o) → Q (.ref s.heap.objs.size) { s with heap := h' })
    (e : ∀ h' x, xs[k]? = none → (∀ c o, s.heap.get? c = some o → ¬ Zf z TI TO i1 i2 c → h'.get? c = some o) → (∃ o, h'.get? x = some o ∧ o.cls = .type "StopIteration") → E (.ref x) { s with heap := h' }) :
    wpAny (model prog w) A (Builtin.«zip.__next__» ⟨[.ref z], []⟩) (fun fin s' => ∃ v, fin = .done (.ret v) ∧ Q v s') E s := by
  obtain ⟨hz, hI, ⟨a, b, hO⟩, h1, h2⟩ := S
  refine wpAny_bind (m := field (.ref z) 2) (wpAny_field hz rfl (x := .bool false) rfl ?_)
  refine wpAny_bind (m := field (.ref z) 3) (wpAny_field hz rfl (x := .ref TI) rfl ?_)
  refine wpAny_bind (wpAny_seqItems hI rfl ?_)
  refine wpAny_bind (m := Builtin.SmallTypes.ownedTupleIsFree (.ref z)) ?_
  unfold Builtin.SmallTypes.ownedTupleIsFree
  refine wpAny_bind (wpAny_field hz rfl (x := .none) rfl (wpAny_pure ?_))
  refine wpAny_bind (wpAny_rule (wpAny_bind (wpAny_field hz rfl (x := .ref TO) rfl (wpAny_bind (wpAny_setField_rec hz (by decide : 0 < 5) fun ha za sa => ?_)))))
  replace za : IsZip ha z TI TO .ellipsis := za
  refine wpAny_bind ?_
  simp only [List.zipIdx_cons, List.zipIdx_nil, List.forIn_cons, List.forIn_nil]
  refine wpAny_bind (wpAny_bind (wpAny_onRaise ?_))
  have ka : ∀ c o, c ≠ z → s.heap.get? c = some o → ha.get? c = some o := fun c o n e => sa.extBut c o n e
  refine wpAny_bind (m := Builtin.SmallTypes.nextOf (.ref i1)) (nextOf_tp (h1.ext fun o e => ka _ o D.i1z e) (t1.extBut sa.extBut D.l1z) hh (fun x hb hx j1 sb => wpAny_pure ?_) fun hb x hx sb hx' => ?_)
  · have kb : ∀ c o, c ≠ i1 → ha.get? c = some o → hb.get? c = some o := fun c o n e => sb.extBut c o n e
    have Ob : IsPair hb TO a b := kb _ _ D.TOi1 (ka _ _ D.TOz hO)
    refine wpAny_bind (wpAny_seqItems Ob rfl (wpAny_bind (wpAny_updateSeq_pair Ob fun hc Oc sc => ?_)))
    replace Oc : IsPair hc TO x b := Oc
    have kc : ∀ c o, c ≠ TO → hb.get? c = some o → hc.get? c = some o := fun c o n e => sc.extBut c o n e
    refine wpAny_bind (wpAny_letGo (wpAny_pure ?_))
    refine wpAny_bind (wpAny_bind (wpAny_onRaise ?_))
    have l2c : hc.IsList l2 ys := ((t2.extBut sa.extBut D.l2z).extBut sb.extBut D.l2i1).extBut sc.extBut D.l2TO
    obtain ⟨y, hy⟩ := hy x hx
    refine wpAny_bind (m := Builtin.SmallTypes.nextOf (.ref i2)) (wpAny_nextOf_list_item (h2.ext fun o e => kc _ o D.TOi2.symm (kb _ o D.i12.symm (ka _ o D.i2z e))) l2c hy fun hd i2d sd => wpAny_pure ?_)
    have kd : ∀ c o, c ≠ i2 → hc.get? c = some o → hd.get? c = some o := fun c o n e => sd.extBut c o n e
    have Od : IsPair hd TO x b := kd _ _ D.TOi2 Oc
    refine wpAny_bind (wpAny_seqItems Od rfl (wpAny_bind (wpAny_updateSeq_pair Od fun hf Of sf => ?_)))
    replace Of : IsPair hf TO x y := Of
    have kf : ∀ c o, c ≠ TO → hd.get? c = some o → hf.get? c = some o := fun c o n e => sf.extBut c o n e
    refine wpAny_bind (wpAny_letGo (wpAny_pure (wpAny_pure (wpAny_bind (wpAny_seqItems Of rfl (wpAny_bind (wpAny_newTuple ?_)))))))
    have hsz : hf.objs.size = s.heap.objs.size := by rw [sf.1, sd.1, sc.1, sb.1, sa.1]
    have kbf : ∀ c o, c ≠ TO → c ≠ i1 → c ≠ i2 → ha.get? c = some o → hf.get? c = some o := fun c o n1 n2 n3 e => kf c o n1 (kd c o n3 (kc c o n1 (kb c o n2 e)))
    have zf : IsZip hf z TI TO .ellipsis := kbf _ _ D.TOz.symm D.i1z.symm D.i2z.symm za
    refine wpAny_bind (m := Builtin.SmallTypes.ownedTupleHandOut (.ref z) (.ref hf.objs.size)) ?_
    unfold Builtin.SmallTypes.ownedTupleHandOut
    have zg : IsZip (hf.push { cls := .type "tuple", data := .seq #[x, y] }) z TI TO .ellipsis := Heap.get?_push_of_some _ zf
    refine wpAny_bind (wpAny_setField_rec zg (by decide : 0 < 5) fun hg zg' sg => ?_)
    replace zg' : IsZip hg z TI TO (rawInt hf.objs.size) := zg'
    refine wpAny_setField_rec zg' (by decide : 1 < 5) fun hi zi si => ?_
    replace zi : IsZip hi z TI TO (rawInt hf.objs.size) := zi
    have up : ∀ c o, c ≠ z → hf.get? c = some o → hi.get? c = some o := fun c o c1 e => si.extBut _ _ c1 (sg.extBut _ _ c1 (Heap.get?_push_of_some _ e))
    have nz : hf.objs.size ≠ z := Nat.ne_of_gt (Heap.lt_size zf)
    have Tn : IsPair hi hf.objs.size x y := si.extBut _ _ nz (sg.extBut _ _ nz (Heap.get?_push_size _ rfl))
    rw [hsz] at zi Tn
    refine wpAny_pure ⟨_, rfl, ?_⟩
    show Q (.ref hf.objs.size) _
    rw [hsz]
    exact q x y hi hx hy ⟨zi, up _ _ D.TIz (kbf _ _ D.TITO D.TIi1 D.TIi2 (ka _ _ D.TIz hI)), ⟨x, y, up _ _ D.TOz Of⟩, Itr.ext j1 fun o e => up _ o D.i1z (kf _ o D.TOi1.symm (kd _ o D.i12 (kc _ o D.TOi1.symm e))), Itr.ext i2d fun o e => up _ o D.i2z (kf _ o D.TOi2.symm e)⟩ Tn fun c o eo n =>
      have nn : c ≠ z ∧ c ≠ TO ∧ c ≠ i1 ∧ c ≠ i2 := ⟨fun e => n (.inl e), fun e => n (.inr (.inr (.inl e))), fun e => n (.inr (.inr (.inr (.inl e)))), fun e => n (.inr (.inr (.inr (.inr e))))⟩
      up c o nn.1 (kbf c o nn.2.1 nn.2.2.1 nn.2.2.2 (ka c o nn.1 eo))
  · obtain ⟨oe, hoe, hce⟩ := hx'
    have zb : IsZip hb z TI TO .ellipsis := sb _ _ D.i1z.symm za
    have xz : x ≠ z := fun q => by subst q; cases zb.symm.trans hoe; exact absurd (Value.type.inj (show Value.type "zip" = .type "StopIteration" from hce)) (by decide)
    exact wpAny_setField_rec zb (by decide : 0 < 5) fun hf _ sf => e hf x hx (fun c o eo n => sf.extBut _ _ (fun e => n (.inl e)) (sb _ _ (fun e => n (.inr (.inr (.inr (.inl e))))) (ka _ _ (fun e => n (.inl e)) eo))) ⟨oe, sf.extBut _ _ xz hoe, hce⟩
end
end Mine

namespace Mine
open PySem PySem.W PyProof.Rows PySem.Calls
theorem ZS.ext {z TI TO i1 i2 l1 l2 : Addr} {f : PV} {k : Nat} {h h' : Heap} (x : ZS z TI TO i1 i2 l1 l2 f k h) (e : ∀ c, Zf z TI TO i1 i2 c → ∀ o, h.get? c = some o → h'.get? c = some o) : ZS z TI TO i1 i2 l1 l2 f k h' :=
  ⟨e z (.inl rfl) _ x.hz, e TI (.inr (.inl rfl)) _ x.hI, x.hO.elim fun a q => q.elim fun b q => ⟨a, b, e TO (.inr (.inr (.inl rfl))) _ q⟩, x.h1.ext (e i1 (.inr (.inr (.inr (.inl rfl))))), x.h2.ext (e i2 (.inr (.inr (.inr (.inr rfl)))))⟩
theorem ZS.has {z TI TO i1 i2 l1 l2 : Addr} {f : PV} {k : Nat} {h : Heap} (x : ZS z TI TO i1 i2 l1 l2 f k h) {c : Addr} (n : Zf z TI TO i1 i2 c) : ∃ o, h.get? c = some o := by
  rcases n with rfl | rfl | rfl | rfl | rfl
  · exact ⟨_, x.hz⟩
  · exact ⟨_, x.hI⟩
  · exact x.hO.elim fun a q => q.elim fun b q => ⟨_, q⟩
  · exact x.h1.elim fun o q => ⟨o, q.1⟩
  · exact x.h2.elim fun o q => ⟨o, q.1⟩
section
variable {D : Wd} {A : Around} {N : Nx}
theorem zip_at {vs ws : List V} {k : Nat} {d : V} (h : ((vs.zip ws).map fun (x : V × V) => V.tup [x.1, x.2])[k]? = some d) : ∃ a b, vs[k]? = some a ∧ ws[k]? = some b ∧ d = .tup [a, b] := by
  rw [List.getElem?_map] at h
  obtain ⟨⟨a, b⟩, e1, e2⟩ := Option.map_eq_some_iff.mp h
  have e3 := List.getElem?_zip_eq_some.mp e1
  exact ⟨a, b, e3.1, e3.2, e2.symm⟩
theorem it_zip {elts : List PE} {x1 : Nat} {tp : Pos} {z TI TO i1 i2 l1 l2 : Addr} {vs ws : List V} {C1 C2 : Nx → Prop} (hl : ws.length = vs.length) (P : ZipApart z TI TO i1 i2 l1 l2) (c1 : Cn D none vs Heap.IsTuple l1 C1) (c2 : Cn D none ws Heap.IsList l2 C2) :
    ItOk D (.Tuple elts x1 tp) z (Zf z TI TO i1 i2) (fun k N => ZS z TI TO i1 i2 l1 l2 .none k N.s.heap ∧ C1 N ∧ C2 N) ((vs.zip ws).map fun (x : V × V) => V.tup [x.1, x.2]) none := by
  refine ⟨fun k N Y le hk j => ⟨j.1.ext hk, c1.1 N Y le j.2.1, c2.1 N Y le j.2.2⟩, fun A k d N Q E E' hh hv j m pv st q => ?_, fun A N Q E hh j m st q => ?_, fun A k N Q E j q => wpAny_pyIter_zip j.1.hz q⟩
  all_goals
    obtain ⟨xs, t1, r1⟩ := c1.2 N m trivial j.2.1
    obtain ⟨ys, t2, r2⟩ := c2.2 N m trivial j.2.2
    have hT : N.s.TypeIs (.ref z) "zip" := ⟨_, j.1.hz, rfl⟩
    have hy : ∀ {k : Nat} (x : PV), xs[k]? = some x → ∃ y, ys[k]? = some y := fun {k} x h => ⟨ys[k]'(by
      rw [← Array.length_toList, RVs_length r2, hl, ← RVs_length r1, Array.length_toList]; exact (Array.getElem?_eq_some_iff.mp h).1), Array.getElem?_eq_getElem _⟩
    unfold pyNext
  · obtain ⟨d1, d2, e1, e2, rfl⟩ := zip_at hv
    obtain ⟨v1, f1, rv1⟩ := RVs_get r1 e1
    obtain ⟨v2, f2, rv2⟩ := RVs_get r2 e2
    refine wpAny_bind (wpAny_attempt (wpAny_callSpecial?_slot (name := Str.ofString "__next__") hT PySem.F.slot_zip_next (wpAny_call_entry PySem.F.slot_zip_next hT PySem.F.entry_zip_next
      (zip_tl (show A.in1.handled = none from hh) P j.1 t1 t2 hy (fun x y h' hx hy S T kp => wpAny_pure ⟨_, rfl, ?_⟩) fun h' x hend _ _ => nomatch hend.symm.trans (get_arr f1)) (PySem.F.args_zip_next_1 _))))
    cases hx.symm.trans (get_arr f1)
    cases hy.symm.trans (get_arr f2)
    refine wpAny_letOwnedTupleGo_zip S.hz fun h'' h7 sb => ?_
    have hne : N.s.heap.objs.size ≠ z := fun q => no_new (q ▸ has_of j.1.hz)
    have S2 : ZS z TI TO i1 i2 l1 l2 .none (k + 1) h'' := ⟨h7, sb.extBut _ _ P.TIz S.hI, S.hO.elim fun a q => q.elim fun b q => ⟨a, b, sb.extBut _ _ P.TOz q⟩, S.h1.ext fun o e => sb.extBut _ o P.i1z e, S.h2.ext fun o e => sb.extBut _ o P.i2z e⟩
    have a := hand_out (s := { N.s with heap := h'' }) m pv (fun b o eo n => sb.extBut b o (fun e => n (.inl e)) (kp b o eo n)) (fun a f => S2.has f) rfl rfl (sb.extBut _ _ hne T) no_new
    exact q _ _ ⟨S2, c1.1 _ _ a.1.le j.2.1, c2.1 _ _ a.1.le j.2.2⟩ a.1 rfl (a.2 (RV_le a.1.le _ _ rv1) (RV_le a.1.le _ _ rv2))
  · have j1 := j.1
    have z : ((vs.zip ws).map fun (x : V × V) => V.tup [x.1, x.2]).length = vs.length := by rw [List.length_map, List.length_zip, hl, Nat.min_self]
    rw [z] at j1
    refine wpAny_bind (wpAny_attempt (wpAny_callSpecial?_slot (name := Str.ofString "__next__") hT PySem.F.slot_zip_next (wpAny_call_entry PySem.F.slot_zip_next hT PySem.F.entry_zip_next
      (zip_tl (show A.in1.handled = none from hh) P j1 t1 t2 hy (fun x y h' hx _ _ _ _ => nomatch (arr_stop r1).symm.trans hx) fun h' x _ kp hx' => ?_) (PySem.F.args_zip_next_1 _))))
    obtain ⟨o, ho, hc⟩ := hx'
    exact wpAny_bind (wpAny_isInstance (T := "StopIteration") (b := true) ⟨o, ho, hc⟩ isSubtype_stop (wpAny_pure ⟨rfl, q _ kp rfl rfl⟩))
end
theorem meets_zip_tl (l1 l2 : Addr) (xs ys : Array Value) :
    Meets (Builtin.«zip.__new__» ⟨[.type "zip", .ref l1, .ref l2], []⟩) (fun _ R s => s.heap.IsTuple l1 xs ∧ s.heap.IsList l2 ys ∧
      ∀ h', (∀ c o, s.heap.get? c = some o → h'.get? c = some o) → ZS (s.heap.objs.size + 4) (s.heap.objs.size + 2) (s.heap.objs.size + 3) s.heap.objs.size (s.heap.objs.size + 1) l1 l2 .none 0 h' → R (.ok (.ret (.ref (s.heap.objs.size + 4)))) { s with heap := h' }) :=
  .of_wp fun prog w A R s h => by
    obtain ⟨hp, g, d, tk, os⟩ := s; obtain ⟨hl1, hl2, h⟩ := h
    have hsub := sub_zip
    have hL1 : Heap.IsTuple (Shared.heap ⟨hp, g, d, tk, os⟩) l1 xs := hl1
    have hL2 : Heap.IsList (Shared.heap ⟨hp.push { cls := .type "tuple_iterator", data := .fields #[.ref l1, .int 0 0] }, g, d, tk, os⟩) l2 ys := Heap.IsList.push hl2 _
    wp_walk using wpAny_pyIter_tuple hL1, wpAny_pyIter_list hL2
    refine ⟨_, rfl, ?_⟩
    simp only [Heap.size_push] at h ⊢
    have at_ : ∀ (h : Heap) (o : Obj) (n : Nat), o.isFreed = false → h.objs.size = n → (h.push o).get? n = some o := fun h o n hf e => by subst e; exact Heap.get?_push_size _ hf
    have up : ∀ {h : Heap} {a : Addr} {o o' : Obj}, h.get? a = some o → (h.push o').get? a = some o := fun e => Heap.get?_push_of_some _ e
    have sz : ∀ {h : Heap} {o : Obj} {n : Nat}, h.objs.size = n → (h.push o).objs.size = n + 1 := fun e => (Heap.size_push ..).trans (congrArg (· + 1) e)
    exact h _ (fun c o x => up (up (up (up (up x))))) ⟨at_ _ _ _ rfl (sz (sz (sz (sz rfl)))), up (up (at_ _ _ _ rfl (sz (sz rfl)))), ⟨_, _, up (at_ _ _ _ rfl (sz (sz (sz rfl))))⟩, ⟨_, up (up (up (up (Heap.get?_push_size _ rfl)))), rfl, rfl⟩, ⟨_, up (up (up (at_ _ _ _ rfl (sz rfl)))), rfl, rfl⟩⟩
noncomputable def ltwo (l : List V) (p : V → V → Prop) : Prop := match l with
  | [v, w] => p v w
  | _ => False
section
variable {B : Bd} {u : Nat} {c : Ck} {g : Gt}
theorem tsr_zip {elts : List PE} {x1 : Nat} {tp : Pos} {y y2 : X} {e f : PE} {x : Str} {np pos : Pos} (F : Facts B g) (BB : BiOk B.D c x (.type "zip")) (hs : isStarred e = false) (hs' : isStarred f = false) (h : TEs B u c [y, y2] (fun env => spliced (backTo pos (starEach [e, f] env)))) :
    TSr B u c (.Tuple elts x1 tp) (.zip y y2) (.Call (.Name x np) [e, f] [] pos) := fun G N Q E K H q z =>
  call_name (K := fun l σ => ltwo l fun v w => oK (asListT v) fun l => oK (asListL w) fun l' => bK (decide (l'.length = l.length)) (K (((l.zip l').map fun (x : V × V) => V.tup [x.1, x.2]), none) σ)) F BB rfl (by rw [List.all_cons, List.all_cons, hs, hs']; rfl) h H q fun ds Y vs k a r => by
    match ds, k, r with
    | [d, d2], k, ⟨v, _, e1, rv, w, _, e2, rw, e3⟩ =>
      subst e3 e2 e1
      cases d with
      | tup l => cases d2 with
        | list l' =>
          obtain ⟨hl, k⟩ := bK_of k
          obtain ⟨b, arr, rfl, wa, t, rs⟩ := rv
          obtain ⟨b', arr', rfl, wa', t', rs'⟩ := rw
          refine callType_new PySem.F.called_zip (by decide) (PySem.F.typeCall_zip_2 _ _) (PySem.F.newCall_zip_2 _ _) (fun obj => PySem.F.args_object_init_3 obj _ _) PySem.F.entry_zip_new (meets_zip_tl b b' arr arr') ⟨t.tup, t'.list, fun h' kp S => ⟨⟨_, S.hz, rfl⟩, wpAny_pyIter_zip S.hz ?_⟩⟩
          have m : More Y { Y.s with heap := h' } := ⟨kp, rfl, rfl⟩
          have n1 : ∀ k, Y.s.heap.objs.size ≤ k → ¬ Y.has k := fun k hk h => absurd (has_lt h) (Nat.not_lt.mpr hk)
          have lb : b < Y.s.heap.objs.size := t.elim fun k e => Heap.lt_size e
          have lb' : b' < Y.s.heap.objs.size := t'.elim fun k e => Heap.lt_size e
          have af := m.aft a.sm
          revert S n1 lb lb'
          generalize Y.s.heap.objs.size = n
          intro S n1 lb lb'
          have ne : ∀ {a b : Nat}, a ≠ b → n + a ≠ n + b := fun h e => h (Nat.add_left_cancel e)
          have lt : ∀ {b} (a : Nat), b < n → b ≠ n + a := fun a h => Nat.ne_of_lt (Nat.lt_of_lt_of_le h (Nat.le_add_right n a))
          exact z _ none (Y.at _) _ _ _ k (it_zip (of_decide_eq_true hl) ⟨ne (by decide), ne (by decide), ne (a := 0) (by decide), ne (by decide), ne (by decide), ne (b := 0) (by decide), ne (by decide), ne (b := 0) (by decide), ne (by decide), ne (a := 0) (by decide), lt 4 lb, lt 3 lb, lt 0 lb, lt 1 lb, lt 4 lb', lt 3 lb', lt 0 lb', lt 1 lb'⟩ cn_tp cn_ls)
            ⟨S, cn_tp.1 _ _ af.le ⟨wa, arr, t, rs⟩, cn_ls.1 _ _ af.le ⟨wa', arr', t', rs'⟩⟩ (a.trans af) fun c f =>
              have nc : ¬ Y.has c := by rcases f with rfl | rfl | rfl | rfl | rfl <;> first | exact n1 _ (Nat.le_refl _) | exact n1 _ (Nat.le_add_right _ _)
              ⟨fun h => nc (a.ex _ h), (S.has f).elim fun o e => m.pv a.sm nc e⟩
        | _ => exact False.elim k
      | _ => exact False.elim k
end
end Mine

namespace Mine
open PySem PySem.W PyProof.Rows PySem.Calls
section
variable {B : Bd} {u : Nat} {oc : Bool} {c : Ck} {G : Ev} {N Y Z : Nx} {g : Option Nat} {P : Addr → Prop}
noncomputable def Own (env : PEnv) (a : Addr) : Prop := a = env.locals ∨ ∃ q ∈ env.cells, q.2 = a
theorem own_has (h : Eo c G.env N) {a : Addr} (o : Own G.env a) : N.has a ∧ ¬ chg N.μ a := o.elim (fun e => e ▸ h.loc) fun ⟨q, m, e⟩ => e ▸ h.cells q m
theorem Fr.own {b : Addr} (f : Fr oc c G.env b) : Own G.env b := f.imp id fun ⟨_, x, _, e⟩ => ⟨(x, b), mem_of_lookup e, rfl⟩
theorem Gs.by (H : Gs B u oc c G Z) (sm : Sm B.D Y) (le : Le Z Y) (hk : ∀ a, Own G.env a → ∀ o, Z.s.heap.get? a = some o → Y.s.heap.get? a = some o) (hc : ∀ a, Z.has a → ¬ chg Z.μ a → ¬ chg Y.μ a) (hp : ∀ b, Fr oc c G.env b → Pv Y b) : Gs B u oc c G Y :=
  have eo := H.go.eo
  have ho : ∀ a, Own G.env a → Y.has a ∧ ¬ chg Y.μ a := fun a o => have w := own_has eo o
    ⟨(Option.isSome_iff_exists.mp w.1).elim fun b e => has_of (hk a o b e), hc a w.1 w.2⟩
  ⟨⟨H.go.rm, ⟨eo.sc, eo.kind, eo.gl, eo.bi, ho _ (.inl rfl), fun q hq => ho _ (.inr ⟨q, hq, rfl⟩), eo.fr, eo.cx⟩, fun x i d h1 h2 h3 => (H.go.fe x i d h1 h2 h3).elim fun w q => ⟨w, q.1.keep (fun o e => hk _ (.inl rfl) o e) fun b o e1 e2 => hk b (.inr ⟨(x, b), mem_of_lookup e1, rfl⟩) o e2, RV_le le d w q.2⟩, sm⟩,
    hp, H.ns.elim fun m n => ⟨m, n.at fun o e => hk _ (.inl rfl) o e⟩, fun w x h => (H.cl w x h).elim fun b q => q.elim fun v q => ⟨b, v, q.1, q.2.elim fun o r => ⟨o, hk _ (.inr ⟨(x, b), mem_of_lookup q.1, rfl⟩) o r.1, r.2⟩⟩, H.ap⟩
theorem Gs.item (H : Gs B u oc c G Z) (a : Aft B.D Z P Y) (n : ∀ b, Own G.env b → ¬ P b) : Gs B u oc c G Y :=
  H.by a.sm a.le (fun b o x e => a.kp b x e (own_has H.go.eo o).2 (n b o)) (fun b => a.chg) fun b f => (H.pv b f).go a
theorem Gs.spoil {s : Shared} (H : Gs B u oc c G Z) (p : ∀ b, P b → Pv Z b) (k : ∀ b o, Z.s.heap.get? b = some o → ¬ P b → s.heap.get? b = some o) (n : ∀ b, Own G.env b → ¬ P b) : Gs B u oc c G (Z.at s) :=
  have w := H.go.sm.turn (F := P) p k
  H.by w.2 w.1 (fun b o x e => k b x e (n b o)) (fun b _ h => h) fun b f => ⟨has_kept k (H.pv b f).lt (n b f.own), (H.pv b f).nw, (H.pv b f).nm⟩
theorem drop_end {α : Type} {l : List α} {k : Nat} (h : k ≤ l.length) (e : l.drop k = []) : k = l.length := Nat.le_antisymm h (List.drop_eq_nil_iff.mp e)
theorem drop_get {α : Type} {l r : List α} {d : Nat} {a : α} (h : l.drop d = a :: r) : l[d]? = some a ∧ l.drop (d + 1) = r :=
  ⟨by rw [← Nat.add_zero d, ← List.getElem?_drop, h]; rfl, by rw [← List.drop_drop, h]; rfl⟩
theorem ts_for {tg : Tg} {src : Src} {body : List S} {target iter : PE} {bodyE : List Stmt} {pos : Pos} (hs : TSr B u c target src iter) (hf : ∀ env x, foldedSetIterable iter env x = pure x) (hB : TgOk true c tg target) (hb : TSs B u c body (fun env => execs bodyE env)) :
    TS B u c (.for_ tg src body) (fun env => exec (.For target iter bodyE [] pos) env) := fun G N Q E K H q z =>
  wpAny_For (hs := hf G.env) (hs G N _ E _ H.go q fun vs g Y I fp J k0 io j0 a0 nf =>
    have np : ∀ b, Own G.env b → ¬ fp b := fun b o f => (nf b f).1 (own_has H.go.eo o).1
    codeAny_forLoop_any (fun j s2 => ∃ k ρ Z, s2 = Z.s ∧ j = vs.length - k ∧ k ≤ vs.length ∧ kLoopS (stillB g vs) (fun v ρ => bindTg ρ tg v) (fun ρ σ k => kSs B.P B.T body ρ σ k) (vs.drop k) ρ Z.σ K ∧ J k Z ∧ Aft B.D N (Fr true c G.env) Z ∧ Gs B u true c (G.to ρ) Z ∧ ∀ b, fp b → Pv Z b) (fun j s2 h => by
      obtain ⟨k, ρ, Z, rfl, rfl, hk, q, jz, a, HZ, pv⟩ := h
      cases hd : vs.drop k with
      | nil =>
        rw [hd] at q
        have q := stB_of q
        rw [drop_end hk hd] at jz
        exact wpAny_mono (io.stop G.A Z (fun s₁ => Q .next s₁) _ H.go.rm.hand jz HZ.go.sm q.1 fun s₁ kp g os => z.1 ρ (Z.at s₁) q.2 (a.lose (fun b f => (nf b f).1) pv kp g os) (HZ.spoil pv kp np)) (fun r s₁ h => h.1 ▸ wpAny_execs_nil h.2) fun _ _ h => h
      | cons d rest =>
        rw [hd] at q
        have q := stB_of q
        have w := drop_get hd
        have hlt := (List.getElem?_eq_some_iff.mp w.1).1
        refine wpAny_mono (io.item G.A k d Z (fun v s₂ => wpAny (model B.D.prog B.D.w) G.A (assign target G.env v) _ _ s₂) _ _ H.go.rm.hand w.1 jz HZ.go.sm pv q.1 fun v Y1 j1 a1 e1 rv => ?_) (fun r s₁ h => h.elim fun v h => h.1 ▸ h.2) fun _ _ h => h
        refine bind_for (G := G.to ρ) hB (HZ.item a1 np) q.2 rv fun ρ' Y2 k2 e2 a2 H2 => ?_
        rw [← e1, ← e2] at k2
        refine hb (G.to ρ') Y2 _ _ _ H2 k2 ⟨fun ρ3 Y3 k3 a3 H3 => ?_, fun d Y3 v k3 a3 rv => z.2 d Y3 v k3 (((a.then a1 fun b f => (nf b f).1).trans a2).trans a3) rv⟩
        have a23 := a2.trans a3
        have pv1 : ∀ b, fp b → Pv Y1 b := fun b f => (pv b f).go a1
        exact ⟨vs.length - (k + 1), Nat.sub_lt_sub_left hlt (Nat.lt_succ_self k), k + 1, ρ3, Y3, rfl, rfl, hlt, by rw [w.2]; exact k3, io.jm (k + 1) Y1 Y3 a23.le (fun b f o e => a23.kp b o e (pv1 b f).nc fun r => np b r.own f) j1, (a.then a1 fun b f => (nf b f).1).trans a23, H3, fun b f => (pv1 b f).go a23⟩) _
      ⟨0, G.ρ, Y, rfl, rfl, Nat.zero_le _, by rw [List.drop_zero]; exact k0, j0, a0.up, H.to a0, fun b f => (nf b f).2⟩)
end
end Mine

namespace Mine
open PySem PySem.W PyProof.Rows PySem.Calls
noncomputable abbrev PComp := PySem.Comprehension
noncomputable def relS (sc o : Scope) : Scope := { sc with names := sc.names.map fun (n, k) => if (k == .free && o.kind == .function && o.names.lookup n == some .cell) then (n, .cell) else (n, k) }
noncomputable def relK (o : Scope) (x : Str) (k : NameKind) : NameKind := if (k == .free && o.kind == .function && o.names.lookup x == some .cell) = true then .cell else k
theorem relS_find {o sc : Scope} {x : Str} : (relS sc o).names.lookup x = (sc.names.lookup x).map (relK o x) := by
  show List.lookup x (sc.names.map _) = _
  induction sc.names with
  | nil => rfl
  | cons p l ih =>
    obtain ⟨n, j⟩ := p
    show List.lookup x ((if (j == NameKind.free && o.kind == .function && o.names.lookup n == some .cell) = true then (n, NameKind.cell) else (n, j)) :: _) = _
    rw [show (if (j == NameKind.free && o.kind == .function && o.names.lookup n == some .cell) = true then (n, NameKind.cell) else (n, j)) = (n, relK o n j) by unfold relK; split <;> rfl, List.lookup_cons, List.lookup_cons]
    cases h : x == n with
    | true => rw [eq_of_beq h]; rfl
    | false => exact ih
theorem relK_free {o : Scope} {x : Str} {k : NameKind} (h : k = .free) : relK o x k = .cell ∨ relK o x k = .free := by
  unfold relK; split
  · exact .inl rfl
  · exact .inr h
theorem relK_of {o : Scope} {x : Str} {k : NameKind} (h : relK o x k = .cell ∨ relK o x k = .free) : k = .cell ∨ k = .free := by
  unfold relK at h; split at h
  · rename_i e; exact .inr (eq_of_beq (and_l (and_l e)))
  · exact h
noncomputable def closOf (cells : List (Str × Addr)) : List (Str × NameKind) → List (Str × Addr) → List (Str × Addr)
  | [], cs => cs
  | (x, k) :: r, cs => closOf cells r (if (k == .free) = true then (x, (cells.lookup x).getD 0) :: cs else cs)
theorem clos_go {env : PEnv} : ∀ (l : List (Str × NameKind)) (cs : List (Str × Addr)), (∀ p ∈ l, p.2 = .free → (env.cells.lookup p.1).isSome = true) →
    (forIn l cs fun (x : Str × NameKind) (r : List (Str × Addr)) => if (x.2 == .free) = true then (do let c ← cellOf env x.1; pure (ForInStep.yield ((x.1, c) :: r)) : Sem (ForInStep (List (Str × Addr)))) else pure (ForInStep.yield r)) = pure (closOf env.cells l cs)
  | [], cs, _ => rfl
  | (x, k) :: l, cs, hl => by
    rw [List.forIn_cons]
    unfold closOf
    by_cases hk : (k == .free) = true
    · obtain ⟨c, hc⟩ := Option.isSome_iff_exists.mp (hl (x, k) (List.mem_cons_self ..) (eq_of_beq hk))
      rw [if_pos hk, show cellOf env x = pure c by unfold cellOf; rw [hc], if_pos hk, hc, pure_bind, pure_bind]
      exact clos_go l _ fun q hq => hl q (List.mem_cons_of_mem _ hq)
    · rw [if_neg hk, if_neg hk, pure_bind]
      exact clos_go l _ fun q hq => hl q (List.mem_cons_of_mem _ hq)
theorem clos_eq {sc : Scope} {env : PEnv} (h : ∀ p ∈ sc.names, p.2 = .free → (env.cells.lookup p.1).isSome = true) : closureFor sc env = pure (closOf env.cells sc.names []) := by
  unfold closureFor
  exact (congrArg (· >>= pure) (clos_go sc.names [] h)).trans (pure_bind _ _)
theorem clos_keep {cells : List (Str × Addr)} {x : Str} : ∀ (l : List (Str × NameKind)) (cs : List (Str × Addr)), cs.lookup x = some ((cells.lookup x).getD 0) → (closOf cells l cs).lookup x = some ((cells.lookup x).getD 0)
  | [], cs, h => h
  | (y, k) :: l, cs, h => clos_keep l _ (by
    split
    · rw [List.lookup_cons]
      cases e : x == y with
      | true => rw [eq_of_beq e]
      | false => exact h
    · exact h)
theorem clos_lookup {cells : List (Str × Addr)} {x : Str} : ∀ (l : List (Str × NameKind)) (cs : List (Str × Addr)), (x, .free) ∈ l → (closOf cells l cs).lookup x = some ((cells.lookup x).getD 0)
  | (y, k) :: l, cs, h => (List.mem_cons.mp h).elim (fun h => by cases h; exact clos_keep l _ (by rw [if_pos (by rfl), List.lookup_cons, BEq.rfl])) fun h => clos_lookup l _ h
theorem clos_mem {cells : List (Str × Addr)} {q : Str × Addr} : ∀ (l : List (Str × NameKind)) (cs : List (Str × Addr)), q ∈ closOf cells l cs → q ∈ cs ∨ ((q.1, .free) ∈ l ∧ q.2 = (cells.lookup q.1).getD 0)
  | [], cs, h => .inl h
  | (y, k) :: l, cs, h => (clos_mem l _ h).elim (fun h => by
    split at h
    · rename_i hk
      exact (List.mem_cons.mp h).elim (fun e => .inr (by rw [e, ← eq_of_beq hk]; exact ⟨List.mem_cons_self .., rfl⟩)) .inl
    · exact .inl h) fun h => .inr ⟨List.mem_cons_of_mem _ h.1, h.2⟩
structure CpOk (c : Ck) (sc : Scope) (nm : List (Str × Nat)) (slots : List Nat) : Prop where
  kind : sc.kind = .function
  okl : ∀ x ∈ sc.names, x.2 = .local → sc.names.lookup x.1 = some .local
  ncl : ∀ x ∈ sc.names, x.2 ≠ .cell
  fre : ∀ x ∈ sc.names, x.2 = .free → c.sc.names.lookup x.1 = some .cell ∨ c.sc.names.lookup x.1 = some .free
  nm : ∀ x i, nm.lookup x = some i → i ∈ slots ∨ (c.names.lookup x = some i ∧ sc.names.lookup x = some .free)
noncomputable def ifsT (ifs : List PE) (env : PEnv) : Sem Bool := forIn ifs true fun c r => if r = true then do let ok ← isTrue c env (eval c env); pure (ForInStep.yield ok) else pure (ForInStep.yield r)
noncomputable def bodyOf (elt : PE) (gens : List PComp) (d : Nat) (sc : Scope) (pos : Pos) (it acc : PV) (env : PEnv) : Sem Fin := match gens[d + 1]? with
  | none => (eval elt env >>= fun x => call (.builtin "list.append") [acc, x] >>= fun _ => pure ()) >>= fun _ => again (.compLoop (.ListComp elt gens sc pos) d it acc env)
  | some g => eval g.iter env >>= fun x => standAt g.iter.pos >>= fun _ => if (g.is_async != 0) = true then (foldedIterable g.iter x >>= fun x => holding [x] (if (g.is_async != 0) = true then asyncIter x else pyIter x) >>= fun i => runOwn (.compStart (.ListComp elt gens sc pos) (d + 1) i acc env) env >>= fun _ => again (.compLoop (.ListComp elt gens sc pos) d it acc env))
    else (foldedSetIterable g.iter env x >>= fun x => holding [x] (if (g.is_async != 0) = true then asyncIter x else pyIter x) >>= fun i => runOwn (.compStart (.ListComp elt gens sc pos) (d + 1) i acc env) env >>= fun _ => again (.compLoop (.ListComp elt gens sc pos) d it acc env))
theorem turn_eq {elt : PE} {gens : List PComp} {sc : Scope} {pos : Pos} {d : Nat} {target iter : PE} {ifs : List PE} (hg : gens[d]? = some ⟨target, iter, ifs, 0⟩) (it acc : PV) (env : PEnv) :
    compTurn (.ListComp elt gens sc pos) d it acc env = (standAt iter.pos >>= fun _ => pyNext it >>= fun r => match r with
      | none => pure (.done .next)
      | some v => letOwnedTupleGo target it v >>= fun _ => assign target env v >>= fun _ => ifsT ifs env >>= fun ok =>
          (if ok = true then bodyOf elt gens d sc pos it acc env else again (.compLoop (.ListComp elt gens sc pos) d it acc env))) := by
  unfold compTurn bodyOf
  dsimp only
  rw [hg]
  cases gens[d + 1]? <;> rfl
section
variable {prog : Program} {w : World} {A : Around} {E : PV → Shared → Prop} {R : Result → Shared → Prop} {s : Shared} {elt : PE} {gens : List PComp} {sc : Scope} {pos : Pos} {d : Nat} {it acc : PV} {env : PEnv}
theorem loop_any {target iter : PE} {ifs : List PE} (hg : gens[d]? = some ⟨target, iter, ifs, 0⟩) (I : Nat → Shared → Prop)
    (turn : ∀ n s (E : PV → Shared → Prop), I n s → wpAny (model prog w) A (pyNext it) (fun r s₁ => match r with
      | none => R (.ok .next) s₁
      | some v => wpAny (model prog w) A (letOwnedTupleGo target it v) (fun _ s₁ => wpAny (model prog w) A (assign target env v) (fun _ s₂ => wpAny (model prog w) A (ifsT ifs env) (fun ok s₃ =>
            if ok = true then wpAny (model prog w) A (bodyOf elt gens d sc pos it acc env) (fun f s₄ => f = .again (.compLoop (.ListComp elt gens sc pos) d it acc env) ∧ ∃ m, m < n ∧ I m s₄) E s₃ else ∃ m, m < n ∧ I m s₃) E s₂) E s₁) E s₁) E s)
    (n : Nat) (h : I n s) : codeAny (model prog w) A (.compLoop (.ListComp elt gens sc pos) d it acc env) R s := by
  refine codeAny_loop rfl I (fun n s hI => ?_) n h
  show wpAny _ A ((compTurn (.ListComp elt gens sc pos) d it acc env).onRaise (fun x => do noteFrame x env; theTreesLotGoes x)) _ _ s
  refine wpAny_noted ?_
  rw [turn_eq hg]
  refine wpAny_bind (wpAny_standAt (wpAny_bind (wpAny_mono (turn n s _ hI) (fun r s₁ h₁ => ?_) fun _ _ h' => h')))
  cases r with
  | none => exact wpAny_pure h₁
  | some v =>
    refine wpAny_bind (wpAny_mono h₁ (fun _ s₁ h₁ => wpAny_bind (wpAny_mono h₁ (fun _ s₂ h₂ => wpAny_bind (wpAny_mono h₂ (fun ok s₃ h₃ => ?_) fun _ _ h' => h')) fun _ _ h' => h')) fun _ _ h' => h')
    cases ok with
    | false => exact wpAny_pure ⟨rfl, h₃⟩
    | true => exact wpAny_mono h₃ (fun f s₄ h₄ => by cases h₄.1; exact ⟨rfl, h₄.2⟩) fun _ _ h' => h'
theorem start_at {g : PComp} (hg : gens[d]? = some g) (ha : g.is_async = 0) (h0 : codeAny (model prog w) A (.compLoop (.ListComp elt gens sc pos) d it acc env) R s)
    (h : ∀ E, wpAny (model prog w) A (pyIter it) (fun it' s' => codeAny (model prog w) A (.compLoop (.ListComp elt gens sc pos) d it' acc env) R s') E s) :
    codeAny (model prog w) A (.compStart (.ListComp elt gens sc pos) d it acc env) R s := by
  refine codeAny_of_tree ?_
  show wpAny _ _ ((compStart (.ListComp elt gens sc pos) d it acc env).onRaise (fun x => do noteFrame x env; standAt theWindowsPlace)) _ _ s
  refine wpAny_notedAt ?_
  have hc : (clausesOf (.ListComp elt gens sc pos))[d]? = some g := hg
  unfold compStart
  simp only [hc, Option.elim, ha, bne_self_eq_false, Bool.false_eq_true, if_false]
  refine wpAny_bind (wpAny_askSetting (wpAny_ite ?_))
  split
  · first
      | exact wpAny_bind (wpAny_pure (wpAny_pure (And.intro rfl h0)))
      | exact wpAny_pure (And.intro rfl h0)
      | exact wpAny_bind (wpAny_bind (wpAny_pure (wpAny_pure (And.intro rfl h0))))
  · first
      | exact wpAny_bind (wpAny_rule (wpAny_bind (wpAny_standAt (wpAny_bind (wpAny_mono (h _) (fun it' s' h' => wpAny_pure (And.intro rfl h')) fun _ _ x => x)))))
      | (refine wpAny_bind (wpAny_rule ?_); exact wpAny_bind (wpAny_standAt (wpAny_bind (wpAny_mono (h _) (fun it' s' h' => wpAny_pure (And.intro rfl h')) fun _ _ x => x))))
end
end Mine

namespace Mine
open PySem PySem.W PyProof.Rows PySem.Calls
structure Cs (B : Bd) (u : Nat) (c : Ck) (G : Ev) (b : Addr) (N : Nx) (ds : List V) : Prop where
  gs : Gs B u false c G N
  pv : Pv N b
  nb : ¬ Own G.env b
  rc : RC B.D N b (.list ds)
noncomputable def Ac (c : Ck) (G : Ev) (b : Addr) (a : Addr) : Prop := Fr false c G.env a ∨ a = b
noncomputable def Clr (l : List Nat) (ρ : REnv) : Prop := ∀ i ∈ l, ∀ d : V, ρ[i]? ≠ some (some d)
noncomputable def BdOk (B : Bd) (u : Nat) (c : Ck) (r : C) (elt : PE) (rest : List PComp) : Prop :=
  ∀ (gens : List PComp) (d : Nat) (sc : Scope) (pos : Pos) (it : PV) (b : Addr) (G : Ev) (N : Nx) (ds : List V) (Q : Fin → Shared → Prop) (E : PV → Shared → Prop) (K : List V → St → Prop),
    gens.drop (d + 1) = rest → Cs B u c G b N ds → Clr r.slots G.ρ → kC B.P B.T r ds G.ρ N.σ K →
    (∀ l Y, K l Y.σ → Aft B.D N (Ac c G b) Y → Cs B u c G b Y l → Q (.again (.compLoop (.ListComp elt gens sc pos) d it (.ref b) G.env)) Y.s) → Wp B G N (bodyOf elt gens d sc pos it (.ref b) G.env) Q E
noncomputable def LoopSt (B : Bd) (u : Nat) (c : Ck) (tg : Tg) (ifs : List X) (r : C) (target elt : PE) (ifsE : List PE) (rest : List PComp) : Prop :=
  ∀ (gens : List PComp) (d : Nat) (iter : PE) (sc : Scope) (pos : Pos) (G : Ev) (N0 N : Nx) (b : Addr) (ds : List V) (I : Addr) (fp : Addr → Prop) (J : Nat → Nx → Prop) (vs : List V) (g : Option Nat) (K : List V → St → Prop) (R : Result → Shared → Prop),
    gens[d]? = some ⟨target, iter, ifsE, 0⟩ → gens.drop (d + 1) = rest → kLoopC0 (stillB g vs) (bindTg G.ρ tg) (fun ρ σ k => kIfs B.P B.T ifs ρ σ k) (fun ds ρ σ k => kC B.P B.T r ds ρ σ k) vs ds N.σ K →
    ItOk B.D target I fp J vs g → J 0 N → Aft B.D N0 (Ac c G b) N → (∀ a, fp a → ¬ N0.has a ∧ Pv N a ∧ ¬ Own G.env a ∧ a ≠ b) → Cs B u c G b N ds → Clr (tg.slots ++ r.slots) G.ρ →
    (∀ l Z, K l Z.σ → Aft B.D N0 (Ac c G b) Z → Cs B u c G b Z l → R (.ok .next) Z.s) → codeAny (model B.D.prog B.D.w) G.A (.compLoop (.ListComp elt gens sc pos) d (.ref I) (.ref b) G.env) R N.s
section
variable {B : Bd} {u : Nat} {oc : Bool} {c : Ck} {G : Ev} {N Y Z : Nx} {g : Option Nat} {P : Addr → Prop} {b : Addr} {ds : List V} {ρ : REnv}
theorem Cs.on (x : Cs B u c G b Z ds) (H : Gs B u false c (G.to ρ) Y) (a : Aft B.D Z P Y) (n : ¬ P b) : Cs B u c (G.to ρ) b Y ds := ⟨H, x.pv.go a, x.nb, RC_le a.le (fun o e => a.kp b o e x.pv.nc n) x.rc⟩
theorem Cs.to (x : Cs B u c G b Z ds) (a : Aft B.D Z noA Y) : Cs B u c G b Y ds := x.on (ρ := G.ρ) (x.gs.to a) a id
theorem Gs.less (H : Gs B u oc c (G.to ρ) Y) (h : ∀ (j : Nat) (d : V), G.ρ[j]? = some (some d) → ρ[j]? = some (some d)) : Gs B u oc c G Y := ⟨⟨H.go.rm, H.go.eo, fun x i d h1 h2 h3 => H.go.fe x i d h1 h2 (h i d h3), H.go.sm⟩, H.pv, H.ns, H.cl, H.ap⟩
theorem Ac.nb {a : Addr} (h : Ac c G b a) (n : ¬ Own G.env a ∧ a ≠ b) : False := h.elim (fun f => n.1 f.own) n.2
theorem ifs_no {ts : List PE} {env : PEnv} {A : Around} {s : Shared} {Q : Bool → Shared → Prop} {E : PV → Shared → Prop} (h : Q false s) : wpAny (model B.D.prog B.D.w) A (forIn ts false fun c r => if r = true then do let ok ← isTrue c env (eval c env); pure (ForInStep.yield ok) else pure (ForInStep.yield r)) Q E s := by
  induction ts with
  | nil => exact wpAny_pure h
  | cons e es ih =>
    rw [List.forIn_cons]
    exact wpAny_bind (wpAny_pure ih)
theorem ifs_ok {xs : List X} {ts : List PE} (h : All2 (fun x t => TB B u c x (fun env => isTrue t env (eval t env))) xs ts) : ∀ (G : Ev) (N : Nx) (Q : Bool → Shared → Prop) (E : PV → Shared → Prop) (K : Bool → St → Prop), Go B u c G N → kIfs B.P B.T xs G.ρ N.σ K →
    (∀ b Y, K b Y.σ → Aft B.D N noA Y → Q b Y.s) → Wp B G N (ifsT ts G.env) Q E := by
  induction h with
  | nil => exact fun G N Q E K H q z => wpAny_pure (z true N q H.refl)
  | cons h1 _ ih =>
      intro G N Q E K H q z
      unfold Wp ifsT
      rw [List.forIn_cons]
      exact wpAny_bind (wpAny_bind (h1 G N _ E _ H q fun b Y k a => wpAny_pure (match b, k with
        | true, k => ih G Y Q E K (H.to a) k fun b2 Z k2 a2 => z b2 Z k2 (a.trans a2)
        | false, k => ifs_no (z false Y k a))))
theorem setMany_get : ∀ {is : List Nat} {vs : List V} {ρ : REnv} {j : Nat}, j ∉ is → (setMany is vs ρ)[j]? = ρ[j]?
  | [], _, _, _, _ => rfl
  | _ :: _, [], _, _, _ => rfl
  | i :: is, v :: vs, ρ, j, h => (setMany_get (is := is) fun m => h (List.mem_cons_of_mem _ m)).trans (List.getElem?_set_ne fun e => h (by rw [e]; exact List.mem_cons_self ..))
theorem bindTg_get {tg : Tg} {v : V} {ρ' : REnv} {j : Nat} (h : bindTg ρ tg v = some ρ') (n : j ∉ tg.slots) : ρ'[j]? = ρ[j]? := by
  cases tg with
  | one i => cases h; exact List.getElem?_set_ne fun e => n (by rw [e]; exact List.mem_cons_self ..)
  | many is => cases v with
    | tup l =>
      have h : (if is.length = l.length then some (setMany is l ρ) else none) = some ρ' := h
      by_cases e : is.length = l.length
      · rw [if_pos e] at h; cases h; exact setMany_get n
      · rw [if_neg e] at h; cases h
    | _ => cases h
theorem oK_eq {α : Type} {o : Option α} {K : α → Prop} (h : oK o K) : oK o fun a => o = some a ∧ K a := by cases o <;> first | exact h | exact ⟨rfl, h⟩
theorem kLoopC_unf {st : St → Bool} {bnd : V → Option REnv} {ifs : REnv → St → (Bool → St → Prop) → Prop} {body : List V → REnv → St → (List V → St → Prop) → Prop} {l ds : List V} {σ : St} {k : List V → St → Prop} (h : kLoopC st bnd ifs body l ds σ k) : kLoopC0 st bnd ifs body l ds σ k := by
  unfold kLoopC at h; exact h
theorem loop_ok {tg : Tg} {ifs : List X} {r : C} {target elt : PE} {ifsE : List PE} {rest : List PComp} (hB : TgOk false c tg target) (hI : All2 (fun x t => TB B u c x (fun env => isTrue t env (eval t env))) ifs ifsE) (hd : ∀ i ∈ r.slots, i ∉ tg.slots) (hr : BdOk B u c r elt rest) :
    LoopSt B u c tg ifs r target elt ifsE rest := fun gens d iter sc pos G N0 N b ds I fp J vs g K R hg hdr q io j0 a0 nf x0 cl z =>
  have np : ∀ a, Own G.env a → ¬ fp a := fun a o f => (nf a f).2.2.1 o
  loop_any hg (fun j s2 => ∃ k Z ds, s2 = Z.s ∧ j = vs.length - k ∧ k ≤ vs.length ∧ kLoopC0 (stillB g vs) (bindTg G.ρ tg) (fun ρ σ k => kIfs B.P B.T ifs ρ σ k) (fun ds ρ σ k => kC B.P B.T r ds ρ σ k) (vs.drop k) ds Z.σ K ∧ J k Z ∧ Aft B.D N0 (Ac c G b) Z ∧ Cs B u c G b Z ds ∧ ∀ a, fp a → Pv Z a) (fun j s2 E h => by
    obtain ⟨k, Z, ds, rfl, rfl, hk, q, jz, a, x, pv⟩ := h
    cases e0 : vs.drop k with
    | nil =>
      rw [e0] at q
      have q := stB_of q
      rw [drop_end hk e0] at jz
      exact wpAny_mono (io.stop G.A Z (fun s₁ => R (.ok .next) s₁) _ x.gs.go.rm.hand jz x.gs.go.sm q.1 fun s₁ kp g os => have w := x.gs.go.sm.turn (F := fp) pv kp
        z ds (Z.at s₁) q.2 (a.lose (fun b f => (nf b f).1) pv kp g os) ⟨x.gs.spoil pv kp np, ⟨has_kept kp x.pv.lt fun f => (nf b f).2.2.2 rfl, x.pv.nw, x.pv.nm⟩, x.nb, RC_le w.1 (fun o e => kp b o e fun f => (nf b f).2.2.2 rfl) x.rc⟩) (fun r s₁ h => by cases h.1; exact h.2) fun _ _ h => h
    | cons v0 rest =>
      rw [e0] at q
      have q := stB_of q
      have w := drop_get e0
      have hlt := (List.getElem?_eq_some_iff.mp w.1).1
      refine wpAny_mono (io.item G.A k v0 Z (fun v s₂ => wpAny (model B.D.prog B.D.w) G.A (assign target G.env v) _ E s₂) E E x.gs.go.rm.hand w.1 jz x.gs.go.sm pv q.1 fun v Y1 j1 a1 e1 rv => ?_) (fun r s₁ h => h.elim fun v h => by cases h.1; exact h.2) fun _ _ h => h
      refine bind_for (G := G) hB (x.gs.item a1 np) (oK_eq q.2) rv fun ρ' Y2 k2 e2 a2 H2 => ?_
      obtain ⟨eb, k2⟩ := k2
      have x2 : Cs B u c (G.to ρ') b Y2 ds := (x.on (ρ := G.ρ) (x.gs.item a1 np) a1 fun f => (nf b f).2.2.2 rfl).on H2 a2 fun f => x.nb f.own
      have a12 := a.then a1 fun a f => (nf a f).1
      have pv1 : ∀ a, fp a → Pv Y1 a := fun b f => (pv b f).go a1
      have back : ∀ Y ds, kLoopC0 (stillB g vs) (bindTg G.ρ tg) (fun ρ σ k => kIfs B.P B.T ifs ρ σ k) (fun ds ρ σ k => kC B.P B.T r ds ρ σ k) rest ds Y.σ K → Aft B.D Y2 (Ac c G b) Y → Cs B u c (G.to ρ') b Y ds →
          ∃ m, m < vs.length - k ∧ ∃ k Z ds, Y.s = Z.s ∧ m = vs.length - k ∧ k ≤ vs.length ∧ kLoopC0 (stillB g vs) (bindTg G.ρ tg) (fun ρ σ k => kIfs B.P B.T ifs ρ σ k) (fun ds ρ σ k => kC B.P B.T r ds ρ σ k) (vs.drop k) ds Z.σ K ∧ J k Z ∧ Aft B.D N0 (Ac c G b) Z ∧ Cs B u c G b Z ds ∧ ∀ a, fp a → Pv Z a := fun Y ds k3 a3 x3 =>
        have a23 := (a2.mono fun a f => .inl f).trans a3
        ⟨vs.length - (k + 1), Nat.sub_lt_sub_left hlt (Nat.lt_succ_self k), k + 1, Y, ds, rfl, rfl, hlt, by rw [w.2]; exact k3, io.jm (k + 1) Y1 Y a23.le (fun a f o e => a23.kp a o e (pv1 a f).nc fun h => h.nb (nf a f).2.2) j1, a12.trans a23,
          ⟨x3.gs.less fun j d e => (bindTg_get eb fun m => cl j (List.mem_append.mpr (.inl m)) d e).trans e, x3.pv, x3.nb, x3.rc⟩, fun a f => (pv1 a f).go a23⟩
      rw [← e1, ← e2] at k2
      exact ifs_ok hI (G.to ρ') Y2 _ E _ H2.go k2 fun t Y3 k3 a3 => match t, k3 with
        | true, k3 => hr gens d sc pos (.ref I) b (G.to ρ') Y3 ds _ E _ hdr (x2.to a3) (fun i m d e => cl i (List.mem_append.mpr (.inr m)) d ((bindTg_get eb (hd i m)).symm.trans e)) k3 fun l Y4 k4 a4 x4 => ⟨rfl, back Y4 l k4 (a3.up.trans a4) x4⟩
        | false, k3 => back Y3 ds k3 a3.up (x2.to a3)) _
    ⟨0, N, ds, rfl, rfl, Nat.zero_le _, by rw [List.drop_zero]; exact q, j0, a0, x0, fun a f => (nf a f).2.1⟩
theorem bd_elt {x : X} {elt : PE} (he : TE B u c x (fun env => eval elt env)) : BdOk B u c (.elt x) elt [] := fun gens d sc pos it b G N ds Q E K hd x cl q z => by
  unfold Wp bodyOf
  rw [List.getElem?_eq_none (List.drop_eq_nil_iff.mp hd)]
  refine wpAny_bind (wpAny_bind (he G N _ E _ x.gs.go q fun v Y w k a r => wpAny_bind ?_))
  have x1 := x.to a
  obtain ⟨arr, il, rs⟩ := x1.rc
  obtain ⟨hz, k⟩ := bK_of k
  refine wpAny_list_append_plain (l := b) (items := arr) il (fun h' il' sb => ?_) (cap_ln (len_eq rs) (of_decide_eq_true hz))
  have t := Aft.turn1 (t := Y.s.toks) x1.gs.go.sm x1.pv (fun c o n e => sb.extBut c o n e) (il'.elim fun k e => ⟨_, e⟩)
  exact wpAny_pure (wpAny_pure (z (ds ++ [v]) (Y.at { Y.s with heap := h' }) k (a.up.trans (t.mono fun c e => .inr e)) ⟨x1.gs.item t fun a o e => x.nb (e ▸ o), x1.pv.go t, x.nb, arr.push w, il', by rw [Array.toList_push]; exact RVs_append (RVs_le t.le _ _ rs) ⟨w, [], rfl, RV_le t.le _ _ r, rfl⟩⟩))
theorem bd_gen {tg : Tg} {src : Src} {ifs : List X} {r : C} {target iter elt : PE} {ifsE : List PE} {rest : List PComp} (hs : TSr B u c target src iter) (hf : ∀ env x, foldedSetIterable iter env x = pure x) (hl : LoopSt B u c tg ifs r target elt ifsE rest) : BdOk B u c (.gen tg src ifs r) elt (⟨target, iter, ifsE, 0⟩ :: rest) := fun gens d sc pos it b G N ds Q E K hd x cl q z => by
  have hn := drop_get hd
  unfold Wp bodyOf
  rw [hn.1]
  refine wpAny_bind (wpAny_mono (hs G N (fun i s => codeAny (model B.D.prog B.D.w) G.A (.compStart (.ListComp elt gens sc pos) (d + 1) i (.ref b) G.env) (fun r s₅ => r = .ok .next ∧ Q (.again (.compLoop (.ListComp elt gens sc pos) d it (.ref b) G.env)) s₅) s) E _ x.gs.go q fun vs g Y I fp J k io j a nf => ?_)
    (fun v s₄ h₄ => wpAny_bind (wpAny_standAt (show wpAny _ _ (foldedSetIterable iter G.env v >>= _) _ _ _ from wpAny_bind (wpAny_of_eq (hf _ v) (wpAny_bind (wpAny_holding (wpAny_mono h₄ (fun i s₅ h₅ => wpAny_bind (wpAny_runOwn (codeAny_mono h₅ fun r s₆ h₆ => by cases h₆.1; exact wpAny_pure h₆.2))) fun _ _ h' => h'))))))) fun _ _ h => h)
  have run := hl gens (d + 1) iter sc pos G N Y b ds I fp J vs g K (fun r s₅ => r = .ok .next ∧ Q (.again (.compLoop (.ListComp elt gens sc pos) d it (.ref b) G.env)) s₅) hn.1 hn.2 (kLoopC_unf k) io j a.up (fun c f => ⟨(nf c f).1, (nf c f).2, fun o => (nf c f).1 (own_has x.gs.go.eo o).1, fun e => (nf c f).1 (e ▸ x.pv.lt)⟩) (x.to a) cl fun l Z k a2 x2 => ⟨rfl, z l Z k a2 x2⟩
  exact start_at hn.1 rfl run fun E' => io.self G.A 0 Y _ E' j run
end
end Mine

namespace Mine
open PySem PySem.W PyProof.Rows PySem.Calls
section
variable {B : Bd} {u : Nat} {c : Ck} {G : Ev} {N Y Z : Nx}
theorem clr_get : ∀ {is : List Nat} {ρ : REnv} {j : Nat} {d : V}, (clr is ρ)[j]? = some (some d) → ρ[j]? = some (some d) ∧ j ∉ is
  | [], _, _, _, h => ⟨h, List.not_mem_nil⟩
  | i :: is, ρ, j, d, h => have w := clr_get (is := is) (ρ := ρ.set i none) h
    (set_some w.1).elim (fun e => nomatch e.2) fun e => ⟨e.2, fun m => (List.mem_cons.mp m).elim (fun g => e.1 g.symm) w.2⟩
theorem comp_core {tg : Tg} {src : Src} {ifs : List X} {r : C} {target iter elt : PE} {ifsE : List PE} {rest : List PComp} {sc0 : Scope} {pos : Pos} {nm : List (Str × Nat)} {K : List V → St → Prop} {E : PV → Shared → Prop} (K0 : CpOk c sc0 nm (tg.slots ++ r.slots)) (hs : TSr B u c target src iter)
    (hl : LoopSt B u ⟨nm, relS sc0 c.sc⟩ tg ifs r target elt ifsE rest) (H : Go B u c G N) (q : kC B.P B.T (.gen tg src ifs r) [] (clr (tg.slots ++ r.slots) G.ρ) N.σ K) {R : PV → Addr → Result → Shared → Prop}
    (z : ∀ l Y b Cl, K l Y.σ → Aft B.D N noA Y → ¬ N.has b → ¬ N.has Cl → b ≠ Cl → Pv Y b → Pv Y Cl → RC B.D Y b (.list l) → (∃ m, Y.s.heap.Ns Cl m) → R (.ref b) Cl (.ok .next) Y.s) :
    Wp B G N (eval iter G.env) (fun x s₁ => wpAny (model B.D.prog B.D.w) G.A (pyIter x) (fun it s₂ => wpAny (model B.D.prog B.D.w) G.A (newList []) (fun acc s₃ =>
      wpAny (model B.D.prog B.D.w) G.A (newFunctionEnv sc0 G.env.globals (closOf G.env.cells sc0.names []) [] G.env.qual none .none (some G.env)) (fun cenv s₄ =>
        codeAny (model B.D.prog B.D.w) G.A (.compStart (.ListComp elt (⟨target, iter, ifsE, 0⟩ :: rest) sc0 pos) 0 it acc { cenv with scope := relabel sc0 G.env }) (R acc cenv.locals) s₄) E s₃) E s₂) E s₁) E := by
  refine hs (G.to (clr (tg.slots ++ r.slots) G.ρ)) N _ E _ ⟨H.rm, H.eo, fun x i d h1 h2 h3 => H.fe x i d h1 h2 (clr_get h3).1, H.sm⟩ q fun vs g Y I fp J k io j a nf => ?_
  refine wpAny_newObj_type (wpAny_newFunctionEnv K0.ncl (fun y hy => nomatch hy) (fun h₁ hns hsb => ?_) K0.kind)
  have z1 : ∀ o : Obj, (Y.s.heap.push o).objs.size = Y.s.heap.objs.size + 1 := fun o => Heap.size_push ..
  dsimp only at hns hsb ⊢
  rw [z1] at hns hsb ⊢
  have n1 : ∀ {k : Nat}, Y.s.heap.objs.size ≤ k → ¬ Y.has k := fun hk h => absurd (has_lt h) (Nat.not_lt.mpr hk)
  have nb : ¬ Y.has Y.s.heap.objs.size := n1 (Nat.le_refl _)
  have nl : ¬ Y.has (Y.s.heap.objs.size + 1) := n1 (Nat.le_succ _)
  have nbl : Y.s.heap.objs.size ≠ Y.s.heap.objs.size + 1 := Nat.ne_of_lt (Nat.lt_succ_self _)
  have hb : h₁.get? Y.s.heap.objs.size = some { cls := .type "list", dict := none, data := .seq ([] : List PV).toArray 0, slots := #[] } := hsb.extBut _ _ nbl (Heap.get?_push_of_some _ (push_at rfl))
  generalize Y.s.heap.objs.size = b at *
  generalize b + 1 = L at *
  have m : More Y { Y.s with heap := h₁, toks := Y.s.toks + ([] : List (Str × PV)).length } := ⟨fun x o e => hsb.extBut x o (fun e' => nl (e' ▸ has_of e)) (Heap.get?_push_of_some _ (Heap.get?_push_of_some _ e)), rfl, rfl⟩
  have a1 := m.aft a.sm
  have a2 := a.trans a1
  have pb := m.pv a.sm nb hb
  have pl := (Ns_has hns).elim fun o e => m.pv a.sm nl e
  have cl : ∀ q ∈ closOf G.env.cells sc0.names [], N.has q.2 ∧ ¬ chg N.μ q.2 := fun q hq => (clos_mem _ _ hq).elim (fun h => nomatch h) fun h =>
    (Option.isSome_iff_exists.mp (H.eo.cx q.1 (K0.fre _ h.1 rfl))).elim fun cc hc => by rw [h.2, hc]; exact H.eo.cells (q.1, cc) (mem_of_lookup hc)
  have no : ∀ x, ¬ N.has x → x ≠ L → ¬ Own (compEnvC sc0 (closOf G.env.cells sc0.names []) L G.env) x := fun x h n o => o.elim n fun ⟨q, hq, e⟩ => h (e ▸ (cl q hq).1)
  have gs : Gs B u false ⟨nm, relS sc0 c.sc⟩ ⟨compEnvC sc0 (closOf G.env.cells sc0.names []) L G.env, G.A, clr (tg.slots ++ r.slots) G.ρ⟩ (Y.at { Y.s with heap := h₁, toks := Y.s.toks + ([] : List (Str × PV)).length }) :=
    ⟨⟨H.rm, ⟨congrArg (relS sc0) H.eo.sc, K0.kind, H.eo.gl, H.eo.bi, ⟨pl.lt, pl.nc⟩, fun q hq => ⟨a2.ex _ (cl q hq).1, a2.chg (cl q hq).1 (cl q hq).2⟩, H.eo.fr, fun x hx => by
      have hx : (relS sc0 c.sc).names.lookup x = some .cell ∨ (relS sc0 c.sc).names.lookup x = some .free := hx
      rw [relS_find] at hx
      have w : ∃ k, sc0.names.lookup x = some k ∧ (relK c.sc x k = .cell ∨ relK c.sc x k = .free) := hx.elim (fun h => (Option.map_eq_some_iff.mp h).elim fun k w => ⟨k, w.1, .inl w.2⟩) fun h => (Option.map_eq_some_iff.mp h).elim fun k w => ⟨k, w.1, .inr w.2⟩
      obtain ⟨k, hk, w⟩ := w
      have hm := mem_of_lookup hk
      rcases relK_of w with e | e
      · exact absurd e (K0.ncl _ hm)
      · show (List.lookup x (closOf G.env.cells sc0.names [])).isSome = true
        rw [clos_lookup _ _ (e ▸ hm)]; rfl⟩, fun x i d h1 h2 h3 => by
      have w := clr_get h3
      obtain ⟨e1, e2⟩ := (K0.nm x i h1).resolve_left w.2
      have hm := mem_of_lookup e2
      have hk := K0.fre _ hm rfl
      obtain ⟨v, at_, rv⟩ := H.fe x i d e1 (by rw [H.eo.kd]; exact hk.elim (fun e => by rw [show c.sc.names.lookup x = _ from e]; rfl) fun e => by rw [show c.sc.names.lookup x = _ from e]; rfl) w.1
      refine ⟨v, ?_, RV_le a2.le d v rv⟩
      rcases at_ with ⟨k1, _⟩ | ⟨_, cc, ec, o, ho, hd⟩
      · rw [H.eo.kd] at k1
        exact hk.elim (fun e => nomatch k1.symm.trans e) fun e => nomatch k1.symm.trans e
      · have kk : (compEnvC sc0 (closOf G.env.cells sc0.names []) L G.env).kindOf x = some (relK c.sc x .free) := (congrArg (fun s => (relS sc0 s).names.lookup x) H.eo.sc).trans (by rw [relS_find, e2]; rfl)
        exact .inr ⟨(relK_free (o := c.sc) (x := x) rfl).imp (fun e => by rw [kk, e]) fun e => by rw [kk, e], cc, (clos_lookup _ _ hm).trans (by rw [ec]; rfl), o, a2.old (H.eo.cells (x, cc) (mem_of_lookup ec)).2 ho, hd⟩, a1.sm⟩,
    fun x f => f.elim (fun e => by rw [e]; exact pl) fun w => (nomatch w.1), ⟨_, hns⟩, fun h => (nomatch h), fun h => (nomatch h)⟩
  have run := hl (⟨target, iter, ifsE, 0⟩ :: rest) 0 iter sc0 pos _ N _ b [] I fp J vs g K (R (.ref b) L) rfl rfl (kLoopC_unf k) io (io.jm 0 Y _ a1.le (fun b f o e => m.k b o e) j) a2.up
    (fun x f => ⟨(nf x f).1, (nf x f).2.go a1, no x (nf x f).1 fun e => nl (e ▸ (nf x f).2.lt), fun e => nb (e ▸ (nf x f).2.lt)⟩) ⟨gs, pb, no b (fun h => nb (a.ex _ h)) nbl, _, ⟨0, hb⟩, rfl⟩ (fun i hi d e => (clr_get e).2 hi)
    fun l Z k2 a3 x3 => z l Z b L k2 (a3.hide fun x f => f.elim (fun f => f.elim (fun (e : x = L) h => nl (a.ex _ (e ▸ h))) fun w => (nomatch w.1)) fun e h => nb (a.ex _ (e ▸ h))) (fun h => nb (a.ex _ h)) (fun h => nl (a.ex _ h)) nbl x3.pv (x3.gs.pv L (.inl rfl)) x3.rc x3.gs.ns
  exact start_at (g := ⟨target, iter, ifsE, 0⟩) rfl rfl run fun E' => io.self G.A 0 _ _ E' (io.jm 0 Y _ a1.le (fun b f o e => m.k b o e) j) run
variable {tg : Tg} {src : Src} {ifs : List X} {r : C} {target iter elt : PE} {ifsE : List PE} {rest : List PComp} {sc0 : Scope} {nm : List (Str × Nat)}
theorem tf_comp {pos : Pos} (K0 : CpOk c sc0 nm (tg.slots ++ r.slots)) (hs : TSr B u c target src iter) (hf : ∀ env x, foldedSetIterable iter env x = pure x) (hl : LoopSt B u ⟨nm, relS sc0 c.sc⟩ tg ifs r target elt ifsE rest) :
    TF B u c (.comp (.gen tg src ifs r)) (fun env => eval (.ListComp elt (⟨target, iter, ifsE, 0⟩ :: rest) sc0 pos) env) := fun G N Q E K H q z => by
  show wpAny _ G.A (eval (.ListComp elt (⟨target, iter, ifsE, 0⟩ :: rest) sc0 pos) G.env) Q E N.s
  rw [eval_ListComp]
  exact wpAny_comprehension_free (use := none) rfl (hf G.env) (clos_eq fun p hp e => H.eo.cx p.1 (K0.fre p hp e)) K0.kind K0.okl (comp_core (R := fun acc C => compPost (model B.D.prog B.D.w) G.A E none Q acc C) K0 hs hl H q fun l Y b Cl k a nb nc ne pb pc rc ns => ns.elim fun mm ns => ⟨mm, ns, fun h' sb =>
    have kp : ∀ c o, Y.s.heap.get? c = some o → ¬ c = Cl → h'.get? c = some o := fun c o e n => sb.extBut c o n e
    have w := a.sm.turn (F := fun c => c = Cl) (s := { Y.s with heap := h' }) (fun c e => e ▸ pc) kp
    z (.list l) (Y.at { Y.s with heap := h' }) b k (a.lose (P := fun c => c = Cl) (fun c e => e ▸ nc) (fun c e => e ▸ pc) kp rfl rfl) nb ⟨has_kept kp pb.lt ne, pb.nw, pb.nm⟩ (RC_le w.1 (fun o e => kp b o e ne) rc)⟩)
theorem name_core {cpos pos py : Pos} {i : Nat} {y : Str} {K : Out → Prop} {Kc : List V → St → Prop} {Q : Flow → Shared → Prop} {E : PV → Shared → Prop} (hn : Nm true c y i) (K0 : CpOk c sc0 nm (tg.slots ++ r.slots)) (hs : TSr B u c target src iter) (hf : ∀ env x, foldedSetIterable iter env x = pure x) (hl : LoopSt B u ⟨nm, relS sc0 c.sc⟩ tg ifs r target elt ifsE rest)
    (hsw : ∀ env : PEnv, env.scope = c.sc → swapsWith (.ListComp elt (⟨target, iter, ifsE, 0⟩ :: rest) sc0 cpos) (some (.Name y py)) pos.line env = pure true) (H : Gs B u true c G N) (q : kC B.P B.T (.gen tg src ifs r) [] (clr (tg.slots ++ r.slots) G.ρ) N.σ Kc) (z : OutOk B u c G N K Q)
    (pub : ∀ l Y b, Kc l Y.σ → Aft B.D N noA Y → ¬ N.has b → Pv Y b → RC B.D Y b (.list l) → ∃ d Y', Y'.s = Y.s ∧ Aft B.D N noA Y' ∧ Val B Y' d (.ref b) ∧ K (.next (G.ρ.set i (some d)) Y'.σ) ∧ ∀ a, b ≠ a → Pv Y a → Pv Y' a) :
    Wp B G N (exec (.Assign [.Name y py] (.ListComp elt (⟨target, iter, ifsE, 0⟩ :: rest) sc0 cpos) pos) G.env) Q E := by
  unfold Wp
  rw [exec_Assign_Name_used _ _ _ _ (hsw G.env H.go.eo.sc)]
  refine wpAny_bind (wpAny_standAt (wpAny_bind ?_))
  show wpAny _ _ (do let _ ← comprehension (.ListComp elt (⟨target, iter, ifsE, 0⟩ :: rest) sc0 cpos) sc0 G.env _ (newList []) false (eval iter G.env) (some (assign (.Name y py) G.env))) _ _ _
  refine wpAny_bind (wpAny_mono (wpAny_comprehension_free (use := some (assign (.Name y py) G.env)) (Q := fun _ s' => Q .next s') rfl (hf G.env) (clos_eq fun p hp e => H.go.eo.cx p.1 (K0.fre p hp e)) K0.kind K0.okl
    (comp_core (R := fun acc C => compPost (model B.D.prog B.D.w) G.A E (some (assign (.Name y py) G.env)) (fun _ s' => Q .next s') acc C) K0 hs hl H.go q fun l Y b Cl k a nb nc ne pb pc rc ns => ns.elim fun mm ns => ?_)) (fun _ s' hq => wpAny_pure (wpAny_pure hq)) fun _ _ e => e)
  obtain ⟨d, Y', e, aw, rv, k, pp⟩ := pub l Y b k a nb pb rc
  have pw := pp Cl ne pc
  have nF : ¬ Own G.env Cl := fun o => nc (own_has H.go.eo o).1
  show wpAny _ _ (assign (.Name y py) G.env (.ref b)) _ _ Y.s
  rw [← e] at ns ⊢
  refine wpAny_assign_Name (store_ok (N := Y') (H.to aw) hn rv fun Y2 es a2 H2 => ⟨mm, ns.at fun o e => a2.kp Cl o e pw.nc fun f => nF f.own, fun h' sb => ?_⟩)
  have kp : ∀ c o, Y2.s.heap.get? c = some o → ¬ c = Cl → h'.get? c = some o := fun c o e n => sb.extBut c o n e
  exact z.1 _ (Y2.at { Y2.s with heap := h' }) (show K (.next (G.ρ.set i (some d)) Y2.σ) by rw [es]; exact k) ((aw.up.trans a2).lose (P := fun c => c = Cl) (fun c e => e ▸ nc) (fun c e => e ▸ pw.go a2) kp rfl rfl) (H2.spoil (P := fun c => c = Cl) (fun c e => e ▸ pw.go a2) kp fun c o e => nF (e ▸ o))
theorem ts_nameC {cpos pos py : Pos} {i : Nat} {y : Str} (hn : Nm true c y i) (K0 : CpOk c sc0 nm (tg.slots ++ r.slots)) (hs : TSr B u c target src iter) (hf : ∀ env x, foldedSetIterable iter env x = pure x) (hl : LoopSt B u ⟨nm, relS sc0 c.sc⟩ tg ifs r target elt ifsE rest)
    (hsw : ∀ env : PEnv, env.scope = c.sc → swapsWith (.ListComp elt (⟨target, iter, ifsE, 0⟩ :: rest) sc0 cpos) (some (.Name y py)) pos.line env = pure true) :
    TS B u c (.asg (.name i) (.comp (.gen tg src ifs r))) (fun env => exec (.Assign [.Name y py] (.ListComp elt (⟨target, iter, ifsE, 0⟩ :: rest) sc0 cpos) pos) env) ∧ TS B u c (.asg (.name i) (.mut (.comp (.gen tg src ifs r)))) (fun env => exec (.Assign [.Name y py] (.ListComp elt (⟨target, iter, ifsE, 0⟩ :: rest) sc0 cpos) pos) env) :=
  ⟨fun G N Q E K H q z => name_core hn K0 hs hf hl hsw H q z fun l Y b k a nb pb rc => ⟨.list l, Y.wi b, rfl, a.wi pb nb, RC_RV (.inr rfl) (RC_le Le.wi (fun _ e => e) rc), k, fun x ne px => ⟨px.lt, fun w => w.elim px.nw fun e => ne e.symm, px.nm⟩⟩,
    fun G N Q E K H q z => name_core hn K0 hs hf hl hsw H q z fun l Y b k a nb pb rc => ⟨.loc Y.σ.length, Y.lo (b, b) (.list l), rfl, a.lo pb pb ⟨nb, nb⟩ (base_none H.go.sm nb) (OR_le Le.lo (fun _ e => e) (fun _ e => e) ⟨rfl, rc⟩), ⟨(b, b), rfl, by rw [← a.sm.len]; exact at_end⟩, k,
      fun x ne px => ⟨px.lt, px.nw, fun p hp => (mem_snoc hp).elim (px.nm p) fun e => by rw [e]; exact ⟨ne, ne⟩⟩⟩⟩
end
end Mine

namespace Mine
open PySem PySem.W PyProof.Rows PySem.Calls
theorem cellsFrom_lookup {x : Str} : ∀ (l : List (Str × NameKind)) (n : Nat) (acc : List (Str × Addr)), ((x, NameKind.cell) ∈ l ∨ (acc.lookup x).isSome = true) → ((cellsFrom n l acc).lookup x).isSome = true
  | [], n, acc, h => h.elim (fun h => nomatch h) id
  | (y, k) :: r, n, acc, h => by
    unfold cellsFrom
    split
    · refine cellsFrom_lookup r (n + 1) _ (h.elim (fun h => (List.mem_cons.mp h).elim (fun h => .inr ?_) .inl) fun h => .inr ?_)
      · cases h; rw [List.lookup_cons, BEq.rfl]; rfl
      · rw [List.lookup_cons]
        cases x == y with
        | true => rfl
        | false => exact h
    · rename_i hk
      exact cellsFrom_lookup r n acc (h.imp (fun h => (List.mem_cons.mp h).elim (fun h => by cases h; exact absurd rfl hk) id) id)
theorem cellsFrom_nodup : ∀ (l : List (Str × NameKind)) (n : Nat) (acc : List (Str × Addr)), (l.map (·.1)).Nodup → (acc.map (·.1)).Nodup → (∀ x ∈ l.map (·.1), x ∉ acc.map (·.1)) → ((cellsFrom n l acc).map (·.1)).Nodup
  | [], _, _, _, h, _ => h
  | (y, k) :: r, n, acc, h1, h2, h3 => by
    have h1 := List.nodup_cons.mp h1
    unfold cellsFrom
    split
    · exact cellsFrom_nodup r (n + 1) _ h1.2 (List.nodup_cons.mpr ⟨h3 y (List.mem_cons_self ..), h2⟩) fun x hx hm => (List.mem_cons.mp hm).elim (fun e => h1.1 (e ▸ hx)) (h3 x (List.mem_cons_of_mem _ hx))
    · exact cellsFrom_nodup r n acc h1.2 h2 fun x hx => h3 x (List.mem_cons_of_mem _ hx)
theorem lookup_of {α : Type} {x : Str} {b : α} : ∀ {l : List (Str × α)}, (l.map (·.1)).Nodup → (x, b) ∈ l → l.lookup x = some b
  | (y, c) :: r, hn, h => by
    have hn := List.nodup_cons.mp hn
    rw [List.lookup_cons]
    rcases List.mem_cons.mp h with h' | h'
    · cases h'; rw [BEq.rfl]
    · rw [show (x == y) = false from beq_eq_false_iff_ne.mpr fun e => hn.1 (e ▸ List.mem_map.mpr ⟨_, h', rfl⟩)]; exact lookup_of hn.2 h'
section
variable {ko : Str → Option NameKind}
theorem bindL_not {x : Str} : ∀ (l : List (Str × PV)) (m : Str → Option PV), x ∉ l.map (·.1) → bindL ko l m x = m x
  | [], m, _ => rfl
  | (y, v) :: r, m, h => by
    unfold bindL
    rw [bindL_not r _ fun hm => h (List.mem_cons_of_mem _ hm)]
    split
    · exact if_neg fun e : x = y => h (e ▸ List.mem_cons_self ..)
    · rfl
theorem bindC_not {x : Str} : ∀ (l : List (Str × PV)) (m : Str → Option PV), x ∉ l.map (·.1) → bindC ko l m x = m x
  | [], m, _ => rfl
  | (y, v) :: r, m, h => by
    unfold bindC
    rw [bindC_not r _ fun hm => h (List.mem_cons_of_mem _ hm)]
    split
    · rfl
    · exact if_neg fun e : x = y => h (e ▸ List.mem_cons_self ..)
theorem bind_at {x : Str} {v : PV} : ∀ (l : List (Str × PV)) (m m' : Str → Option PV), (l.map (·.1)).Nodup → (x, v) ∈ l → (ko x = some .local → bindL ko l m x = some v) ∧ (ko x ≠ some .local → bindC ko l m' x = some v)
  | (y, w) :: r, m, m', hn, h => by
    have hn := List.nodup_cons.mp hn
    rcases List.mem_cons.mp h with h | h
    · cases h
      exact ⟨fun hk => by unfold bindL; rw [bindL_not r _ hn.1, if_pos hk]; exact if_pos rfl, fun hk => by unfold bindC; rw [bindC_not r _ hn.1, if_neg hk]; exact if_pos rfl⟩
    · have w := fun m m' => bind_at r m m' hn.2 h
      exact ⟨fun hk => by unfold bindL; exact (w _ m').1 hk, fun hk => by unfold bindC; exact (w m _).2 hk⟩
end
structure FnB (B : Bd) (u : Nat) (names : List (Str × Nat)) (ps : List Str) (f : Nat) (d : FDef) (fd : FuncData) (body : List Stmt) : Prop where
  hu : u ≤ 90
  hK : ∃ o, B.D.K.lookup (B.D.fa f) = some o ∧ o.data = .func fd
  hcd : codeIn B.D.K fd.code fd.qualname = true
  hb : fd.body = .stmts body
  hcl : fd.closure = []
  hg : fd.globals = mainGlobals
  hbi : fd.builtins = builtinsNs
  co : fd.scope.isCoroutine = false
  gen : fd.scope.isGenerator = false
  kind : fd.scope.kind = .function
  nf : ∀ x, fd.scope.names.lookup x ≠ some .free
  nd : (fd.scope.names.map (·.1)).Nodup
  pl : ps.length = d.params
  pn : ps.Nodup
  pk : ∀ x ∈ ps, fd.scope.names.lookup x = some .local ∨ fd.scope.names.lookup x = some .cell
  bind : ∀ vals : List PV, vals.length = d.params → bindArgs fd ⟨vals, []⟩ = pure (ps.zip vals)
  nm : ∀ x i, names.lookup x = some i → d.params ≤ i ∨ ps[i]? = some x
  ts : TSs B u ⟨names, fd.scope⟩ d.body (fun env => execs body env)
noncomputable def FnGo (B : Bd) (f : Nat) (d : FDef) : Prop :=
  ∀ (A : Around) (N : Nx) (ds : List V) (vs : List PV) (K : V → St → Prop) (R : Result → Shared → Prop), ds.length = d.params → kSs B.P B.T d.body (enter d ds) N.σ (outK K) → Room (B.n + 1) 0 A → Sm B.D N → Vals B N ds vs →
    (∀ d Y v, K d Y.σ → Aft B.D N noA Y → Val B Y d v → R (.ok (.ret v)) Y.s) → codeAny (model B.D.prog B.D.w) A (.call (.ref (B.D.fa f)) ⟨vs, []⟩) R N.s
theorem enter_get {d : FDef} {ds : List V} {i : Nat} {x : V} (h : (enter d ds)[i]? = some (some x)) : ds[i]? = some x := by
  unfold enter at h
  by_cases hi : i < (ds.map some).length
  · rw [List.getElem?_append_left hi, List.getElem?_map] at h
    obtain ⟨y, e, e2⟩ := Option.map_eq_some_iff.mp h
    rw [e, e2]
  · rw [List.getElem?_append_right (Nat.le_of_not_lt hi), List.getElem?_replicate] at h
    split at h <;> cases h
theorem Room.lt {n : Nat} {A : Around} (rm : Room (n + 1) 0 A) : A.depth < recursionLimit := Nat.lt_of_le_of_lt (Nat.le_trans (Nat.le_trans (Nat.le_add_right _ _) (Nat.le_add_right _ _)) (Nat.le_add_right _ _)) rm.depth
theorem Room.deep {n u : Nat} {A : Around} {env : PEnv} (rm : Room (n + 1) 0 A) (hu : u ≤ 90) : Room n u (A.deeper env) :=
  ⟨by have := rm.depth; show A.depth + 1 + 5 * n + min u 2 + 2 < _; omega, by have := rm.units; show A.units + 3 + 100 * n + u < _; omega, rm.hand⟩
section
variable {B : Bd} {g : Gt}
theorem call_fn (H : Facts B g) {u : Nat} {names : List (Str × Nat)} {ps : List Str} {f : Nat} {d : FDef} {fd : FuncData} {body : List Stmt} (F : FnB B u names ps f d fd body) : FnGo B f d := fun A N ds vs K R hl q rm sm rs z => by
  obtain ⟨o, hK, hdt⟩ := F.hK
  have X := H.x sm
  have hvl : vs.length = d.params := (RVs_length rs).trans hl
  have hzip : (ps.zip vs).map (·.1) = ps := List.map_fst_zip (Nat.le_of_eq (F.pl.trans hvl.symm))
  have mem_ps : ∀ x ∈ ps.zip vs, x.1 ∈ ps := fun x hx => hzip ▸ List.mem_map.mpr ⟨x, hx, rfl⟩
  have cs : ∀ x k, fd.scope.names.lookup x = some NameKind.cell → ((cellsFrom k fd.scope.names []).lookup x).isSome = true := fun x k e => cellsFrom_lookup _ _ _ (.inl (mem_of_lookup e))
  refine codeAny_call_cells (o := o) (fd := fd) (body := body) (binds := ps.zip vs) rm.lt (X _ _ hK) hdt (H.lim.keeps sm.gi) (codeRec_of X F.hcd) F.hb (F.bind vs hvl) F.hcl (fun x hx => (F.pk _ (mem_ps x hx)).imp id fun e => ⟨e, cs _ _ e⟩) (fun s1 ic => ?_) F.co F.gen F.kind
  have ic0 := ic.toInCall
  obtain ⟨h1, tk1, rfl⟩ := ic0.same
  have hcells : (callEnvC fd N.s.heap.objs.size (B.D.fa f)).cells = cellsFrom (N.s.heap.objs.size + 1) fd.scope.names [] := rfl
  have hscope : (callEnvC fd N.s.heap.objs.size (B.D.fa f)).scope = fd.scope := rfl
  have hloc : (callEnvC fd N.s.heap.objs.size (B.D.fa f)).locals = N.s.heap.objs.size := rfl
  have hframe : (callEnvC fd N.s.heap.objs.size (B.D.fa f)).frame = some N.s.heap.objs.size := rfl
  have hglob : (callEnvC fd N.s.heap.objs.size (B.D.fa f)).globals = fd.globals := rfl
  have hbuil : (callEnvC fd N.s.heap.objs.size (B.D.fa f)).builtins = fd.builtins := rfl
  generalize callEnvC fd N.s.heap.objs.size (B.D.fa f) = env at *
  have hkd : ∀ x, env.kindOf x = fd.scope.names.lookup x := fun x => congrArg (fun s : Scope => s.names.lookup x) hscope
  have cn : (env.cells.map (·.1)).Nodup := by rw [hcells]; exact cellsFrom_nodup _ _ _ F.nd List.nodup_nil fun x _ hm => nomatch hm
  have cell_at : ∀ q ∈ env.cells, ∃ v, h1.IsCell q.2 v := fun q hq => ⟨_, ic.cell q.1 q.2 (lookup_of cn hq)⟩
  have m : More N { N.s with heap := h1, toks := tk1 } := ⟨ic0.keep, rfl, rfl⟩
  have old : ∀ b, N.s.heap.objs.size ≤ b → ¬ N.has b := fun b h n => absurd (has_lt n) (Nat.not_lt.mpr h)
  have af := m.aft sm
  have pl : Pv (N.at { N.s with heap := h1, toks := tk1 }) env.locals := (Ns_has ic0.ns).elim fun o e => m.pv sm (old _ (Nat.le_of_eq hloc.symm)) e
  have pc : ∀ q ∈ env.cells, ¬ N.has q.2 ∧ Pv (N.at { N.s with heap := h1, toks := tk1 }) q.2 := fun q hq =>
    have n := old q.2 (Nat.le_of_lt (hloc ▸ ic.above q.1 q.2 hq))
    ⟨n, (cell_at q hq).elim fun v w => (cell_has w).elim fun o e => m.pv sm n e⟩
  have gs : Gs B u true ⟨names, fd.scope⟩ ⟨env, A.deeper env, enter d ds⟩ (N.at { N.s with heap := h1, toks := tk1 }) := by
    refine ⟨⟨rm.deep F.hu, ⟨hscope, (congrArg Scope.kind hscope).trans F.kind, hglob.trans F.hg, hbuil.trans F.hbi, ⟨pl.lt, pl.nc⟩, fun q hq => ⟨(pc q hq).2.lt, (pc q hq).2.nc⟩, by rw [hframe]; rfl, fun x hx => ?_⟩, fun x i d' h1' h2' h3' => ?_, af.sm⟩,
      fun b f => f.elim (fun e => by rw [e]; exact pl) fun ⟨_, x, _, e⟩ => (pc (x, b) (mem_of_lookup e)).2, ⟨_, ic0.ns⟩, fun _ x hx => ?_, fun _ x y b hx h1' h2' => name_of_addr ic.apart (mem_of_lookup h1') (mem_of_lookup h2')⟩
    · rw [hcells]
      exact hx.elim (cs _ _) fun hx => absurd hx (F.nf x)
    · have hd := enter_get h3'
      have hi : i < d.params := hl ▸ (List.getElem?_eq_some_iff.mp hd).1
      have hpx := (F.nm x i h1').resolve_left (Nat.not_le.mpr hi)
      obtain ⟨v, hv, rv⟩ := RVs_get rs hd
      have hm : (x, v) ∈ ps.zip vs := List.mem_of_getElem? (i := i) (by rw [List.getElem?_zip_eq_some]; exact ⟨hpx, hv⟩)
      refine ⟨v, ?_, RV_le af.le _ _ rv⟩
      have ba := bind_at (ko := env.kindOf) (ps.zip vs) (fun _ => none) (fun _ => none) (by rw [hzip]; exact F.pn) hm
      rcases F.pk x (mem_ps _ hm) with hxk | hxk
      · exact .inl ⟨(hkd x).trans hxk, _, ic0.ns, ba.1 ((hkd x).trans hxk)⟩
      · obtain ⟨b, hb⟩ := Option.isSome_iff_exists.mp (cs x (N.s.heap.objs.size + 1) hxk)
        rw [← hcells] at hb
        have w := ic.cell x b hb
        rw [ba.2 fun e => by rw [hkd, hxk] at e; cases e] at w
        exact .inr ⟨.inl ((hkd x).trans hxk), b, hb, w⟩
    · obtain ⟨b, hb⟩ := Option.isSome_iff_exists.mp (cs x (N.s.heap.objs.size + 1) hx)
      rw [← hcells] at hb
      exact ⟨b, _, hb, ic.cell x b hb⟩
  have nF : ∀ b, Fr true ⟨names, fd.scope⟩ env b → ¬ N.has b := fun b f => f.elim (fun e => by rw [e]; exact old _ (Nat.le_of_eq hloc.symm)) fun ⟨_, x, _, e⟩ => (pc (x, b) (mem_of_lookup e)).1
  have done : ∀ {Y}, Aft B.D (N.at { N.s with heap := h1, toks := tk1 }) (Fr true ⟨names, fd.scope⟩ env) Y → Aft B.D N noA Y := fun a => (af.up.trans a).hide nF
  exact F.ts ⟨env, A.deeper env, enter d ds⟩ _ _ _ _ gs q ⟨fun ρ Y k a _ => z .none Y .none k (done a) rfl, fun d Y v k a r => z d Y v k (done a) r⟩
theorem tok_go {D : Wd} {P : Prog} (hF : ∀ n T, TOk ⟨D, P, T, n⟩ → ∀ f d, P.fn f = some d → FnGo ⟨D, P, T, n⟩ f d) : ∀ n, TOk ⟨D, P, ⟨callK P n⟩, n⟩
  | 0 => fun A N f ds vs K e => False.elim e
  | n + 1 => fun A N f ds vs K e rm sm rs => oK_of (show oK (P.fn f) _ from e) fun d hd e =>
    have w := bK_of e
    ⟨by show (P.fn f).isSome = true; rw [hd]; rfl, fun R z => hF n ⟨callK P n⟩ (tok_go hF n) f d hd A N ds vs K R (of_decide_eq_true w.1) w.2 rm sm rs z⟩
end
end Mine

namespace Mine
open PySem PySem.W PyProof.Rows
noncomputable section
noncomputable def oB {α : Type} (o : Option α) (f : α → Bool) : Bool := match o with
  | some a => f a
  | none => false
@[irreducible] noncomputable def oS {α : Type} {p : α → Prop} (o : Option { a : α // p a }) (f : α → Bool) : Bool := match o with
  | some a => f a.1
  | none => false
theorem oS_of {α : Type} {p : α → Prop} {o : Option { a : α // p a }} {f : α → Bool} (h : oS o f = true) : ∃ a, p a ∧ f a = true := by
  unfold oS at h
  cases o with
  | some a => exact ⟨a.1, a.2, h⟩
  | none => exact absurd h Bool.false_ne_true
theorem oS_el {α : Type} {p : α → Prop} {o : Option { a : α // p a }} {f : α → Bool} {Z : Prop} (h : oS o f = true) (z : ∀ a, p a → f a = true → Z) : Z := (oS_of h).elim fun a w => z a w.1 w.2
noncomputable def dCon (e : PE) : Option { w : Const × Nat × Pos // e = .Constant w.1 w.2.1 w.2.2 } := if h : e.ctorIdx = 19 then PySem.Expr.Constant.elim (motive_1 := fun e => Option { w : Const × Nat × Pos // e = .Constant w.1 w.2.1 w.2.2 }) e h (fun k n p => some ⟨(k, n, p), rfl⟩) else none
noncomputable def kInt (k : Const) : Option { j : Int // k = .int j } := if h : k.ctorIdx = 2 then PySem.Const.int.elim (motive := fun k => Option { j : Int // k = .int j }) k h (fun j => some ⟨j, rfl⟩) else none
noncomputable def kStr (k : Const) : Option { x : Str // k = .str x } := if h : k.ctorIdx = 5 then PySem.Const.str.elim (motive := fun k => Option { x : Str // k = .str x }) k h (fun x => some ⟨x, rfl⟩) else none
noncomputable def kBool (k : Const) : Option { b : Bool // k = .bool b } := if h : k.ctorIdx = 1 then PySem.Const.bool.elim (motive := fun k => Option { b : Bool // k = .bool b }) k h (fun b => some ⟨b, rfl⟩) else none
noncomputable def kNone (k : Const) : Option { b : Unit // k = .none } := if h : k.ctorIdx = 0 then PySem.Const.none.elim (motive := fun k => Option { b : Unit // k = .none }) k h (some ⟨(), rfl⟩) else none
noncomputable def dNeg (e : PE) : Option { w : UnaryOp × PE × Pos // e = .UnaryOp w.1 w.2.1 w.2.2 } := if h : e.ctorIdx = 3 then PySem.Expr.UnaryOp.elim (motive_1 := fun e => Option { w : UnaryOp × PE × Pos // e = .UnaryOp w.1 w.2.1 w.2.2 }) e h (fun o f p => some ⟨(o, f, p), rfl⟩) else none
noncomputable def dName (e : PE) : Option { x : Str × Pos // e = .Name x.1 x.2 } := if h : e.ctorIdx = 23 then PySem.Expr.Name.elim (motive_1 := fun e => Option { x : Str × Pos // e = .Name x.1 x.2 }) e h (fun x p => some ⟨(x, p), rfl⟩) else none
noncomputable def dTup (e : PE) : Option { w : List PE × Nat × Pos // e = .Tuple w.1 w.2.1 w.2.2 } := if h : e.ctorIdx = 25 then PySem.Expr.Tuple.elim (motive_1 := fun e => Option { w : List PE × Nat × Pos // e = .Tuple w.1 w.2.1 w.2.2 }) e h (fun es k p => some ⟨(es, k, p), rfl⟩) else none
noncomputable def dList (e : PE) : Option { w : List PE × Pos // e = .List w.1 w.2 } := if h : e.ctorIdx = 24 then PySem.Expr.List.elim (motive_1 := fun e => Option { w : List PE × Pos // e = .List w.1 w.2 }) e h (fun es p => some ⟨(es, p), rfl⟩) else none
noncomputable def dDict (e : PE) : Option { w : List (Option PE) × List PE × Pos // e = .Dict w.1 w.2.1 w.2.2 } := if h : e.ctorIdx = 6 then PySem.Expr.Dict.elim (motive_1 := fun e => Option { w : List (Option PE) × List PE × Pos // e = .Dict w.1 w.2.1 w.2.2 }) e h (fun ks vs p => some ⟨(ks, vs, p), rfl⟩) else none
noncomputable def dAttr (e : PE) : Option { w : PE × Str × Pos // e = .Attribute w.1 w.2.1 w.2.2 } := if h : e.ctorIdx = 20 then PySem.Expr.Attribute.elim (motive_1 := fun e => Option { w : PE × Str × Pos // e = .Attribute w.1 w.2.1 w.2.2 }) e h (fun o a p => some ⟨(o, a, p), rfl⟩) else none
noncomputable def dSub (e : PE) : Option { w : PE × PE × Pos // e = .Subscript w.1 w.2.1 w.2.2 } := if h : e.ctorIdx = 21 then PySem.Expr.Subscript.elim (motive_1 := fun e => Option { w : PE × PE × Pos // e = .Subscript w.1 w.2.1 w.2.2 }) e h (fun o i p => some ⟨(o, i, p), rfl⟩) else none
noncomputable def dSlice (e : PE) : Option { w : Option PE × Option PE × Pos // e = .Slice w.1 w.2.1 none w.2.2 } := if h : e.ctorIdx = 26 then PySem.Expr.Slice.elim (motive_1 := fun e => Option { w : Option PE × Option PE × Pos // e = .Slice w.1 w.2.1 none w.2.2 }) e h (fun l h s p => match s with | none => some ⟨(l, h, p), rfl⟩ | some _ => none) else none
noncomputable def dBin (e : PE) : Option { w : PE × Operator × PE × Pos // e = .BinOp w.1 w.2.1 w.2.2.1 w.2.2.2 } := if h : e.ctorIdx = 2 then PySem.Expr.BinOp.elim (motive_1 := fun e => Option { w : PE × Operator × PE × Pos // e = .BinOp w.1 w.2.1 w.2.2.1 w.2.2.2 }) e h (fun l o r p => some ⟨(l, o, r, p), rfl⟩) else none
noncomputable def dBool (e : PE) : Option { w : BoolOp × List PE × Pos // e = .BoolOp w.1 w.2.1 w.2.2 } := if h : e.ctorIdx = 0 then PySem.Expr.BoolOp.elim (motive_1 := fun e => Option { w : BoolOp × List PE × Pos // e = .BoolOp w.1 w.2.1 w.2.2 }) e h (fun o es p => some ⟨(o, es, p), rfl⟩) else none
noncomputable def dCmp (e : PE) : Option { w : PE × List CmpOp × List PE × Pos // e = .Compare w.1 w.2.1 w.2.2.1 w.2.2.2 } := if h : e.ctorIdx = 15 then PySem.Expr.Compare.elim (motive_1 := fun e => Option { w : PE × List CmpOp × List PE × Pos // e = .Compare w.1 w.2.1 w.2.2.1 w.2.2.2 }) e h (fun l o r p => some ⟨(l, o, r, p), rfl⟩) else none
noncomputable def dIte (e : PE) : Option { w : PE × PE × PE × Pos // e = .IfExp w.1 w.2.1 w.2.2.1 w.2.2.2 } := if h : e.ctorIdx = 5 then PySem.Expr.IfExp.elim (motive_1 := fun e => Option { w : PE × PE × PE × Pos // e = .IfExp w.1 w.2.1 w.2.2.1 w.2.2.2 }) e h (fun t b o p => some ⟨(t, b, o, p), rfl⟩) else none
noncomputable def dCall (e : PE) : Option { w : PE × List PE × Pos // e = .Call w.1 w.2.1 [] w.2.2 } := if h : e.ctorIdx = 16 then PySem.Expr.Call.elim (motive_1 := fun e => Option { w : PE × List PE × Pos // e = .Call w.1 w.2.1 [] w.2.2 }) e h (fun f es k p => match k with | [] => some ⟨(f, es, p), rfl⟩ | _ :: _ => none) else none
noncomputable def dComp (e : PE) : Option { w : PE × List PComp × Scope × Pos // e = .ListComp w.1 w.2.1 w.2.2.1 w.2.2.2 } := if h : e.ctorIdx = 8 then PySem.Expr.ListComp.elim (motive_1 := fun e => Option { w : PE × List PComp × Scope × Pos // e = .ListComp w.1 w.2.1 w.2.2.1 w.2.2.2 }) e h (fun t g s p => some ⟨(t, g, s, p), rfl⟩) else none
noncomputable def dJs (e : PE) : Option { w : List PE × Pos // e = .JoinedStr w.1 w.2 } := if h : e.ctorIdx = 18 then PySem.Expr.JoinedStr.elim (motive_1 := fun e => Option { w : List PE × Pos // e = .JoinedStr w.1 w.2 }) e h (fun es p => some ⟨(es, p), rfl⟩) else none
noncomputable def dFmt (e : PE) : Option { w : PE × Int × Pos // e = .FormattedValue w.1 w.2.1 none w.2.2 } := if h : e.ctorIdx = 17 then PySem.Expr.FormattedValue.elim (motive_1 := fun e => Option { w : PE × Int × Pos // e = .FormattedValue w.1 w.2.1 none w.2.2 }) e h (fun f i o p => match o with | none => some ⟨(f, i, p), rfl⟩ | some _ => none) else none
noncomputable def dOne {α : Type} (l : List α) : Option { a : α // l = [a] } := match l with
  | [a] => some ⟨a, rfl⟩
  | _ => none
noncomputable def dTwo {α : Type} (l : List α) : Option { a : α × α // l = [a.1, a.2] } := match l with
  | [a, b] => some ⟨(a, b), rfl⟩
  | _ => none
noncomputable def dCons {α : Type} (l : List α) : Option { a : α × List α // l = a.1 :: a.2 } := match l with
  | a :: b => some ⟨(a, b), rfl⟩
  | _ => none
noncomputable def dGen (g : PComp) : Option { w : PE × PE × List PE // g = ⟨w.1, w.2.1, w.2.2, 0⟩ } := match g with
  | ⟨t, i, f, 0⟩ => some ⟨(t, i, f), rfl⟩
  | _ => none
noncomputable def noSet (e : PE) : Bool := e.ctorIdx != 7
noncomputable def biStr : Bi → Str × PV
  | .len => ("len", .builtin "len")
  | .list => ("list", .type "list")
  | .tuple => ("tuple", .type "tuple")
  | .int => ("int", .type "int")
  | .max => ("max", .builtin "max")
  | .dict => ("dict", .type "dict")
  | _ => ("sorted", .builtin "sorted")
noncomputable def isFb : Bi → Bool
  | .list => true
  | .dict => true
  | _ => false
noncomputable def isF (x : X) : Bool := x.ctorIdx == 4 || (x.ctorIdx == 5 || (x.ctorIdx == 21 || if h : x.ctorIdx = 19 then X.bi.elim (motive_1 := fun _ => Bool) x h (fun b _ => isFb b) else false))
noncomputable def isGlob (c : Ck) (x : Str) : Bool := c.sc.names.lookup x == some .globalImplicit && !(x == ("__debug__" : Str))
noncomputable def isVar (c : Ck) (x : Str) (i : Nat) : Bool := c.names.lookup x == some i && (isLoc (c.sc.names.lookup x) && (!(x == ("__debug__" : Str)) && !(x == ("__classdict__" : Str))))
noncomputable def strN (v : V) : Option Nat := if h : v.ctorIdx = 3 then V.str.elim (motive_1 := fun _ => Option Nat) v h (fun n => some n) else none
noncomputable def dCst (x : X) : Option { v : V // x = .cst v } := if h : x.ctorIdx = 0 then X.cst.elim (motive_1 := fun x => Option { v : V // x = .cst v }) x h (fun v => some ⟨v, rfl⟩) else none
noncomputable def dVs (v : V) : Option { z : Nat // v = .str z } := if h : v.ctorIdx = 3 then V.str.elim (motive_1 := fun v => Option { z : Nat // v = .str z }) v h (fun z => some ⟨z, rfl⟩) else none
noncomputable def dVn (v : V) : Option { z : Unit // v = .none } := if h : v.ctorIdx = 0 then V.none.elim (motive_1 := fun v => Option { z : Unit // v = .none }) v h (some ⟨(), rfl⟩) else none
noncomputable def isN (x : X) : Bool := oS (dCst x) fun v => oS (dVn v) fun _ => true
noncomputable def oO (o : Option PE) (b : Bool) (f : PE → Bool) : Bool := match o with
  | some e => f e
  | none => b
noncomputable def chkCst (v : V) (e : PE) : Bool := match v with
  | .none => oS (dCon e) fun w => oS (kNone w.1) fun _ => true
  | .bool b => oS (dCon e) fun w => oS (kBool w.1) fun d => b == d
  | .int i => oS (dCon e) (fun w => oS (kInt w.1) fun j => decide (i = j)) || oS (dNeg e) fun w => w.1 == .USub && oS (dCon w.2.1) fun w => oS (kInt w.1) fun j => decide (i = -j)
  | .str z => oS (dCon e) fun w => oS (kStr w.1) fun x => strOk x && encS x == z
  | _ => false
noncomputable def namesT (tg : Tg) (e : PE) : List (Str × Nat) := match tg with
  | .one i => match dName e with
    | some x => [(x.1.1, i)]
    | none => []
  | .many is => match dTup e with
    | some es => (es.1.1.zip is).filterMap fun p => (dName p.1).map fun x => (x.1.1, p.2)
    | none => []
noncomputable def namesC : C → List PComp → List (Str × Nat)
  | .elt _, _ => []
  | .gen tg _ _ r, l => match l with
    | g :: l => namesT tg g.target ++ namesC r l
    | [] => []
noncomputable def freeOf (c : Ck) (sc : Scope) : List (Str × Nat) := c.names.filter fun p => sc.names.lookup p.1 == some .free
noncomputable def cpB (c : Ck) (sc : Scope) (nm : List (Str × Nat)) (slots : List Nat) : Bool :=
  (sc.kind == .function) && ((sc.names.all fun x => (x.2 != .local || sc.names.lookup x.1 == some .local) && (x.2 != .cell && (x.2 != .free || (c.sc.names.lookup x.1 == some .cell || c.sc.names.lookup x.1 == some .free)))) &&
    nm.all fun p => slots.contains p.2 || (c.names.lookup p.1 == some p.2 && sc.names.lookup p.1 == some .free))
noncomputable def isNm (oc : Bool) (c : Ck) (x : Str) (i : Nat) : Bool := c.names.lookup x == some i && ((c.names.all fun p => p.2 != i || p.1 == x) && (c.sc.names.lookup x == some .local || (oc && c.sc.names.lookup x == some .cell)))
noncomputable def chkNm (oc : Bool) (c : Ck) : List Nat → List PE → Bool
  | [], es => es.isEmpty
  | i :: is, es => oS (dCons es) fun w => oS (dName w.1) fun x => isNm oc c x.1 i && chkNm oc c is w.2
noncomputable def chkNn (c : Ck) : List Nat → List Str → Bool
  | [], es => es.isEmpty
  | i :: is, es => oS (dCons es) fun w => isNm true c w.1 i && chkNn c is w.2
noncomputable def chkTg (oc : Bool) (c : Ck) (tg : Tg) (e : PE) : Bool := match tg with
  | .one i => oS (dName e) fun x => isNm oc c x.1 i
  | .many is => oS (dTup e) fun w => chkNm oc c is w.1
section
variable (P : Prog) (g : Gt)
mutual
noncomputable def chkE : X → Ck → PE → Bool
  | .cst v, c, e => chkCst v e
  | .var i, c, e => oS (dName e) fun w => isVar c w.1 i
  | .glob k, c, e => (P.glob k).isNone || oS (dName e) fun w => g.consts.lookup w.1 == some k && isGlob c w.1
  | .tup xs, c, e => oS (dTup e) fun w => decide (xs.length ≤ 1000) && chkEs xs c w.1
  | .list xs, c, e => oS (dList e) fun w => decide (xs.length ≤ 1000) && chkEs xs c w.1
  | .dict xs, c, e => oS (dDict e) fun w => decide (w.1.length ≤ 15) && chkKv xs c w.1 w.2.1
  | .mut x, c, e => (isF x && plainTest e) && chkE x c e
  | .attr y f, c, e => oS (dAttr e) fun w => (plainBase w.1 && (g.flds.contains w.2.1 && (strOk w.2.1 && encS w.2.1 == f))) && chkE y c w.1
  | .item y i, c, e => oS (dSub e) fun w => notSlice w.2.1 && (chkE y c w.1 && chkE i c w.2.1)
  | .sidx cs i, c, e => oS (dSub e) fun w => oS (dCon w.1) fun k => oS (kStr k.1) fun x => (strOk x && (cs.map strN == x.cps.toList.map fun c => some (encL [c]))) && (notSlice w.2.1 && chkE i c w.2.1)
  | .sl y l h, c, e => oS (dSub e) fun w => oS (dSlice w.2.1) fun s => chkE y c w.1 && (oO s.1 (isN l) (fun e => chkE l c e) && oO s.2.1 (isN h) (fun e => chkE h c e))
  | .bin o a b, c, e => oS (dBin e) fun w => (bopOf o == w.2.1) && (chkE a c w.1 && chkE b c w.2.2.1)
  | .and xs, c, e => oS (dBool e) fun w => (w.1 == .And) && chkEs xs c w.2.1
  | .or xs, c, e => oS (dBool e) fun w => (w.1 == .Or) && chkEs xs c w.2.1
  | .cmp o a b, c, e => oS (dCmp e) fun w => oS (dOne w.2.1) fun op => oS (dOne w.2.2.1) fun r => (op == copOf o && !behindInMarks (copOf o) r) && (chkE a c w.1 && chkE b c r)
  | .ite x y z, c, e => oS (dIte e) fun w => chkE x c w.1 && (chkE y c w.2.1 && chkE z c w.2.2.1)
  | .call f xs, c, e => oS (dCall e) fun w => oS (dName w.1) fun x => (g.fns.lookup x.1 == some f && ((P.fn f).isSome && isGlob c x.1)) && chkEs xs c w.2.1
  | .meth y f xs, c, e => oS (dCall e) fun w => oS (dAttr w.1) fun a => (plainBase a.1 && (a.2.2.endLine == w.2.2.line && (decide (w.2.1.length < 29) && (g.mths.contains a.2.1 && (strOk a.2.1 && encS a.2.1 == f))))) && (chkE y c a.1 && chkEs xs c w.2.1)
  | .new k xs, c, e => oS (dCall e) fun w => oS (dName w.1) fun x => (g.clss.lookup x.1 == some k && isGlob c x.1) && chkEs xs c w.2.1
  | .bi b xs, c, e => bif b.ctorIdx == 5 then oS (dCall e) fun w => oS (dName w.1) fun x => oS (dOne w.2.1) fun a => oS (dCall a) fun v => oS (dName v.1) fun y => (x.1 == ("sorted" : Str) && (isGlob c x.1 && (y.1 == ("set" : Str) && isGlob c y.1))) && (xs.length == 1 && chkEs xs c v.2.1)
    else oS (dCall e) fun w => oS (dName w.1) fun x => (x.1 == (biStr b).1 && isGlob c x.1) && chkEs xs c w.2.1
  | .get y xs, c, e => oS (dCall e) fun w => oS (dAttr w.1) fun a => (a.2.1 == ("get" : Str) && (plainBase a.1 && (a.2.2.endLine == w.2.2.line && decide (w.2.1.length < 29)))) && (chkE y c a.1 && chkEs xs c w.2.1)
  | .comp C, c, e => oS (dComp e) fun w => (cpB c w.2.2.1 (namesC C w.2.1 ++ freeOf c w.2.2.1) C.slots && !w.2.1.isEmpty) && chkC C c ⟨namesC C w.2.1 ++ freeOf c w.2.2.1, relS w.2.2.1 c.sc⟩ w.1 w.2.1
  | .fstr xs, c, e => oS (dJs e) fun w => decide (2 ≤ xs.length) && chkPs xs c w.1
noncomputable def chkEs : List X → Ck → List PE → Bool
  | [], c, es => es.isEmpty
  | x :: xs, c, es => oS (dCons es) fun w => !isStarred w.1 && (chkE x c w.1 && chkEs xs c w.2)
noncomputable def chkPs : List X → Ck → List PE → Bool
  | [], c, es => es.isEmpty
  | x :: xs, c, es => oS (dCons es) fun w => ((oS (dFmt w.1) fun f => f.2.1 == -1 && chkE x c f.1) || oS (dCon w.1) fun k => oS (kStr k.1) fun y => oS (dCst x) fun v => oS (dVs v) fun z => strOk y && encS y == z) && chkPs xs c w.2
noncomputable def chkKv : List X → Ck → List (Option PE) → List PE → Bool
  | [], c, ks, vs => ks.isEmpty && vs.isEmpty
  | x :: xs, c, ks, vs => oS (dCons ks) fun k => match k.1 with
    | some e => chkE x c e && chkKw xs c k.2 vs
    | none => false
noncomputable def chkKw : List X → Ck → List (Option PE) → List PE → Bool
  | [], c, ks, vs => false
  | x :: xs, c, ks, vs => oS (dCons vs) fun v => chkE x c v.1 && chkKv xs c ks v.2
noncomputable def chkC : C → Ck → Ck → PE → List PComp → Bool
  | .elt x, c, c', elt, gens => gens.isEmpty && chkE x c' elt
  | .gen tg src ifs r, c, c', elt, gens => oS (dCons gens) fun w => oS (dGen w.1) fun v => (noSet v.2.1 && (chkTg false c' tg v.1 && r.slots.all fun i => !tg.slots.contains i)) && (chkSrc src c v.1 v.2.1 && (chkEs ifs c' v.2.2 && chkC r c' c' elt w.2))
noncomputable def chkSrc : Src → Ck → PE → PE → Bool
  | .val x, c, t, e => chkE x c e
  | .range x, c, t, e => oS (dCall e) fun w => oS (dName w.1) fun n => oS (dOne w.2.1) fun a => (n.1 == ("range" : Str) && (isGlob c n.1 && !isStarred a)) && chkE x c a
  | .enum x, c, t, e => oS (dTup t) fun _ => oS (dCall e) fun w => oS (dName w.1) fun n => oS (dOne w.2.1) fun a => (n.1 == ("enumerate" : Str) && (isGlob c n.1 && !isStarred a)) && chkE x c a
  | .zip x y, c, t, e => oS (dTup t) fun _ => oS (dCall e) fun w => oS (dName w.1) fun n => oS (dTwo w.2.1) fun a => (n.1 == ("zip" : Str) && (isGlob c n.1 && (!isStarred a.1 && !isStarred a.2))) && (chkE x c a.1 && chkE y c a.2)
  | .items x, c, t, e => oS (dTup t) fun _ => oS (dCall e) fun w => oS (dAttr w.1) fun a => (a.2.1 == ("items" : Str) && (plainBase a.1 && (a.2.2.endLine == w.2.2.line && w.2.1.isEmpty))) && chkE x c a.1
end
end
end
end Mine

namespace Mine
open PySem PySem.W PyProof.Rows
noncomputable def TA (B : Bd) (u : Nat) (c : Ck) (x : X) (e : PE) : Prop := TE B u c x (fun env => eval e env) ∧ TB B u c x (fun env => isTrue e env (eval e env)) ∧ (isF x = true → TF B u c x (fun env => eval e env))
noncomputable def biNames : List (Str × PV) :=
  [("len", .builtin "len"), ("list", .type "list"), ("tuple", .type "tuple"), ("int", .type "int"), ("max", .builtin "max"), ("dict", .type "dict"), ("sorted", .builtin "sorted"), ("set", .type "set"), ("range", .type "range"), ("enumerate", .type "enumerate"), ("zip", .type "zip")]
noncomputable def SsOk (B : Bd) (u : Nat) : Prop := ∀ (g : Gt) (c : Ck) (x : X) (f : PE) (p1 p2 p3 p4 : Pos), Facts B g → BiOk B.D c "sorted" (.builtin "sorted") → BiOk B.D c "set" (.type "set") → isStarred f = false → TEs B u c [x] (fun env => spliced (backTo p3 (starEach [f] env))) → TE B u c (.bi .sortedSet [x]) (fun env => eval (.Call (.Name "sorted" p1) [.Call (.Name "set" p2) [f] [] p3] [] p4) env)
structure Hs (B : Bd) (u : Nat) (g : Gt) : Prop where
  F : Facts B g
  T : TOk B
  hu : 40 ≤ u
  bi : ∀ p ∈ biNames, nsIn B.D.K mainGlobals p.1 = some none ∧ nsIn B.D.K builtinsNs p.1 = some (some p.2)
  so : CallOk B u (.builtin "sorted") .sorted
  ss : SsOk B u
section
variable {B : Bd} {u : Nat} {g : Gt} {c : Ck} {x : X} {e : PE} {xs : List X} {es : List PE}
theorem ta_te (hp : plainTest e = true) (hf : isF x = false) (h : TE B u c x (fun env => eval e env)) : TA B u c x e := ⟨h, tb_te hp h, fun q => absurd (hf.symm.trans q) Bool.false_ne_true⟩
theorem ta_tf (hp : plainTest e = true) (h : TF B u c x (fun env => eval e env)) : TA B u c x e := ⟨h.te, tb_te hp h.te, fun _ => h⟩
theorem and_of {a b : Bool} {Z : Prop} (h : (a && b) = true) (z : a = true → b = true → Z) : Z := z (and_l h) (and_r h)
theorem eq_of {α : Type} [BEq α] [LawfulBEq α] {a b : α} (h : (a == b) = true) : a = b := eq_of_beq h
theorem isGlob_of {y : Str} (h : isGlob c y = true) : c.sc.names.lookup y = some .globalImplicit ∧ (y == ("__debug__" : Str)) = false := ⟨eq_of (and_l h), of_not (and_r h)⟩
theorem Hs.b (H : Hs B u g) {y : Str} {v : PV} (m : (y, v) ∈ biNames) (h : isGlob c y = true) : BiOk B.D c y v := ⟨(H.bi _ m).1, (H.bi _ m).2, (isGlob_of h).1, (isGlob_of h).2⟩
theorem ta_var {y : Str} {i : Nat} {p : Pos} (h : isVar c y i = true) : TA B u c (.var i) (.Name y p) := ta_te rfl rfl (te_var (eq_of (and_l h)) (and_l (and_r h)) (of_not (and_l (and_r (and_r h)))) (of_not (and_r (and_r (and_r h)))))
theorem ta_void {k : Nat} (h : B.P.glob k = none) : TA B u c (.glob k) e := ⟨te_void h, fun G N Q E K H q z => by
  have q : oK (B.P.glob k) _ := q
  rw [h] at q; exact False.elim q, fun q => absurd q Bool.false_ne_true⟩
theorem TA.at {e' : PE} (h : e = e') (a : TA B u c x e') : TA B u c x e := h ▸ a
theorem ta_cst {v : V} (h : chkCst v e = true) : TA B u c (.cst v) e := by
  cases v with
  | none => exact oS_el (o := dCon e) h fun w he h => oS_el h fun _ hk _ => TA.at (he.trans (congrArg (PySem.Expr.Constant · _ _) hk)) (ta_te rfl rfl te_none)
  | bool b => exact oS_el (o := dCon e) h fun w he h => oS_el h fun d hk h => TA.at (he.trans (congrArg (PySem.Expr.Constant · _ _) hk)) (eq_of h ▸ ta_te rfl rfl te_bool)
  | int i =>
    rcases Bool.or_eq_true_iff.mp h with h | h
    · exact oS_el (o := dCon e) h fun w he h => oS_el h fun d hk h => by
        rw [he, hk, of_decide_eq_true h]; exact ta_te rfl rfl te_int
    · exact oS_el (o := dNeg e) h fun w he h => oS_el (and_r h) fun k hf h2 => oS_el h2 fun d hk h2 => by
        rw [he, eq_of (and_l h), hf, hk, of_decide_eq_true h2]; exact ⟨te_neg, fun e y Q E K H q z => False.elim q, fun q => absurd q Bool.false_ne_true⟩
  | str z => exact oS_el (o := dCon e) h fun w he h => oS_el h fun d hk h => TA.at (he.trans (congrArg (PySem.Expr.Constant · _ _) hk)) (ta_te rfl rfl (te_str (and_l h) (eq_of (and_r h))))
  | _ => exact absurd h Bool.false_ne_true
theorem All2.imp {α β : Type} {R S : α → β → Prop} (h : ∀ a b, R a b → S a b) {l : List α} {k : List β} (x : All2 R l k) : All2 S l k := by
  induction x with
  | nil => exact .nil
  | cons a _ ih => exact .cons (h _ _ a) ih
noncomputable def TAs (B : Bd) (u : Nat) (c : Ck) (xs : List X) (es : List PE) : Prop := All2 (TA B u c) xs es ∧ es.all (fun e => !isStarred e) = true
theorem TAs.tes (h : TAs B u c xs es) (p : Pos) : TEs B u c xs (fun env => spliced (backTo p (starEach es env))) := by
  obtain ⟨h, hs⟩ := h
  induction h with
  | nil => exact tes_nil
  | cons a _ ih => exact tes_cons (of_not (and_l hs)) a.1 (ih (and_r hs))
theorem strs_of {f : Nat → Nat} : ∀ {cs : List V} {l : List Nat}, cs.map strN = l.map (fun c => some (f c)) → cs = l.map fun c => V.str (f c)
  | [], [], _ => rfl
  | [], _ :: _, h => nomatch h
  | _ :: _, [], h => nomatch h
  | v :: cs, c :: l, h => by
    have h := List.cons.inj h
    rw [strs_of h.2, show v = .str (f c) by
      have h1 := h.1
      cases v <;> first | exact congrArg V.str (Option.some.inj h1) | exact nomatch h1]; rfl
theorem isN_of (h : isN x = true) : x = .cst .none := oS_el h fun v hx h => oS_el h fun _ hv _ => hx.trans (congrArg X.cst hv)
theorem noSet_of (h : noSet e = true) (env : PEnv) (v : PV) : foldedSetIterable e env v = pure v := by
  cases e <;> first | rfl | exact absurd h Bool.false_ne_true
theorem isNm_of {oc : Bool} {y : Str} {i : Nat} (h : isNm oc c y i = true) : Nm oc c y i :=
  ⟨eq_of (and_l h), fun z hz => (Bool.or_eq_true_iff.mp (List.all_eq_true.mp (and_l (and_r h)) _ (mem_of_lookup hz))).elim (fun e => absurd rfl (bne_iff_ne.mp e)) eq_of, (Bool.or_eq_true_iff.mp (and_r (and_r h))).imp eq_of fun e => ⟨and_l e, eq_of (and_r e)⟩⟩
theorem chkNm_of {oc : Bool} : ∀ {is : List Nat} {es : List PE}, chkNm oc c is es = true → NmS oc c is es
  | [], es, h => by rw [List.isEmpty_iff.mp h]; exact .nil
  | i :: is, es, h => oS_el (o := dCons es) h fun w he h => oS_el h fun y hy h => by rw [he, hy]; exact .cons (isNm_of (and_l h)) (chkNm_of (and_r h))
theorem chkNn_of : ∀ {is : List Nat} {es : List Str}, chkNn c is es = true → NmN c is es
  | [], es, h => by rw [List.isEmpty_iff.mp h]; exact .nil
  | i :: is, es, h => oS_el (o := dCons es) h fun w he h => by rw [he]; exact .cons (isNm_of (and_l h)) (chkNn_of (and_r h))
theorem chkTg_of {oc : Bool} {tg : Tg} (h : chkTg oc c tg e = true) : TgOk oc c tg e := by
  cases tg with
  | one i => exact oS_el (o := dName e) h fun y he h => he ▸ .one (isNm_of h)
  | many is => exact oS_el (o := dTup e) h fun w he h => he ▸ .many (chkNm_of h)
theorem cpB_of {sc : Scope} {nm : List (Str × Nat)} {sl : List Nat} (h : cpB c sc nm sl = true) : CpOk c sc nm sl := by
  have h2 := List.all_eq_true.mp (and_l (and_r h))
  have key : ∀ {p : NameKind × Str} {k : NameKind} {b : Bool}, (p.1 != k || b) = true → p.1 = k → b = true := fun {p k b} h e => (Bool.or_eq_true_iff.mp h).elim (fun n => absurd e (bne_iff_ne.mp n)) id
  refine ⟨eq_of (and_l h), fun x hx e => eq_of (key (p := (x.2, x.1)) (and_l (h2 x hx)) e), fun x hx => bne_iff_ne.mp (and_l (and_r (h2 x hx))), fun x hx e => (Bool.or_eq_true_iff.mp (key (p := (x.2, x.1)) (and_r (and_r (h2 x hx))) e)).imp eq_of eq_of, fun x i e => ?_⟩
  exact (Bool.or_eq_true_iff.mp (List.all_eq_true.mp (and_r (and_r h)) _ (mem_of_lookup e))).imp (fun e => List.contains_iff_mem.mp e) fun e => ⟨eq_of (and_l e), eq_of (and_r e)⟩
noncomputable def Cl (B : Bd) (u : Nat) (c c' : Ck) (x : C) (elt : PE) (gens : List PComp) : Prop := match x with
  | .elt x => gens = [] ∧ TE B u c' x (fun env => eval elt env)
  | .gen tg src ifs r => ∃ target iter ifsE rest, gens = ⟨target, iter, ifsE, 0⟩ :: rest ∧ TSr B u c target src iter ∧ (∀ env x, foldedSetIterable iter env x = pure x) ∧ LoopSt B u c' tg ifs r target elt ifsE rest
theorem Cl.bd {x : C} {elt : PE} {gens : List PComp} (h : Cl B u c c x elt gens) : BdOk B u c x elt gens := by
  cases x with
  | elt y => rw [h.1]; exact bd_elt h.2
  | gen tg src ifs r => obtain ⟨target, iter, ifsE, rest, rfl, h1, h2, h3⟩ := h; exact bd_gen h1 h2 h3
end
end Mine

namespace Mine
open PySem PySem.W PyProof.Rows
section
variable {B : Bd} {u : Nat} {g : Gt}
theorem u30 {P : Prop} {u : Nat} (h : 40 ≤ u) (z : 30 ≤ u → P) : P := z (Nat.le_trans (by decide) h)
theorem snd_bi (h : Hs B u g) {c : Ck} {b : Bi} {xs : List X} {es : List PE} {np pos : Pos} (hn : (b.ctorIdx == 5) = false) (k1 : isGlob c (biStr b).1 = true) (r : TAs B u c xs es) : TA B u c (.bi b xs) (.Call (.Name (biStr b).1 np) es [] pos) := by
  cases b with
  | len => exact ta_te rfl rfl (te_bi h.F (h.b (by decide +kernel) k1) rfl r.2 (r.tes _) ok_len)
  | list => exact ta_tf rfl (tf_bi h.F (h.b (by decide +kernel) k1) rfl r.2 (r.tes _) cf_list)
  | tuple => exact ta_te rfl rfl (te_bi h.F (h.b (by decide +kernel) k1) rfl r.2 (r.tes _) ok_tuple)
  | dict => exact ta_tf rfl (tf_bi h.F (h.b (by decide +kernel) k1) rfl r.2 (r.tes _) cf_dict)
  | sorted => exact ta_te rfl rfl (te_bi h.F (h.b (by decide +kernel) k1) rfl r.2 (r.tes _) h.so)
  | sortedSet => exact nomatch hn
  | int => exact ta_te rfl rfl (te_bi h.F (h.b (by decide +kernel) k1) rfl r.2 (r.tes _) ok_int)
  | max => exact ta_te rfl rfl (te_bi h.F (h.b (by decide +kernel) k1) rfl r.2 (r.tes _) ok_max)
theorem snd_ss (h : Hs B u g) {c : Ck} {xs : List X} {es : List PE} {p1 p2 p3 p4 : Pos} (k1 : isGlob c "sorted" = true) (k2 : isGlob c "set" = true) (hl : (xs.length == 1) = true) (r : TAs B u c xs es) : TA B u c (.bi .sortedSet xs) (.Call (.Name "sorted" p1) [.Call (.Name "set" p2) es [] p3] [] p4) := by
  have ts := r.tes p3
  obtain ⟨r, hs⟩ := r
  cases r with
  | nil => exact nomatch hl
  | cons t r => cases r with
    | nil => exact ta_te rfl rfl (h.ss g _ _ _ _ _ _ _ h.F (h.b (by decide +kernel) k1) (h.b (by decide +kernel) k2) (of_not (and_l hs)) ts)
    | cons _ _ => exact nomatch hl
theorem fstr_of {c : Ck} {xs : List X} {es : List PE} {p : Pos} (hl : decide (2 ≤ xs.length) = true) (r : All2 (TP B u c) xs es) : TE B u c (.fstr xs) (fun env => eval (.JoinedStr es p) env) := by
  cases r with
  | nil => exact nomatch hl
  | cons a r => cases r with
    | nil => exact nomatch hl
    | cons b r => exact te_fstr a b r
theorem cl_comp {c : Ck} {C : C} {elt : PE} {gens : List PComp} {sc : Scope} {p : Pos} {nm : List (Str × Nat)} (K0 : CpOk c sc nm C.slots) (hg : (!gens.isEmpty) = true) (r : Cl B u c ⟨nm, relS sc c.sc⟩ C elt gens) : TA B u c (.comp C) (.ListComp elt gens sc p) := by
  cases C with
  | elt x => rw [r.1] at hg; exact absurd hg Bool.false_ne_true
  | gen tg src ifs r' => obtain ⟨target, iter, ifsE, rest, e, h1, h2, h3⟩ := r; exact e ▸ ta_tf rfl (tf_comp K0 h1 h2 h3)
mutual
theorem sndE (h : Hs B u g) : ∀ (x : X) (c : Ck) (e : PE), chkE B.P g x c e = true → TA B u c x e
  | .cst v, c, e, k => ta_cst k
  | .var i, c, e, k => oS_el (o := dName e) k fun w he k => he ▸ ta_var k
  | .glob i, c, e, k => (Bool.or_eq_true_iff.mp k).elim (fun k => ta_void (Option.isNone_iff_eq_none.mp k)) fun k => oS_el (o := dName e) k fun w he k => he ▸ ta_te rfl rfl (te_glob h.F (eq_of (and_l k)) (isGlob_of (and_r k)).1 (isGlob_of (and_r k)).2)
  | .tup xs, c, e, k => oS_el (o := dTup e) k fun w he k => he ▸ ta_te rfl rfl (te_tup (of_decide_eq_true (and_l k)) ((sndEs h xs c w.1 (and_r k)).tes _))
  | .list xs, c, e, k => oS_el (o := dList e) k fun w he k => he ▸ ta_tf rfl (tf_list (of_decide_eq_true (and_l k)) ((sndEs h xs c w.1 (and_r k)).tes _))
  | .dict xs, c, e, k => oS_el (o := dDict e) k fun w he k => he ▸ ta_tf rfl (tf_dict (sndKv h xs c w.1 w.2.1 (and_r k)) (of_decide_eq_true (and_l k)))
  | .mut x, c, e, k => have t := te_mut ((sndE h x c e (and_r k)).2.2 (and_l (and_l k)))
    ⟨t, tb_te (and_r (and_l k)) t, fun q => absurd q Bool.false_ne_true⟩
  | .attr y f, c, e, k => oS_el (o := dAttr e) k fun w he k => he ▸ ta_te rfl rfl (te_attr h.F (and_l (and_l k)) (List.contains_iff_mem.mp (and_l (and_r (and_l k)))) (and_l (and_r (and_r (and_l k)))) (eq_of (and_r (and_r (and_r (and_l k))))) (sndE h y c w.1 (and_r k)).1)
  | .item y i, c, e, k => oS_el (o := dSub e) k fun w he k => he ▸ ta_te rfl rfl (te_item (and_l k) (sndE h y c w.1 (and_l (and_r k))).1 (sndE h i c w.2.1 (and_r (and_r k))).1)
  | .sidx cs i, c, e, k => oS_el (o := dSub e) k fun w he k => oS_el k fun w2 ho k => oS_el k fun x hx k => by
    rw [he, ho, hx]
    exact ta_te rfl rfl (te_sidx (and_l (and_l k)) (strs_of (eq_of (and_r (and_l k)))) (and_l (and_r k)) (sndE h i c w.2.1 (and_r (and_r k))).1)
  | .sl y l r, c, e, k => oS_el (o := dSub e) k fun w he k => oS_el k fun s hs k => by
    have to : ∀ (x : X) (o : Option PE), (∀ e, chkE B.P g x c e = true → TA B u c x e) → oO o (isN x) (fun e => chkE B.P g x c e) = true → TO B u c x o := fun x o f k => match o, k with
      | some e, k => (f e k).1
      | none, k => isN_of k
    rw [he, hs]
    exact ta_te rfl rfl (te_sl (sndE h y c w.1 (and_l k)).1 (to l s.1 (fun e => sndE h l c e) (and_l (and_r k))) (to r s.2.1 (fun e => sndE h r c e) (and_r (and_r k))))
  | .bin o a b, c, e, k => oS_el (o := dBin e) k fun w he k => by
    rw [he, ← eq_of (and_l k)]
    exact ta_te rfl rfl (te_bin (sndE h a c w.1 (and_l (and_r k))).1 (sndE h b c w.2.2.1 (and_r (and_r k))).1)
  | .and xs, c, e, k => oS_el (o := dBool e) k fun w he k => by
    have r := (sndEs h xs c w.2.1 (and_r k)).1
    rw [he, eq_of (and_l k)]
    exact ⟨te_and (r.imp fun a b h => h.1), tb_and (r.imp fun a b h => h.2.1), fun q => absurd q Bool.false_ne_true⟩
  | .or xs, c, e, k => oS_el (o := dBool e) k fun w he k => by
    have r := (sndEs h xs c w.2.1 (and_r k)).1
    rw [he, eq_of (and_l k)]
    exact ⟨te_or (r.imp fun a b h => h.1), tb_or (r.imp fun a b h => h.2.1), fun q => absurd q Bool.false_ne_true⟩
  | .cmp o a b, c, e, k => oS_el (o := dCmp e) k fun w he k => oS_el k fun op h1 k => oS_el k fun r h2 k => by
    have r1 := (sndE h a c w.1 (and_l (and_r k))).1
    have r2 := (sndE h b c r (and_r (and_r k))).1
    have u3 := Nat.le_trans (by decide : 30 ≤ 40) h.hu
    rw [he, h1, h2, eq_of (and_l (and_l k))]
    exact ⟨te_cmp u3 (of_not (and_r (and_l k))) r1 r2, tb_cmp u3 (of_not (and_r (and_l k))) r1 r2, fun q => absurd q Bool.false_ne_true⟩
  | .ite x y z, c, e, k => oS_el (o := dIte e) k fun w he k =>
    have r1 := sndE h x c w.1 (and_l k)
    have r2 := sndE h y c w.2.1 (and_l (and_r k))
    have r3 := sndE h z c w.2.2.1 (and_r (and_r k))
    he ▸ ⟨te_ite r1.2.1 r2.1 r3.1, TB.ite r1.2.1 r2.2.1 r3.2.1, fun q => absurd q Bool.false_ne_true⟩
  | .call f xs, c, e, k => oS_el (o := dCall e) k fun w he k => oS_el k fun y hq k =>
    have r := sndEs h xs c w.2.1 (and_r k)
    have k1 := and_l k
    TA.at (he.trans (congrArg (PySem.Expr.Call · _ _ _) hq)) (ta_te rfl rfl (te_call h.F h.T (eq_of (and_l k1)) (and_l (and_r k1)) (isGlob_of (and_r (and_r k1))).1 (isGlob_of (and_r (and_r k1))).2 r.2 (r.tes _)))
  | .meth y f xs, c, e, k => oS_el (o := dCall e) k fun w he k => oS_el k fun a hq k =>
    have r := sndEs h xs c w.2.1 (and_r (and_r k))
    have k1 := and_l k
    have k4 := and_r (and_r (and_r k1))
    TA.at (he.trans (congrArg (PySem.Expr.Call · _ _ _) hq)) (ta_te rfl rfl (te_meth h.F h.T (and_l k1) (and_l (and_r k1)) (of_decide_eq_true (and_l (and_r (and_r k1)))) r.2 (List.contains_iff_mem.mp (and_l k4)) (and_l (and_r k4)) (eq_of (and_r (and_r k4))) (sndE h y c a.1 (and_l (and_r k))).1 (r.tes _)))
  | .new i xs, c, e, k => oS_el (o := dCall e) k fun w he k => oS_el k fun y hq k =>
    have r := sndEs h xs c w.2.1 (and_r k)
    have k1 := and_l k
    TA.at (he.trans (congrArg (PySem.Expr.Call · _ _ _) hq)) (ta_te rfl rfl (te_new h.F h.T h.hu (eq_of (and_l k1)) (isGlob_of (and_r k1)).1 (isGlob_of (and_r k1)).2 r.2 (r.tes _)))
  | .bi b xs, c, e, k => by
    cases hb : b.ctorIdx == 5 with
    | true =>
      replace k : (bif b.ctorIdx == 5 then _ else _) = true := k
      rw [hb] at k
      exact oS_el (o := dCall e) k fun w he k => oS_el k fun y hq k => oS_el k fun a ha k => oS_el k fun v hv k => oS_el k fun y2 hq2 k => by
        have k1 := and_l k
        rw [he, hq, ha, hv, hq2, eq_of (and_l k1), eq_of (and_l (and_r (and_r k1))), show b = .sortedSet by cases b <;> first | rfl | exact nomatch hb]
        rw [eq_of (and_l k1), eq_of (and_l (and_r (and_r k1)))] at k1
        exact snd_ss h (and_l (and_r k1)) (and_r (and_r (and_r k1))) (and_l (and_r k)) (sndEs h xs c v.2.1 (and_r (and_r k)))
    | false =>
      replace k : (bif b.ctorIdx == 5 then _ else _) = true := k
      rw [hb] at k
      exact oS_el (o := dCall e) k fun w he k => oS_el k fun y hq k => by
        have k1 := and_r (and_l k)
        rw [eq_of (and_l (and_l k))] at k1
        rw [he, hq, eq_of (and_l (and_l k))]
        exact snd_bi h hb k1 (sndEs h xs c w.2.1 (and_r k))
  | .get y xs, c, e, k => oS_el (o := dCall e) k fun w he k => oS_el k fun a hq k => by
    have k1 := and_l k
    have r := sndEs h xs c w.2.1 (and_r (and_r k))
    rw [he, hq, eq_of (and_l k1)]
    exact ta_te rfl rfl (te_get (and_l (and_r k1)) (and_l (and_r (and_r k1))) (of_decide_eq_true (and_r (and_r (and_r k1)))) r.2 (sndE h y c a.1 (and_l (and_r k))).1 (r.tes _))
  | .comp C, c, e, k => oS_el (o := dComp e) k fun w he k => he ▸ cl_comp (cpB_of (and_l (and_l k))) (and_r (and_l k)) (sndC h C c _ w.1 w.2.1 (and_r k))
  | .fstr xs, c, e, k => oS_el (o := dJs e) k fun w he k => he ▸ ta_te rfl rfl (fstr_of (and_l k) (sndPs h xs c w.1 (and_r k)))
theorem sndEs (h : Hs B u g) : ∀ (xs : List X) (c : Ck) (es : List PE), chkEs B.P g xs c es = true → TAs B u c xs es
  | [], c, es, k => List.isEmpty_iff.mp k ▸ ⟨.nil, rfl⟩
  | x :: xs, c, es, k => oS_el (o := dCons es) k fun w he k =>
    have r := sndEs h xs c w.2 (and_r (and_r k))
    he ▸ ⟨.cons (sndE h x c w.1 (and_l (and_r k))) r.1, (congrArg (· && _) (and_l k)).trans r.2⟩
theorem sndPs (h : Hs B u g) : ∀ (xs : List X) (c : Ck) (es : List PE), chkPs B.P g xs c es = true → All2 (TP B u c) xs es
  | [], c, es, k => List.isEmpty_iff.mp k ▸ .nil
  | x :: xs, c, es, k => oS_el (o := dCons es) k fun w he k =>
    have r := sndPs h xs c w.2 (and_r k)
    he ▸ .cons ((Bool.or_eq_true_iff.mp (and_l k)).elim (fun k => oS_el k fun f hf k => by
      rw [hf, eq_of (and_l k)]; exact tp_fmt (sndE h x c f.1 (and_r k)).1) fun k => oS_el k fun q hq k => oS_el k fun y hy k => oS_el k fun v hv k => oS_el k fun z hz k => by
      rw [hq, hy, hv, hz]; exact tp_cst (and_l k) (eq_of (and_r k))) r
theorem sndKv (h : Hs B u g) : ∀ (xs : List X) (c : Ck) (ks : List (Option PE)) (vs : List PE), chkKv B.P g xs c ks vs = true → Kv B u c xs ks vs
  | [], c, ks, vs, k => List.isEmpty_iff.mp (and_l k) ▸ List.isEmpty_iff.mp (and_r k) ▸ .nil
  | [x], c, ks, vs, k => oS_el (o := dCons ks) k fun w he k => match w.1, k with
    | some e, k => absurd (and_r k) Bool.false_ne_true
    | none, k => absurd k Bool.false_ne_true
  | x :: y :: xs, c, ks, vs, k => oS_el (o := dCons ks) k fun w he k => he ▸ match w.1, k with
    | some e, k => oS_el (o := dCons vs) (and_r k) fun v hv k2 => hv ▸ .cons (sndE h x c e (and_l k)).1 (sndE h y c v.1 (and_l k2)).1 (sndKv h xs c w.2 v.2 (and_r k2))
    | none, k => absurd k Bool.false_ne_true
theorem sndC (h : Hs B u g) : ∀ (x : C) (c c' : Ck) (elt : PE) (gens : List PComp), chkC B.P g x c c' elt gens = true → Cl B u c c' x elt gens
  | .elt x, c, c', elt, gens, k => ⟨List.isEmpty_iff.mp (and_l k), (sndE h x c' elt (and_r k)).1⟩
  | .gen tg src ifs r, c, c', elt, gens, k => oS_el (o := dCons gens) k fun w hg k => oS_el k fun v h1 k =>
    have k1 := and_l k
    have k2 := and_r k
    ⟨v.1, v.2.1, v.2.2, w.2, hg.trans (congrArg (· :: w.2) h1), sndSrc h src c v.1 v.2.1 (and_l k2), noSet_of (and_l k1), loop_ok (chkTg_of (and_l (and_r k1))) ((sndEs h ifs c' v.2.2 (and_l (and_r k2))).1.imp fun a b h => h.2.1)
      (fun i hi m => absurd (List.contains_iff_mem.mpr m) (by rw [of_not (List.all_eq_true.mp (and_r (and_r k1)) i hi)]; exact Bool.false_ne_true)) (sndC h r c' c' elt w.2 (and_r (and_r k2))).bd⟩
theorem sndSrc (h : Hs B u g) : ∀ (x : Src) (c : Ck) (t e : PE), chkSrc B.P g x c t e = true → TSr B u c t x e
  | .val x, c, t, e, k => tsr_val (sndE h x c e k).1
  | .range x, c, t, e, k => oS_el (o := dCall e) k fun w he k => oS_el k fun y hq k => oS_el k fun a ha k => by
    have k1 := and_l k
    have hs := of_not (and_r (and_r k1))
    have hb := and_l (and_r k1)
    rw [eq_of (and_l k1)] at hb
    rw [he, hq, ha, eq_of (and_l k1)]
    exact tsr_range h.F (h.b (by decide +kernel) hb) hs (tes_cons hs (sndE h x c a (and_r k)).1 tes_nil)
  | .enum x, c, t, e, k => oS_el (o := dTup t) k fun tt ht k => oS_el (o := dCall e) k fun w he k => oS_el k fun y hq k => oS_el k fun a ha k => by
    have k1 := and_l k
    have hs := of_not (and_r (and_r k1))
    have hb := and_l (and_r k1)
    rw [eq_of (and_l k1)] at hb
    rw [ht, he, hq, ha, eq_of (and_l k1)]
    exact tsr_enum h.F (h.b (by decide +kernel) hb) hs (tes_cons hs (sndE h x c a (and_r k)).1 tes_nil)
  | .zip x y, c, t, e, k => oS_el (o := dTup t) k fun tt ht k => oS_el (o := dCall e) k fun w he k => oS_el k fun n hq k => oS_el k fun a ha k => by
    have k1 := and_l k
    have hs := and_r (and_r k1)
    have hb := and_l (and_r k1)
    rw [eq_of (and_l k1)] at hb
    rw [ht, he, hq, ha, eq_of (and_l k1)]
    exact tsr_zip h.F (h.b (by decide +kernel) hb) (of_not (and_l hs)) (of_not (and_r hs)) (tes_cons (of_not (and_l hs)) (sndE h x c a.1 (and_l (and_r k))).1 (tes_cons (of_not (and_r hs)) (sndE h y c a.2 (and_r (and_r k))).1 tes_nil))
  | .items x, c, t, e, k => oS_el (o := dTup t) k fun tt ht k => oS_el (o := dCall e) k fun w he k => oS_el k fun a hq k => by
    have k1 := and_l k
    rw [ht, he, hq, eq_of (and_l k1), List.isEmpty_iff.mp (and_r (and_r (and_r k1)))]
    exact tsr_items (and_l (and_r k1)) (and_l (and_r (and_r k1))) (sndE h x c a.1 (and_r k)).1
end
end
end Mine

namespace Mine
open PySem PySem.W PyProof.Rows
noncomputable section
noncomputable def dRet (s : Stmt) : Option { w : PE × Pos // s = .Return (some w.1) w.2 } := if h : s.ctorIdx = 3 then PySem.Stmt.Return.elim (motive_2 := fun s => Option { w : PE × Pos // s = .Return (some w.1) w.2 }) s h (fun e p => match e with | some e => some ⟨(e, p), rfl⟩ | none => none) else none
noncomputable def dExp (s : Stmt) : Option { w : PE × Pos // s = .Expr w.1 w.2 } := if h : s.ctorIdx = 24 then PySem.Stmt.Expr.elim (motive_2 := fun s => Option { w : PE × Pos // s = .Expr w.1 w.2 }) s h (fun e p => some ⟨(e, p), rfl⟩) else none
noncomputable def dSIf (s : Stmt) : Option { w : PE × List Stmt × List Stmt × Pos // s = .If w.1 w.2.1 w.2.2.1 w.2.2.2 } := if h : s.ctorIdx = 12 then PySem.Stmt.If.elim (motive_2 := fun s => Option { w : PE × List Stmt × List Stmt × Pos // s = .If w.1 w.2.1 w.2.2.1 w.2.2.2 }) s h (fun e a b p => some ⟨(e, a, b, p), rfl⟩) else none
noncomputable def dWhi (s : Stmt) : Option { w : PE × List Stmt × List Stmt × Pos // s = .While w.1 w.2.1 w.2.2.1 w.2.2.2 } := if h : s.ctorIdx = 11 then PySem.Stmt.While.elim (motive_2 := fun s => Option { w : PE × List Stmt × List Stmt × Pos // s = .While w.1 w.2.1 w.2.2.1 w.2.2.2 }) s h (fun e a b p => some ⟨(e, a, b, p), rfl⟩) else none
noncomputable def dFor (s : Stmt) : Option { w : PE × PE × List Stmt × List Stmt × Pos // s = .For w.1 w.2.1 w.2.2.1 w.2.2.2.1 w.2.2.2.2 } := if h : s.ctorIdx = 9 then PySem.Stmt.For.elim (motive_2 := fun s => Option { w : PE × PE × List Stmt × List Stmt × Pos // s = .For w.1 w.2.1 w.2.2.1 w.2.2.2.1 w.2.2.2.2 }) s h (fun t i a b p => some ⟨(t, i, a, b, p), rfl⟩) else none
noncomputable def dAsg (s : Stmt) : Option { w : List PE × PE × Pos // s = .Assign w.1 w.2.1 w.2.2 } := if h : s.ctorIdx = 5 then PySem.Stmt.Assign.elim (motive_2 := fun s => Option { w : List PE × PE × Pos // s = .Assign w.1 w.2.1 w.2.2 }) s h (fun t e p => some ⟨(t, e, p), rfl⟩) else none
noncomputable def dX (x : X) : Option { C : C // x = .comp C } := if h : x.ctorIdx = 21 then X.comp.elim (motive_1 := fun x => Option { C : C // x = .comp C }) x h (fun C => some ⟨C, rfl⟩) else none
noncomputable def dXm (x : X) : Option { C : C // x = .mut (.comp C) } := if h : x.ctorIdx = 6 then X.mut.elim (motive_1 := fun x => Option { C : C // x = .mut (.comp C) }) x h (fun y => match dX y with | some C => some ⟨C.1, congrArg X.mut C.2⟩ | none => none) else none
noncomputable def asPure {α : Type} (m : Sem α) : Option { a : α // m = .pure a } := if h : m.ctorIdx = 0 then PySem.Sem.pure.elim (motive := fun m => Option { a : α // m = .pure a }) m h (fun a => some ⟨a, rfl⟩) else none
noncomputable def env0 (c : Ck) : PEnv := { scope := c.sc, locals := 0, globals := 0, cells := [], qual := "", func := none, code := .none, frame := none, builtins := 0 }
noncomputable def swB (c : Ck) (e : PE) (t : Option PE) (l : Nat) (r : Bool) : Bool := oS (asPure (swapsWith e t l (env0 c))) fun b => b == r
noncomputable def mthN : Mth → Str
  | .app => "append"
  | .ext => "extend"
  | .upd => "update"
  | .rem => "remove"
section
variable (P : Prog) (g : Gt)
noncomputable def chkA (c : Ck) (x : X) (ts : List PE) (e : PE) (l : Nat) (t : Tgt) : Bool := chkE P g x c e && oS (dOne ts) fun t0 => match t with
  | .name i => oS (dName t0) fun y => isNm true c y.1 i && (swB c e (some t0) l false || (((dX x).isSome || (dXm x).isSome) && swB c e (some t0) l true))
  | .attr o f => oS (dAttr t0) fun a => ((g.flds.contains a.2.1 && (strOk a.2.1 && encS a.2.1 == f)) && swB c e (some t0) l false) && chkE P g o c a.1
  | .item o k => oS (dSub t0) fun a => swB c e (some t0) l false && (chkE P g o c a.1 && chkE P g k c a.2.1)
mutual
noncomputable def chkS : S → Ck → Stmt → Bool
  | .raise, c, s => true
  | .ret x, c, s => oS (dRet s) fun w => chkE P g x c w.1
  | .expr x, c, s => oS (dExp s) fun w => swB c w.1 none w.2.line false && chkE P g x c w.1
  | .ite x a b, c, s => oS (dSIf s) fun w => chkE P g x c w.1 && (chkSs a c w.2.1 && chkSs b c w.2.2.1)
  | .while_ x b, c, s => oS (dWhi s) fun w => w.2.2.1.isEmpty && (chkE P g x c w.1 && chkSs b c w.2.1)
  | .for_ tg src b, c, s => oS (dFor s) fun w => (w.2.2.2.1.isEmpty && (noSet w.2.1 && chkTg true c tg w.1)) && (chkSrc P g src c w.1 w.2.1 && chkSs b c w.2.2.1)
  | .mth m o x, c, s => oS (dExp s) fun w => oS (dCall w.1) fun v => oS (dAttr v.1) fun a => oS (dOne v.2.1) fun e => (a.2.1 == mthN m && (plainBase a.1 && (a.2.2.endLine == v.2.2.line && !isStarred e))) && (chkE P g o c a.1 && chkE P g x c e)
  | .asgT is x, c, s => oS (dAsg s) fun w => oS (dOne w.1) fun t => oS (dTup t) fun es => (chkNm true c is es.1 && (swB c w.2.1 (some t) w.2.2.line false && oS (asPure (swappedStores [t] w.2.1 (env0 c))) fun r => r == none)) && chkE P g x c w.2.1
  | .asgTs b is xs, c, s => oS (dAsg s) fun w => oS (dOne w.1) fun t => oS (dTup t) fun es => oS (dTup w.2.1) fun vs => (decide (xs.length ≤ 1000) && (swB c w.2.1 (some t) w.2.2.line false && oS (asPure (swappedStores [t] w.2.1 (env0 c))) fun r => match b with
      | false => r == none && chkNm true c is es.1
      | true => oB r fun ns => chkNn c is.reverse ns.reverse)) && chkEs P g xs c vs.1
  | .asg t x, c, s => oS (dAsg s) fun w => chkA P g c x w.1 w.2.1 w.2.2.line t
noncomputable def chkSs : List S → Ck → List Stmt → Bool
  | [], c, l => l.isEmpty
  | s :: ss, c, l => oS (dCons l) fun w => chkS s c w.1 && chkSs ss c w.2
end
end
end
theorem sw_of {c : Ck} {e : PE} {t : Option PE} {l : Nat} {r : Bool} (h : swB c e t l r = true) (env : PEnv) (he : env.scope = c.sc) : swapsWith e t l env = pure r := oS_el h fun a w k => by
  rw [← eq_of k]
  refine Eq.trans ?_ w
  unfold swapsWith Env.blockKind Env.kindOf
  rw [he]; rfl
theorem ss_of {c : Ck} {ts : List PE} {e : PE} {r : Option (List Str)} (h : swappedStores ts e (env0 c) = .pure r) (env : PEnv) (he : env.scope = c.sc) : swappedStores ts e env = pure r := by
  refine Eq.trans ?_ h
  unfold swappedStores Env.blockKind Env.kindOf
  rw [he]; rfl
section
variable {B : Bd} {u : Nat} {g : Gt} {c : Ck}
theorem snd_comp (h : Hs B u g) {C : C} {e : PE} (k : chkE B.P g (.comp C) c e = true) : ∃ (elt : PE) (sc : Scope) (p : Pos) (tg : Tg) (src : Src) (ifs : List X) (r : Mine.C) (target iter : PE) (ifsE : List PE) (rest : List PComp) (nm : List (Str × Nat)),
    e = .ListComp elt (⟨target, iter, ifsE, 0⟩ :: rest) sc p ∧ C = .gen tg src ifs r ∧ CpOk c sc nm (tg.slots ++ r.slots) ∧ TSr B u c target src iter ∧ (∀ env x, foldedSetIterable iter env x = pure x) ∧ LoopSt B u ⟨nm, relS sc c.sc⟩ tg ifs r target elt ifsE rest := by
  obtain ⟨⟨elt, gens, sc, p⟩, he, k⟩ := oS_of (o := dComp e) k
  have r := sndC h C c _ elt gens (and_r k)
  have K0 := cpB_of (and_l (and_l k))
  cases C with
  | elt x => exact nomatch r.1 ▸ and_r (and_l k)
  | gen tg src ifs r' => obtain ⟨target, iter, ifsE, rest, rfl, h1, h2, h3⟩ := r; exact ⟨elt, sc, p, tg, src, ifs, r', target, iter, ifsE, rest, _, he, rfl, K0, h1, h2, h3⟩
theorem sndA (h : Hs B u g) {x : X} {ts : List PE} {e : PE} {pos : Pos} {t : Tgt} (k : chkA B.P g c x ts e pos.line t = true) : TS B u c (.asg t x) (fun env => exec (.Assign ts e pos) env) := by
  have ke := and_l k
  obtain ⟨t0, h0, k⟩ := oS_of (and_r k)
  rw [show ts = [t0] from h0]
  cases t with
  | name i =>
    obtain ⟨y, hy, k⟩ := oS_of k
    have hn := isNm_of (and_l k)
    rcases Bool.or_eq_true_iff.mp (and_r k) with k3 | k3
    · rw [show t0 = .Name y.1 y.2 from hy] at k3 ⊢
      exact ts_name hn (sndE h x c e ke).1 (sw_of k3)
    · have k4 := and_r k3
      have go : ∀ C, chkE B.P g (.comp C) c e = true → TS B u c (.asg (.name i) (.comp C)) (fun env => exec (.Assign [t0] e pos) env) ∧ TS B u c (.asg (.name i) (.mut (.comp C))) (fun env => exec (.Assign [t0] e pos) env) := fun C k => by
        obtain ⟨elt, sc, p, tg, src, ifs, r, target, iter, ifsE, rest, nm, h1, h2, h3, h4, h5, h6⟩ := snd_comp h k
        rw [show t0 = .Name y.1 y.2 from hy, h1] at k4
        rw [show t0 = .Name y.1 y.2 from hy, h1, h2]
        exact ts_nameC hn h3 h4 h5 h6 (sw_of k4)
      rcases Bool.or_eq_true_iff.mp (and_l k3) with k5 | k5
      · obtain ⟨C, _⟩ := Option.isSome_iff_exists.mp k5
        rw [C.2] at ke ⊢
        exact (go C.1 ke).1
      · obtain ⟨C, _⟩ := Option.isSome_iff_exists.mp k5
        rw [C.2] at ke ⊢
        exact (go C.1 (and_r ke)).2
  | attr o f =>
    obtain ⟨a, ha, k⟩ := oS_of k
    have k1 := and_l (and_l k)
    have k3 := and_r (and_l k)
    rw [show t0 = .Attribute a.1 a.2.1 a.2.2 from ha] at k3 ⊢
    exact ts_attr h.F (List.contains_iff_mem.mp (and_l k1)) (and_l (and_r k1)) (eq_of (and_r (and_r k1))) (sndE h x c e ke).1 (sndE h o c a.1 (and_r k)).1 (sw_of k3)
  | item o j =>
    obtain ⟨a, ha, k⟩ := oS_of k
    have k3 := and_l k
    rw [show t0 = .Subscript a.1 a.2.1 a.2.2 from ha] at k3 ⊢
    exact ts_item (Nat.le_trans (by decide) h.hu) (sndE h x c e ke).1 (sndE h o c a.1 (and_l (and_r k))).1 (sndE h j c a.2.1 (and_r (and_r k))).1 (sw_of k3)
theorem snd_mth (h : Hs B u g) {m : Mth} {y x : X} {o e : PE} {apos cpos pos : Pos} (hb : plainBase o = true) (hl : (apos.endLine == cpos.line) = true) (hst : isStarred e = false) (h1 : TE B u c y (fun env => eval o env)) (h2 : TE B u c x (fun env => eval e env)) :
    TS B u c (.mth m y x) (fun env => exec (.Expr (.Call (.Attribute o (mthN m) apos) [e] [] cpos) pos) env) := by
  cases m with
  | app => exact ts_mth ok_app PySem.F.plainAttrs_list PySem.F.slot_list_append PySem.F.type_list_append hb hl hst h1 h2
  | ext => exact ts_mth ok_ext PySem.F.plainAttrs_list PySem.F.slot_list_extend PySem.F.type_list_extend hb hl hst h1 h2
  | upd => exact ts_mth ok_upd PySem.F.plainAttrs_dict PySem.F.slot_dict_update PySem.F.type_dict_update hb hl hst h1 h2
  | rem => exact ts_mth ok_rem PySem.F.plainAttrs_list PySem.F.slot_list_remove PySem.F.type_list_remove hb hl hst h1 h2
mutual
theorem sndS (h : Hs B u g) : ∀ (x : S) (s : Stmt), chkS B.P g x c s = true → TS B u c x (fun env => exec s env)
  | .raise, s, k => ts_raise
  | .ret x, s, k => oS_el (o := dRet s) k fun w e k => e ▸ ts_ret (sndE h x c w.1 k).1
  | .expr x, s, k => oS_el (o := dExp s) k fun w e k => e ▸ ts_expr (sndE h x c w.1 (and_r k)).1 (sw_of (and_l k))
  | .ite x a b, s, k => oS_el (o := dSIf s) k fun w e k => e ▸ ts_ite (sndE h x c w.1 (and_l k)).2.1 (sndSs h a w.2.1 (and_l (and_r k))) (sndSs h b w.2.2.1 (and_r (and_r k)))
  | .while_ x b, s, k => oS_el (o := dWhi s) k fun w e k => e ▸ List.isEmpty_iff.mp (and_l k) ▸ ts_while (sndE h x c w.1 (and_l (and_r k))).2.1 (sndSs h b w.2.1 (and_r (and_r k)))
  | .for_ tg src b, s, k => oS_el (o := dFor s) k fun w e k => e ▸ List.isEmpty_iff.mp (and_l (and_l k)) ▸ ts_for (sndSrc h src c w.1 w.2.1 (and_l (and_r k))) (noSet_of (and_l (and_r (and_l k)))) (chkTg_of (and_r (and_r (and_l k)))) (sndSs h b w.2.2.1 (and_r (and_r k)))
  | .mth m o x, s, k => oS_el (o := dExp s) k fun w e k => oS_el k fun v e1 k => oS_el k fun a e2 k => oS_el k fun f e3 k => by
    have k1 := and_l k
    rw [e, e1, e2, e3, eq_of (and_l k1)]
    exact snd_mth h (and_l (and_r k1)) (and_l (and_r (and_r k1))) (of_not (and_r (and_r (and_r k1)))) (sndE h o c a.1 (and_l (and_r k))).1 (sndE h x c f (and_r (and_r k))).1
  | .asgT is x, s, k => oS_el (o := dAsg s) k fun w e k => oS_el k fun t e1 k => oS_el k fun es e2 k => oS_el (and_r (and_r (and_l k))) fun r hr k2 => by
    have k1 := and_l (and_r (and_l k))
    rw [e2] at k1 hr
    rw [e, e1, e2]
    exact ts_asgT (chkNm_of (and_l (and_l k))) (sndE h x c w.2.1 (and_r k)).1 (sw_of k1) fun env he => eq_of k2 ▸ ss_of hr env he
  | .asgTs b is xs, s, k => oS_el (o := dAsg s) k fun w e k => oS_el k fun t e1 k => oS_el k fun es e2 k => oS_el k fun vs e3 k => oS_el (and_r (and_r (and_l k))) fun r hr k2 => by
    have k1 := and_l (and_r (and_l k))
    have l := of_decide_eq_true (and_l (and_l k))
    have r' := sndEs h xs c vs.1 (and_r k)
    rw [e2, e3] at k1 hr
    rw [e, e1, e2, e3]
    cases b with
    | false => exact ts_asgTs (names := []) (chkNm_of (and_r k2)) (r'.tes _) l (sw_of k1) fun env he => eq_of (and_l k2) ▸ ss_of hr env he
    | true => cases r with
      | none => exact nomatch k2
      | some ns => exact ts_asgTs (chkNn_of k2) (r'.tes _) l (sw_of k1) fun env he => ss_of hr env he
  | .asg t x, s, k => oS_el (o := dAsg s) k fun w e k => e ▸ sndA h k
theorem sndSs (h : Hs B u g) : ∀ (xs : List S) (l : List Stmt), chkSs B.P g xs c l = true → TSs B u c xs (fun env => execs l env)
  | [], l, k => List.isEmpty_iff.mp k ▸ tss_nil
  | s :: ss, l, k => oS_el (o := dCons l) k fun w e k => e ▸ tss_cons (sndS h s w.1 (and_l k)) (sndSs h ss w.2 (and_r k))
end
end
end Mine

namespace Mine
open PySem PySem.W PyProof.Rows
noncomputable section
noncomputable def oE {α : Type} (o : Option α) : Option { a : α // o = some a } := match o with
  | some a => some ⟨a, rfl⟩
  | none => none
noncomputable def dFun (d : Data) : Option { f : FuncData // d = .func f } := if h : d.ctorIdx = 7 then PySem.Data.func.elim (motive := fun d => Option { f : FuncData // d = .func f }) d h (fun f => some ⟨f, rfl⟩) else none
noncomputable def dSts (b : FuncBody) : Option { l : List Stmt // b = .stmts l } := match b with
  | .stmts l => some ⟨l, rfl⟩
  | _ => none
noncomputable def chkFn (P : Prog) (g : Gt) (names : List (Str × Nat)) (d : FDef) (fd : FuncData) : Bool := oS (dSts fd.body) fun body =>
  (fd.closure.isEmpty && (decide (fd.globals = mainGlobals) && (decide (fd.builtins = builtinsNs) && (!fd.scope.isCoroutine && (!fd.scope.isGenerator && (fd.scope.kind == .function && ((fd.scope.names.all fun x => x.2 != .free) && decide (fd.scope.names.map (·.1)).Nodup))))))) &&
  ((fd.params.posonlyargs.isEmpty && (fd.params.kwonlyargs.isEmpty && (fd.params.vararg.isNone && (fd.params.kwarg.isNone && (decide (fd.defaults = .none) &&
  (decide (fd.params.args.length = d.params) && (decide (fd.params.args.map (·.arg)).Nodup && (((fd.params.args.map (·.arg)).all fun x => fd.scope.names.lookup x == some .local || fd.scope.names.lookup x == some .cell) &&
  (names.all fun q => decide (d.params ≤ q.2) || (fd.params.args.map (·.arg))[q.2]? == some q.1))))))))) && chkSs P g d.body ⟨names, fd.scope⟩ body)
noncomputable def chkAt (P : Prog) (g : Gt) (K : Frag) (names : List (Str × Nat)) (a : Addr) (d : FDef) : Bool := oS (oE (K.lookup a)) fun o => oS (dFun o.data) fun fd => codeIn K fd.code fd.qualname && chkFn P g names d fd
end
theorem lookup_zip {β : Type} : ∀ {ns : List Str} {vs : List β} (n : Str), n ∈ ns → vs.length = ns.length → ((ns.zip vs).lookup n).isSome = true
  | x :: ns, v :: vs, n, h, hl => by
    rw [List.zip_cons_cons, List.lookup_cons]
    cases e : n == x with
    | true => rfl
    | false => exact lookup_zip n ((List.mem_cons.mp h).elim (fun h => absurd h (beq_eq_false_iff_ne.mp e)) id) (Nat.succ.inj hl)
theorem fmap_same {α β : Type} {f g : α → Option β} : ∀ {l : List α}, (∀ x ∈ l, f x = g x) → l.filterMap f = l.filterMap g
  | [], _ => rfl
  | x :: l, h => by rw [List.filterMap_cons, List.filterMap_cons, h x (List.mem_cons_self ..), fmap_same fun y hy => h y (List.mem_cons_of_mem _ hy)]
theorem zip_lookup {β : Type} : ∀ {ns : List Str} {vs : List β}, ns.Nodup → vs.length = ns.length → (ns.filterMap fun n => ((ns.zip vs).lookup n).map (n, ·)) = ns.zip vs
  | [], [], _, _ => rfl
  | x :: ns, v :: vs, hn, hl => by
    have hn := List.nodup_cons.mp hn
    rw [List.zip_cons_cons, List.filterMap_cons, List.lookup_cons, BEq.rfl]
    refine congrArg ((x, v) :: ·) (Eq.trans (fmap_same fun y hy => ?_) (zip_lookup hn.2 (Nat.succ.inj hl)))
    rw [List.lookup_cons, show (y == x) = false from beq_eq_false_iff_ne.mpr fun e => hn.1 (e ▸ hy)]
theorem bind_at0 {name qual : Str} {ar : List Arg} {ka : List (Option PE)} {dfl : List PE} {bd : FuncBody} {sc : Scope} {gl : Addr} {cl : List (Str × Addr)} {kd doc pm code ct : PV} {an : Option Addr} {bi : Addr} (hn : (ar.map (·.arg)).Nodup) {vals : List PV} (hl : vals.length = (ar.map (·.arg)).length) :
    bindArgs ⟨name, qual, ⟨[], ar, none, [], ka, none, dfl⟩, bd, sc, gl, cl, .none, kd, doc, pm, an, code, ct, bi⟩ ⟨vals, []⟩ = pure ((ar.map (·.arg)).zip vals) := by
  have e1 : (decide (vals.length > (ar.map (·.arg)).length) && true) = true → False := by rw [hl, Bool.and_true]; exact fun h => Nat.lt_irrefl _ (of_decide_eq_true h)
  have hm : ((ar.map (·.arg)).filter fun n => (((ar.map (·.arg)).zip vals).lookup n).isNone) = [] := List.filter_eq_nil_iff.mpr fun n h e => nomatch (Option.isNone_iff_eq_none.mp e ▸ lookup_zip n h hl : (none : Option PV).isSome = true)
  have e2 : ∀ k, (!(((ar.map (·.arg)).take ((ar.map (·.arg)).length - (List.drop k ([] : List PV)).length)).filter fun n => (((ar.map (·.arg)).zip vals).lookup n).isNone).isEmpty) = true → False := fun k => by
    rw [List.drop_nil, List.length_nil, Nat.sub_zero, List.take_length, hm]; exact Bool.false_ne_true
  have e3 : ∀ (l : List Str) (k : Nat), l.zip (List.drop k ([] : List PV)) = [] := fun l k => by rw [List.drop_nil, List.zip_nil_right]
  refine Eq.trans (if_neg e1) (Eq.trans (if_neg (e2 _)) ?_)
  show (forIn (List.zip (List.drop _ _) (List.drop _ ([] : List PV))) _ _ >>= _) = _
  rw [e3]
  exact congrArg (Sem.pure (α := List (Str × PV))) ((congrArg (List.filterMap fun n => (((ar.map (·.arg)).zip vals).lookup n).map (n, ·)) (List.append_nil (ar.map (·.arg)))).trans (zip_lookup hn hl))
theorem bind_is {fd : FuncData} (h1 : fd.params.posonlyargs = []) (h2 : fd.params.kwonlyargs = []) (h3 : fd.params.vararg = none) (h4 : fd.params.kwarg = none) (h5 : fd.defaults = .none)
    (hn : (fd.params.args.map (·.arg)).Nodup) {vals : List PV} (hl : vals.length = fd.params.args.length) : bindArgs fd ⟨vals, []⟩ = pure ((fd.params.args.map (·.arg)).zip vals) := by
  obtain ⟨_, _, ⟨po, ar, va, ko, _, kw, _⟩, _, _, _, _, df, _, _, _, _, _, _, _⟩ := fd
  cases (h1 : po = []); cases (h2 : ko = []); cases (h3 : va = none); cases (h4 : kw = none); cases (h5 : df = .none)
  exact bind_at0 hn (hl.trans (List.length_map ..).symm)
section
variable {B : Bd} {u : Nat} {g : Gt}
theorem fn_at (h : Hs B u g) (hu : u ≤ 90) {f : Nat} {d : FDef} {names : List (Str × Nat)} (k : chkAt B.P g B.D.K names (B.D.fa f) d = true) : FnGo B f d := by
  obtain ⟨o, ho, k⟩ := oS_of k
  obtain ⟨fd, hd, k⟩ := oS_of k
  obtain ⟨body, hb, k2⟩ := oS_of (and_r k)
  have a := and_l k2
  have b := and_l (and_r k2)
  have a3 := and_r (and_r (and_r a))
  have b3 := and_r (and_r (and_r b))
  have b6 := and_r (and_r b3)
  have b8 := and_r (and_r b6)
  have nf := List.all_eq_true.mp (and_l (and_r (and_r (and_r a3))))
  have pk := List.all_eq_true.mp (and_l b8)
  have nm := List.all_eq_true.mp (and_r b8)
  have pl : fd.params.args.length = d.params := of_decide_eq_true (and_l b6)
  have pn : (fd.params.args.map (·.arg)).Nodup := of_decide_eq_true (and_l (and_r b6))
  exact call_fn h.F (u := u) (names := names) (ps := fd.params.args.map (·.arg)) (fd := fd) (body := body) ⟨hu, ⟨o, ho, hd⟩, and_l k, hb, List.isEmpty_iff.mp (and_l a), of_decide_eq_true (and_l (and_r a)), of_decide_eq_true (and_l (and_r (and_r a))), of_not (and_l a3), of_not (and_l (and_r a3)), eq_of (and_l (and_r (and_r a3))),
    fun x e => absurd rfl (bne_iff_ne.mp (nf _ (mem_of_lookup e))), of_decide_eq_true (and_r (and_r (and_r (and_r a3)))), by rw [List.length_map, pl], pn, fun x hx => (Bool.or_eq_true_iff.mp (pk x hx)).imp eq_of eq_of,
    fun vals hv => bind_is (List.isEmpty_iff.mp (and_l b)) (List.isEmpty_iff.mp (and_l (and_r b))) (Option.isNone_iff_eq_none.mp (and_l (and_r (and_r b)))) (Option.isNone_iff_eq_none.mp (and_l b3)) (of_decide_eq_true (and_l (and_r b3))) pn (by rw [hv, pl]),
    fun x i e => (Bool.or_eq_true_iff.mp (nm _ (mem_of_lookup e))).imp of_decide_eq_true eq_of, sndSs h d.body body (and_r (and_r k2))⟩
end
end Mine

namespace Mine
open PySem PySem.W PyProof.Rows
noncomputable section
noncomputable def clsB (K : Frag) (C : Addr) : Bool :=
  findIn K (.ref C) "__getattribute__" == some (some (.builtin "object.__getattribute__")) && (findIn K (.ref C) "__getattr__" == some none && (findIn K (.ref C) "__setattr__" == some (some (.builtin "object.__setattr__")) &&
    (plainOver K C && ((clsIn K C).any (·.hasDict) && ((clsIn K C).isSome && (makesIn K C && keepIn K (.ref C)))))))
noncomputable def factB (K : Frag) (P : Prog) (g : Gt) (fa ca : Nat → Addr) (nc : Nat) (live : List Nat) : Bool :=
  (g.fns.all fun p => nsIn K mainGlobals p.1 == some (some (.ref (fa p.2)))) && ((live.all fun i => keepIn K (.ref (fa i))) && ((g.clss.all fun p => nsIn K mainGlobals p.1 == some (some (.ref (ca p.2))) && decide (p.2 < nc)) &&
  (((List.range nc).all fun i => clsB K (ca i)) && ((g.flds.all fun x => (List.range nc).all fun i => fldIn K (ca i) x) &&
  ((g.mths.all fun x => (List.range nc).all fun i => (P.meth i (encS x)).all fun f => findIn K (.ref (ca i)) x == some (some (.ref (fa f))) && (typeIn K (.ref (fa f)) == some (.type "function") && (P.fn f).isSome)) &&
  ((List.range nc).all fun i => (P.init i).all fun f => findIn K (.ref (ca i)) "__init__" == some (some (.ref (fa f))) && typeIn K (.ref (fa f)) == some (.type "function")))))))
noncomputable def vRef (v : PV) : Option { a : Addr // v = .ref a } := if h : v.ctorIdx = 10 then PySem.Value.ref.elim (motive := fun v => Option { a : Addr // v = .ref a }) v h (fun a => some ⟨a, rfl⟩) else none
noncomputable def vInt (v : PV) : Option { w : Int × Tok // v = .int w.1 w.2 } := if h : v.ctorIdx = 4 then PySem.Value.int.elim (motive := fun v => Option { w : Int × Tok // v = .int w.1 w.2 }) v h (fun i t => some ⟨(i, t), rfl⟩) else none
noncomputable def vStr (v : PV) : Option { w : Str × Tok // v = .str w.1 w.2 } := if h : v.ctorIdx = 6 then PySem.Value.str.elim (motive := fun v => Option { w : Str × Tok // v = .str w.1 w.2 }) v h (fun i t => some ⟨(i, t), rfl⟩) else none
noncomputable def dSeq (d : Data) : Option { w : Array PV × Nat // d = .seq w.1 w.2 } := if h : d.ctorIdx = 2 then PySem.Data.seq.elim (motive := fun d => Option { w : Array PV × Nat // d = .seq w.1 w.2 }) d h (fun a n => some ⟨(a, n), rfl⟩) else none
mutual
noncomputable def rvB (K : Frag) : V → PV → Bool
  | .none, v => v == .none
  | .bool b, v => v == .bool b
  | .int i, v => oS (vInt v) fun w => decide (w.1 = i)
  | .str z, v => oS (vStr v) fun w => strOk w.1 && encS w.1 == z
  | .tup l, v => oS (vRef v) fun a => oS (oE (K.lookup a)) fun o => oS (dSeq o.data) fun w => (o.cls == .type "tuple" && (o.dict.isNone && o.slots.isEmpty)) && rvsB K l w.1.toList
  | _, _ => false
noncomputable def rvsB (K : Frag) : List V → List PV → Bool
  | [], vs => vs.isEmpty
  | d :: r, vs => oS (dCons vs) fun w => rvB K d w.1 && rvsB K r w.2
end
end
theorem clsB_of {K : Frag} {C : Addr} (h : clsB K C = true) : ClsOk K C := by
  have h3 := and_r (and_r (and_r h))
  exact ⟨eq_of (and_l h), eq_of (and_l (and_r h)), eq_of (and_l (and_r (and_r h))), and_l h3, and_l (and_r h3), and_l (and_r (and_r h3)), and_l (and_r (and_r (and_r h3))), and_r (and_r (and_r (and_r h3)))⟩
theorem facts_of {B : Bd} {g : Gt} {live : List Nat} (X : B.D.K.In B.D.base) (lim : B.D.base.NoLimit) (hl : ∀ i, (B.P.fn i).isSome = true → i ∈ live) (hm : ∀ i k f, B.P.meth i k = some f → i < B.D.nc)
    (k : factB B.D.K B.P g B.D.fa B.D.ca B.D.nc live = true) (co : ∀ x k, g.consts.lookup x = some k → ∀ d, B.P.glob k = some d → ∃ v, nsIn B.D.K mainGlobals x = some (some v) ∧ ∀ N, Sm B.D N → Val B N d v) : Facts B g := by
  have k3 := and_r (and_r (and_r k))
  have al : ∀ {α : Type} {l : List α} {f : α → Bool}, l.all f = true → ∀ a ∈ l, f a = true := fun h => List.all_eq_true.mp h
  have alo : ∀ {o : Option Nat} {f : Nat → Bool}, o.all f = true → ∀ a, o = some a → f a = true := fun h a e => by subst e; exact h
  exact ⟨X, lim, fun x i h => eq_of (al (and_l k) _ (mem_of_lookup h)), fun i h => al (and_l (and_r k)) i (hl i h), fun x i h => have w := al (and_l (and_r (and_r k))) _ (mem_of_lookup h); ⟨eq_of (and_l w), of_decide_eq_true (and_r w)⟩,
    fun i h => clsB_of (al (and_l k3) i (List.mem_range.mpr h)), fun x hx i hi => al (al (and_l (and_r k3)) x hx) i (List.mem_range.mpr hi),
    fun x hx i f hf => have hi := hm i _ f hf
      have w := alo (al (al (and_l (and_r (and_r k3))) x hx) i (List.mem_range.mpr hi)) f hf
      ⟨hi, eq_of (and_l w), eq_of (and_l (and_r w)), and_r (and_r w)⟩,
    fun i f hf hi => have w := alo (al (and_r (and_r (and_r k3))) i (List.mem_range.mpr hi)) f hf
      ⟨eq_of (and_l w), eq_of (and_r w)⟩, co⟩
section
variable {D : Wd} {N : Nx}
mutual
theorem rvB_of (X : D.K.In D.base) (m : Sm D N) : ∀ (d : V) (v : PV), rvB D.K d v = true → RV D N d v
  | .none, v, e => eq_of e
  | .bool b, v, e => eq_of e
  | .int i, v, e => oS_el (o := vInt v) e fun w h e => ⟨w.2, of_decide_eq_true e ▸ h⟩
  | .str z, v, e => oS_el (o := vStr v) e fun w h e => ⟨w.1, w.2, h, and_l e, eq_of (and_r e)⟩
  | .tup l, v, e => oS_el (o := vRef v) e fun a h e => oS_el e fun o ho e => oS_el e fun w hw e => by
    have e1 := and_l e
    have ho := X a o ho
    refine ⟨a, w.1, h, m.cs a (by rw [ho]; rfl), ⟨w.2, (m.gi a o ho).trans (congrArg some ?_)⟩, rvsB_of X m l _ (and_r e)⟩
    obtain ⟨c, d, dt, sl⟩ := o
    rw [show c = .type "tuple" from eq_of (and_l e1), show d = none from Option.isNone_iff_eq_none.mp (and_l (and_r e1)), show dt = .seq w.1 w.2 from hw, show sl = #[] from Array.isEmpty_iff.mp (and_r (and_r e1))]
  | .list _, v, e => absurd e Bool.false_ne_true
  | .dict _, v, e => absurd e Bool.false_ne_true
  | .loc _, v, e => absurd e Bool.false_ne_true
theorem rvsB_of (X : D.K.In D.base) (m : Sm D N) : ∀ (d : List V) (v : List PV), rvsB D.K d v = true → RVs D N d v
  | [], v, e => List.isEmpty_iff.mp e
  | d :: r, v, e => oS_el (o := dCons v) e fun w h e => ⟨w.1, w.2, h, rvB_of X m d _ (and_l e), rvsB_of X m r _ (and_r e)⟩
end
noncomputable def mkEs (p : Params) (ts : List (Str × Tok × PV)) : List DictEntry := ts.map fun t => ⟨PyData.keyHash p t.1, .str t.1 t.2.1, t.2.2⟩
noncomputable def rvdB (K : Frag) (l : List (Nat × V)) (ts : List (Str × Tok × PV)) : Bool := ts.length == l.length && (l.zip ts).all fun q => strOk q.2.1 && (encS q.2.1 == q.1.1 && rvB K q.1.2 q.2.2.2)
theorem rvdB_of (X : D.K.In D.base) (m : Sm D N) : ∀ (l : List (Nat × V)) (ts : List (Str × Tok × PV)), rvdB D.K l ts = true → RVd D N (l.map fun q => (.str q.1, q.2)) (ts.map fun t => (t.1, t.2.2))
  | [], [], e => rfl
  | [], _ :: _, e => nomatch and_l e
  | _ :: _, [], e => nomatch and_l e
  | q :: l, t :: ts, e => have w := and_r e
    ⟨t.1, t.2.2, _, rfl, ⟨by rw [eq_of (and_l (and_r (and_l w)))], and_l (and_l w)⟩, rvB_of X m q.2 _ (and_r (and_r (and_l w))), rvdB_of X m l ts (by
      show (ts.length == l.length && _) = true
      rw [show (ts.length == l.length) = true from beq_iff_eq.mpr (Nat.succ.inj (eq_of (and_l e)))]; exact and_r w)⟩
theorem pairs_mk {p : Params} : ∀ ts : List (Str × Tok × PV), Pairs (strKind D.prog D.w) (mkEs p ts) (ts.map fun t => (t.1, t.2.2))
  | [] => .nil
  | t :: ts => .cons (strKind_is D.prog D.w t.1 t.2.1) rfl (pairs_mk ts)
theorem rv_dict (X : D.K.In D.base) (m : Sm D N) {a n : Nat} {ts : List (Str × Tok × PV)} {l : List (Nat × V)} (ho : D.K.lookup a = some ⟨.type "dict", none, .dict (mkEs D.w.params ts).toArray n, #[]⟩) (ha : 1 < a) (hn : (ts.map (·.1)).Nodup) (e : rvdB D.K l ts = true) :
    RV D N (.dict (l.map fun q => (.str q.1, q.2))) (.ref a) := by
  have ho := X _ _ ho
  refine ⟨a, ts.map fun t => (t.1, t.2.2), rfl, m.cs a (by rw [ho]; rfl), ⟨ha, _, _, _, m.gi a _ ho, ⟨rfl, rfl, rfl⟩, rfl, fun en he => ?_, pairs_mk ts, by rw [List.map_map]; exact hn⟩, rvdB_of X m l ts e⟩
  obtain ⟨t, ht, rfl⟩ := List.mem_map.mp (List.mem_toArray.mp he)
  exact ⟨t.1, strKind_is D.prog D.w t.1 t.2.1, rfl⟩
end
theorem bi_of {K : Frag} {mb : Str → Option PV} {h : Heap} {ob : Obj} (hob : h.get? builtinsNs = some ob) (hb : h.Ns builtinsNs mb) {x : Str} {v : PV} (e : mb x = some v) : nsIn ((builtinsNs, ob) :: K) builtinsNs x = some (some v) := by
  obtain ⟨o, es, ep, ho, hd, _, hf⟩ := hb
  rw [hob] at ho
  cases ho
  have hx := hf x
  rw [e] at hx
  unfold nsFind findBy at hx
  rw [← Array.find?_toList] at hx
  unfold nsIn
  rw [List.lookup_cons, BEq.rfl]
  obtain ⟨oc, od, odt, osl⟩ := ob
  cases hd
  dsimp only
  cases e1 : es.toList.find? (fun d => d.key.isStr x) with
  | some d => rw [e1] at hx; exact congrArg some hx
  | none => rw [e1] at hx; cases hx
end Mine

namespace Mine
open PySem PySem.W PyProof.Rows
section
variable {B : Bd} {g : Gt}
theorem super_go {f f2 c1 : Nat} {d : FDef} {fd : FuncData} {names : List (Str × Nat)} {q0 q1 ap cp pe : Pos} {es : List PE} {rest : List Stmt} {xs : List X} {ss : List S} {cc cda : Addr} {oc ocd : Obj} {ar : Arg} {cd : ClassData} {vs0 : Array PV} {file : Str} {tf : Tok} (h : Hs B 40 g)
    (hK : ∃ o, B.D.K.lookup (B.D.fa f) = some o ∧ o.data = .func fd) (hcode : codeIn B.D.K fd.code fd.qualname = true) (hb : fd.body = .stmts (.Expr (.Call (.Attribute (.Call (.Name "super" q0) [] [] q1) "__init__" ap) es [] cp) pe :: rest))
    (hd : d.body = .expr (.meth (.var 0) 0 xs) :: ss) (hln : (ap.endLine == cp.line) = true) (hel : es.length < 29) (hes : chkEs B.P g xs ⟨names, fd.scope⟩ es = true) (hss : chkSs B.P g ss ⟨names, fd.scope⟩ rest = true) (hclo : fd.closure = [(("__class__" : Str), cc)])
    (hgl : fd.globals = mainGlobals) (hbi : fd.builtins = builtinsNs) (hco : fd.scope.isCoroutine = false) (hgen : fd.scope.isGenerator = false) (hk : fd.scope.kind = .function) (hnc : ∀ x ∈ fd.scope.names, x.2 ≠ .cell) (hfr : ∀ x ∈ fd.scope.names, x.2 = .free → x.1 = ("__class__" : Str))
    (hpl : fd.params.args.length = d.params) (hpn : (fd.params.args.map (·.arg)).Nodup) (hlo : ∀ x ∈ fd.params.args.map (·.arg), fd.scope.names.lookup x = some .local) (hbind : ∀ vals : List PV, vals.length = d.params → bindArgs fd ⟨vals, []⟩ = pure ((fd.params.args.map (·.arg)).zip vals))
    (hpo : fd.params.posonlyargs = []) (hnm : ∀ x i, names.lookup x = some i → d.params ≤ i ∨ (fd.params.args.map (·.arg))[i]? = some x) (har : fd.params.args.head? = some ar) (hv0 : names.lookup ar.arg = some 0) (hks : fd.scope.names.lookup ("super" : Str) = some .globalImplicit) (hkc : fd.scope.names.lookup ("__class__" : Str) = some .free)
    (hm : ∀ i f', B.P.meth i 0 = some f' → i = c1 ∧ f' = f2) (hcc : B.D.K.lookup cc = some oc) (hoc : oc.data = .cell (some (.ref (B.D.ca c1)))) (hcl : clsIn B.D.K (B.D.ca c1) = some cd) (hmro : mroIn B.D.K (B.D.ca c1) (.ref (B.D.ca c1)) = some true)
    (hal : alongIn B.D.K "__init__" ((cd.mro.dropWhile (· != .ref (B.D.ca c1))).drop 1) = some (some (.ref (B.D.fa f2)))) (hty : typeIn B.D.K (.ref (B.D.fa f2)) = some (.type "function")) (hfn : fnIn B.D.K (B.D.fa f2) = true) (hno : nsIn B.D.K cStatics "thirdparty.any" = some none)
    (hg : nsIn B.D.K mainGlobals "super" = some none) (hbt : nsIn B.D.K builtinsNs "super" = some (some (.type "super"))) (hcd : fd.code = .ref cda) (hcv : B.D.K.lookup cda = some ocd) (hcw : ocd.data = .fields vs0) (hv2 : vs0[2]? = some (.str file tf)) (hfile : ((B.D.prog.main.file : Str) == file) = true)
    (htop : (B.D.prog.main.scope.names.lookup ("super" : Str)).isSome = false) : FnGo B f d := fun A N ds vs K R hl q rm sm rs z => by
  obtain ⟨of0, hK, hdt⟩ := hK
  have X := h.F.x sm
  have hvl : vs.length = d.params := (RVs_length rs).trans hl
  have hal' : (fd.params.args.map (·.arg)).length = d.params := (List.length_map ..).trans hpl
  have hzip : ((fd.params.args.map (·.arg)).zip vs).map (·.1) = fd.params.args.map (·.arg) := List.map_fst_zip (Nat.le_of_eq (hal'.trans hvl.symm))
  have mem_ps : ∀ x ∈ (fd.params.args.map (·.arg)).zip vs, x.1 ∈ fd.params.args.map (·.arg) := fun x hx => hzip ▸ List.mem_map.mpr ⟨x, hx, rfl⟩
  refine ks_codeAny_call_defAt (o := of0) (fd := fd) (binds := (fd.params.args.map (·.arg)).zip vs) rm.lt (X _ _ hK) hdt (h.F.lim.keeps sm.gi) (codeRec_of X hcode) hb (BindsTo.of_eq (hbind vs hvl)) hnc (fun x hx => hlo _ (mem_ps x hx)) (fun h₀ hns hk₀ => ?_) hco hgen hk
  have hcells : (callEnv fd N.s.heap.objs.size (B.D.fa f)).cells = fd.closure := rfl
  have hscope : (callEnv fd N.s.heap.objs.size (B.D.fa f)).scope = fd.scope := rfl
  have hloc : (callEnv fd N.s.heap.objs.size (B.D.fa f)).locals = N.s.heap.objs.size := rfl
  have hframe : (callEnv fd N.s.heap.objs.size (B.D.fa f)).frame = some N.s.heap.objs.size := rfl
  have hglob : (callEnv fd N.s.heap.objs.size (B.D.fa f)).globals = fd.globals := rfl
  have hbuil : (callEnv fd N.s.heap.objs.size (B.D.fa f)).builtins = fd.builtins := rfl
  have hfunc : (callEnv fd N.s.heap.objs.size (B.D.fa f)).func = some (B.D.fa f) := rfl
  have hcode' : (callEnv fd N.s.heap.objs.size (B.D.fa f)).code = fd.code := rfl
  generalize callEnv fd N.s.heap.objs.size (B.D.fa f) = env at *
  have hkd : ∀ x, env.kindOf x = fd.scope.names.lookup x := fun x => congrArg (fun s : Scope => s.names.lookup x) hscope
  have hkind : env.scope.kind = .function := (congrArg Scope.kind hscope).trans hk
  have hint : interactive env = false := by unfold interactive; rw [hkind]; rfl
  have m : More N { N.s with heap := h₀, toks := N.s.toks + ((fd.params.args.map (·.arg)).zip vs).length } := ⟨hk₀, rfl, rfl⟩
  have af := m.aft sm
  have nl : ¬ N.has env.locals := by rw [hloc]; exact no_new
  have pl : Pv (N.at { N.s with heap := h₀, toks := N.s.toks + ((fd.params.args.map (·.arg)).zip vs).length }) env.locals := (Ns_has hns).elim fun o e => m.pv sm nl (by rw [hloc]; exact e)
  have X₀ : B.D.K.In h₀ := h.F.x (B := B) (N := N.at _) af.sm
  have bse : ∀ {a o}, B.D.K.lookup a = some o → ¬ chg N.μ a := fun {a o} e ⟨p, hp, e2⟩ => nomatch (sm.new p hp).symm.trans ((congrArg B.D.base.get? e2).trans (h.F.X a o e))
  have gs : Gs B 40 true ⟨names, fd.scope⟩ ⟨env, A.deeper env, enter d ds⟩ (N.at { N.s with heap := h₀, toks := N.s.toks + ((fd.params.args.map (·.arg)).zip vs).length }) := by
    refine ⟨⟨rm.deep (by decide), ⟨hscope, hkind, hglob.trans hgl, hbuil.trans hbi, ⟨pl.lt, pl.nc⟩, fun q hq => ?_, by rw [hframe]; rfl, fun x hx => ?_⟩, fun x i d' h1' h2' h3' => ?_, af.sm⟩,
      fun b f => f.elim (fun e => by rw [e]; exact pl) fun ⟨_, x, e, _⟩ => absurd rfl (hnc _ (mem_of_lookup e)), ⟨_, by rw [hloc]; exact hns⟩, fun _ x hx => absurd rfl (hnc _ (mem_of_lookup hx)), fun _ x y b hx => absurd rfl (hnc _ (mem_of_lookup hx))⟩
    · rw [hcells, hclo, List.mem_singleton] at hq
      rw [hq]
      exact ⟨has_of (X₀ _ _ hcc), bse hcc⟩
    · rw [hcells, hclo]
      refine hx.elim (fun hx => absurd rfl (hnc _ (mem_of_lookup hx))) fun hx => ?_
      rw [show x = ("__class__" : Str) from hfr _ (mem_of_lookup hx) rfl]; rfl
    · have hd := enter_get h3'
      have hi : i < d.params := hl ▸ (List.getElem?_eq_some_iff.mp hd).1
      have hpx := (hnm x i h1').resolve_left (Nat.not_le.mpr hi)
      obtain ⟨v, hv, rv⟩ := RVs_get rs hd
      have hm : (x, v) ∈ (fd.params.args.map (·.arg)).zip vs := List.mem_of_getElem? (i := i) (by rw [List.getElem?_zip_eq_some]; exact ⟨hpx, hv⟩)
      exact ⟨v, .inl ⟨(hkd x).trans (hlo x (mem_ps _ hm)), _, by rw [hloc]; exact hns, lookup_of (by rw [List.map_reverse, hzip]; exact ((List.reverse_perm _).nodup_iff).mpr hpn) (List.mem_reverse.mpr hm)⟩, RV_le af.le _ _ rv⟩
  have nF : ∀ b, Fr true ⟨names, fd.scope⟩ env b → ¬ N.has b := fun b f => f.elim (fun e => by rw [e]; exact nl) fun ⟨_, x, e, _⟩ => absurd rfl (hnc _ (mem_of_lookup e))
  have done : ∀ {Y}, Aft B.D (N.at { N.s with heap := h₀, toks := N.s.toks + ((fd.params.args.map (·.arg)).zip vs).length }) (Fr true ⟨names, fd.scope⟩ env) Y → Aft B.D N noA Y := fun a => (af.up.trans a).hide nF
  rw [hd] at q
  -- self
  refine oK_of (show oK (((enter d ds)[0]?).bind id) _ from q) fun dself e0 q => ?_
  have e0 := var_of e0
  have hlar : fd.scope.names.lookup ar.arg = some .local := hlo _ (List.mem_map.mpr ⟨ar, List.mem_of_head? har, rfl⟩)
  obtain ⟨v0, at0, r0⟩ := gs.go.fe ar.arg 0 dself hv0 (by rw [hkd, hlar]; rfl) e0
  cases dself with
  | loc k =>
    obtain ⟨p, rfl, hp⟩ := id r0
    refine (st_of (f := fun o => oK (methO B.P k 0 o) _) gs.go.sm hp q id).elim fun o w => ?_
    obtain ⟨q, ho, hst⟩ := w
    cases o with
    | inst ci fs =>
      cases eg : getA fs 0 with
      | some _ => rw [methO, eg] at q; exact False.elim q
      | none =>
      rw [methO, eg] at q
      refine oK_of (oK_map q) fun f' e2 q => ?_
      obtain ⟨rfl, rfl⟩ := hm _ _ e2
      obtain ⟨od, mm, I⟩ := ins_at (B := B) ho
      obtain ⟨mL, nsL, emL⟩ : ∃ mm, h₀.Ns env.locals mm ∧ mm ar.arg = some (.ref p.1) := at0.elim (fun w => w.2) fun w => w.1.elim (fun e => nomatch (e.symm.trans ((hkd _).trans hlar))) fun e => nomatch (e.symm.trans ((hkd _).trans hlar))
      obtain ⟨oD, hD1, hD2⟩ : ∃ oD, h₀.get? (B.D.ca ci) = some oD ∧ oD.data = .cls cd := by
        have := hcl
        unfold clsIn at this
        split at this
        · rename_i ho; cases this; exact ⟨_, X₀ _ _ ho, rfl⟩
        · cases this
      have as := sndEs h xs ⟨names, fd.scope⟩ es hes
      refine ks_wpAt_execs_cons (ks_wpAt_Expr_any (ks_wpAt_MethodCall (ks_wpAt_super_base (fd := fd) (ar := ar) ((hkd _).trans hks) ((hkd _).trans hkc) (by decide +kernel) hfunc (X₀ _ _ hK) hdt (by rw [hpo]; exact har) (hcode'.trans hcd) (X₀ _ _ hcv) hcw hv2 hfile htop ?_) (eval_methB hln hel as.2)) hint rfl)
      refine load_blt (G := ⟨env, A.deeper env, enter d ds⟩) (N := N.at { N.s with heap := h₀, toks := N.s.toks + ((fd.params.args.map (·.arg)).zip vs).length }) gs.go h.F hks hg hbt ⟨rfl, ?_⟩
      refine wpAny_loadName_free hkind ((hkd _).trans hkc) (by rw [hcells, hclo]; rfl) ⟨_, X₀ _ _ hcc, hoc⟩ ?_
      refine wpAny_loadName_local hkind ((hkd _).trans hlar) nsL emL ?_
      refine ks_wpAny_isType_cls hD1 hD2 ⟨rfl, ?_⟩
      refine ks_wpAny_call_super hD1 hD2 I.at_.at_ I.at_.cls (fun c e => ?_) (looks_mroIn X₀ hmro) (fun h1 e1 k1 => ?_)
      · have := I.at_.no
        unfold notCls at this
        rw [e] at this
        exact Bool.noConfusion this
      have m1 : More (N.at { N.s with heap := h₀, toks := N.s.toks + ((fd.params.args.map (·.arg)).zip vs).length }) { N.s with heap := h1.push (methodObj (.ref (B.D.fa f')) (.ref p.1)), toks := N.s.toks + ((fd.params.args.map (·.arg)).zip vs).length + 1 } := ⟨fun b o e => Heap.get?_push_of_some _ (k1 b o e), rfl, rfl⟩
      have X1 := X₀.keeps k1
      obtain ⟨off, hof, hofc⟩ : ∃ of, h1.get? (B.D.fa f') = some of ∧ of.cls = .type "function" := by
        have ht' : (B.D.K.lookup (B.D.fa f')).map (·.cls) = some (.type "function") := hty
        cases z : B.D.K.lookup (B.D.fa f') with
        | none => rw [z] at ht'; cases ht'
        | some of => rw [z] at ht'; exact ⟨of, X1 _ _ z, Option.some.inj ht'⟩
      have hne : p.1 ≠ B.D.ca ci := fun e => by
        have h2 := I.at_.at_
        rw [e] at h2
        have h3 : oD = _ := Option.some.inj (hD1.symm.trans h2)
        have := I.at_.no
        unfold notCls at this
        rw [← h3, hD2] at this
        exact Bool.noConfusion this
      refine ks_wpAny_getMethod_super e1 (looks_opaque X1 hno) (l₀ := cd.mro) (fun A Q E s k q => wpAny_bind ((looks_clsIn X1 hcl) A _ E s k (wpAny_pure q))) rfl X1 hal hof hofc hne (by decide +kernel) ?_
      have n1 : ¬ (N.at { N.s with heap := h₀, toks := N.s.toks + ((fd.params.args.map (·.arg)).zip vs).length }).has h1.objs.size := fun hh => (Option.isSome_iff_exists.mp hh).elim fun o e => Nat.lt_irrefl _ (Heap.lt_size (k1 _ _ e))
      have hq0 : (h1.push (methodObj (.ref (B.D.fa f')) (.ref p.1))).get? h1.objs.size = some (methodObj (.ref (B.D.fa f')) (.ref p.1)) := Heap.get?_push_size _ rfl
      have a1 := m1.aft gs.go.sm
      have pq := m1.pv gs.go.sm n1 hq0
      refine callWith_gen (G := ⟨env, A.deeper env, enter d ds⟩) (N := N.at { N.s with heap := h1.push (methodObj (.ref (B.D.fa f')) (.ref p.1)), toks := N.s.toks + ((fd.params.args.map (·.arg)).zip vs).length + 1 }) (Pp := MethP B.D.K h1.objs.size (B.D.fa f') (.ref p.1)) (keeps_M hfn) as.2 ?_
      refine as.tes cp ⟨env, A.deeper env, enter d ds⟩ (N.at { N.s with heap := h1.push (methodObj (.ref (B.D.fa f')) (.ref p.1)), toks := N.s.toks + ((fd.params.args.map (·.arg)).zip vs).length + 1 }) _ _ _ (gs.go.to a1) q fun ds2 Y vs3 q2 _ a3 rv3 => ?_
      have hq3 := a3.old pq.nc hq0
      refine ⟨⟨hq3, h.F.x a3.sm⟩, wpAny_call (method_call hq3 ((h.T (A.deeper env) Y _ _ _ _ q2 gs.go.rm.zero a3.sm ⟨_, _, rfl, Val.on a3 (Val.on a1 r0), rv3⟩).2 _ fun d4 Z v4 q4 a4 rv4 => ?_))⟩
      have a14 := (a1.trans a3).trans a4
      exact wpAt_of_wpAny (sndSs h ss rest hss ⟨env, A.deeper env, enter d ds⟩ Z _ _ _ (gs.to a14) q4 ⟨fun ρ Y k a _ => z .none Y .none k (done (a14.up.trans a)) rfl, fun d Y v k a r => z d Y v k (done (a14.up.trans a)) r⟩)
    | _ => exact False.elim q
  | _ => exact False.elim q
end
end Mine

namespace Mine
open PySem PySem.W PyProof.Rows
noncomputable section
noncomputable def dCel (d : Data) : Option { v : Option PV // d = .cell v } := if h : d.ctorIdx = 6 then PySem.Data.cell.elim (motive := fun d => Option { v : Option PV // d = .cell v }) d h (fun v => some ⟨v, rfl⟩) else none
noncomputable def dFld (d : Data) : Option { v : Array PV // d = .fields v } := if h : d.ctorIdx = 9 then PySem.Data.fields.elim (motive := fun d => Option { v : Array PV // d = .fields v }) d h (fun v => some ⟨v, rfl⟩) else none
noncomputable def supC (K : Frag) (P : Prog) (g : Gt) (fa ca : Nat → Addr) (f2 c1 : Nat) (d : FDef) (names : List (Str × Nat)) (xs : List X) (ss : List S) (file : Str) (fd : FuncData) (bd : List Stmt) (v : PE × List PE × Pos) (a : PE × Str × Pos) (s0 : List PE) (su : Str) (ar : Arg) (cl : Str) (cv : Option PV) (fl : Str) (cd : ClassData) : Bool :=
  ((su == ("super" : Str) && (a.2.1 == ("__init__" : Str) && (cl == ("__class__" : Str) && (s0.isEmpty && (cv == some (.ref (ca c1)) && (fl == file && (a.2.2.endLine == v.2.2.line && decide (v.2.1.length < 29)))))))) &&
  (codeIn K fd.code fd.qualname && (chkEs P g xs ⟨names, fd.scope⟩ v.2.1 && (chkSs P g ss ⟨names, fd.scope⟩ bd && (decide (fd.globals = mainGlobals) && (decide (fd.builtins = builtinsNs) && (!fd.scope.isCoroutine && (!fd.scope.isGenerator && fd.scope.kind == .function)))))))) &&
  (((fd.scope.names.all fun x => x.2 != .cell && (x.2 != .free || x.1 == ("__class__" : Str))) && (fd.params.posonlyargs.isEmpty && (fd.params.kwonlyargs.isEmpty && (fd.params.vararg.isNone && (fd.params.kwarg.isNone && (decide (fd.defaults = .none) && (decide (fd.params.args.length = d.params) &&
    (decide (fd.params.args.map (·.arg)).Nodup && (((fd.params.args.map (·.arg)).all fun x => fd.scope.names.lookup x == some .local) && (names.all fun q => decide (d.params ≤ q.2) || (fd.params.args.map (·.arg))[q.2]? == some q.1)))))))))) &&
  (names.lookup ar.arg == some 0 && (fd.scope.names.lookup ("super" : Str) == some .globalImplicit && (fd.scope.names.lookup ("__class__" : Str) == some .free && (mroIn K (ca c1) (.ref (ca c1)) == some true && (alongIn K "__init__" ((cd.mro.dropWhile (· != .ref (ca c1))).drop 1) == some (some (.ref (fa f2))) &&
    (typeIn K (.ref (fa f2)) == some (.type "function") && (fnIn K (fa f2) && (nsIn K cStatics "thirdparty.any" == some none && nsIn K mainGlobals "super" == some none)))))))))
noncomputable def supB (K : Frag) (P : Prog) (g : Gt) (fa ca : Nat → Addr) (f f2 c1 : Nat) (d : FDef) (names : List (Str × Nat)) (xs : List X) (ss : List S) (file : Str) : Bool :=
  oS (oE (K.lookup (fa f))) fun o => oS (dFun o.data) fun fd => oS (dSts fd.body) fun body => oS (dCons body) fun bd => oS (dExp bd.1) fun ex => oS (dCall ex.1) fun v => oS (dAttr v.1) fun a => oS (dCall a.1) fun s0 => oS (dName s0.1) fun su => oS (oE fd.params.args.head?) fun ar =>
  oS (dOne fd.closure) fun cl => oS (vRef fd.code) fun cda => oS (oE (K.lookup cl.2)) fun oc => oS (dCel oc.data) fun cv => oS (oE (K.lookup cda)) fun ocd => oS (dFld ocd.data) fun vs => oS (oE (vs : Array PV)[2]?) fun fv => oS (vStr fv) fun fl => oS (oE (clsIn K (ca c1))) fun cd =>
  supC K P g fa ca f2 c1 d names xs ss file fd bd.2 v a s0.2.1 su.1 ar cl.1 cv fl.1 cd
end
theorem sup_go {B : Bd} {g : Gt} {f f2 c1 : Nat} {d : FDef} {names : List (Str × Nat)} {xs : List X} {ss : List S} {file : Str} (h : Hs B 40 g) (hd : d.body = .expr (.meth (.var 0) 0 xs) :: ss) (hm : ∀ i f', B.P.meth i 0 = some f' → i = c1 ∧ f' = f2)
    (hbt : nsIn B.D.K builtinsNs "super" = some (some (.type "super"))) (hfile : ((B.D.prog.main.file : Str) == file) = true) (htop : (B.D.prog.main.scope.names.lookup ("super" : Str)).isSome = false) (k : supB B.D.K B.P g B.D.fa B.D.ca f f2 c1 d names xs ss file = true) : FnGo B f d :=
  oS_el k fun o ho k => oS_el k fun fd hfd k => oS_el k fun body hb k => oS_el k fun bd hbd k => oS_el k fun ex hex k => oS_el k fun v hv k => oS_el k fun a ha k => oS_el k fun s0 hs0 k => oS_el k fun su hsu k => oS_el k fun ar har k =>
  oS_el k fun cl hcl k => oS_el k fun cda hcda k => oS_el k fun oc hoc k => oS_el k fun cv hcv k => oS_el k fun ocd hocd k => oS_el k fun vs hvs k => oS_el k fun fv hfv k => oS_el k fun fl hfl k => oS_el k fun cd hcd k => by
  have a1 := and_l (and_l k)
  have b1 := and_r (and_l k)
  have c1' := and_l (and_r k)
  have d1 := and_r (and_r k)
  have a4 := and_r (and_r (and_r a1))
  have a6 := and_r (and_r a4)
  have b4 := and_r (and_r (and_r b1))
  have c3 := and_r (and_r (and_r c1'))
  have c5 := and_r (and_r (and_r c3))
  have d4 := and_r (and_r (and_r d1))
  have d6 := and_r (and_r d4)
  have nms := List.all_eq_true.mp (and_l c1')
  have hpn : (fd.params.args.map (·.arg)).Nodup := of_decide_eq_true (and_l (and_r c5))
  have hpl : fd.params.args.length = d.params := of_decide_eq_true (and_l c5)
  have hn2 := List.all_eq_true.mp (and_r (and_r (and_r c5)))
  have hbody : fd.body = .stmts (.Expr (.Call (.Attribute (.Call (.Name "super" su.2) [] [] s0.2.2) "__init__" a.2.2) v.2.1 [] v.2.2) ex.2 :: bd.2) := by
    rw [hb, hbd, hex, hv, ha, hs0, hsu, eq_of (and_l a1), eq_of (and_l (and_r a1)), List.isEmpty_iff.mp (and_l a4)]
  exact super_go (fd := fd) (ar := ar) (cd := cd) h ⟨o, ho, hfd⟩ (and_l b1) hbody hd (and_l (and_r a6)) (of_decide_eq_true (and_r (and_r a6))) (and_l (and_r b1)) (and_l (and_r (and_r b1))) (hcl.trans (by rw [← eq_of (and_l (and_r (and_r a1)))]))
    (of_decide_eq_true (and_l b4)) (of_decide_eq_true (and_l (and_r b4))) (of_not (and_l (and_r (and_r b4)))) (of_not (and_l (and_r (and_r (and_r b4))))) (eq_of (and_r (and_r (and_r (and_r b4))))) (fun x hx => bne_iff_ne.mp (and_l (nms x hx))) (fun x hx e => (Bool.or_eq_true_iff.mp (and_r (nms x hx))).elim (fun n => absurd e (bne_iff_ne.mp n)) eq_of)
    hpl hpn (fun x hx => eq_of (List.all_eq_true.mp (and_l (and_r (and_r c5))) x hx)) (fun vals hv => bind_is (List.isEmpty_iff.mp (and_l (and_r c1'))) (List.isEmpty_iff.mp (and_l (and_r (and_r c1')))) (Option.isNone_iff_eq_none.mp (and_l c3)) (Option.isNone_iff_eq_none.mp (and_l (and_r c3))) (of_decide_eq_true (and_l (and_r (and_r c3)))) hpn (by rw [hv, hpl]))
    (List.isEmpty_iff.mp (and_l (and_r c1'))) (fun x i e => (Bool.or_eq_true_iff.mp (hn2 _ (mem_of_lookup e))).imp of_decide_eq_true eq_of) har (eq_of (and_l d1)) (eq_of (and_l (and_r d1))) (eq_of (and_l (and_r (and_r d1)))) hm hoc (hcv.trans (congrArg Data.cell (eq_of (and_l (and_r a4))))) hcd
    (eq_of (and_l d4)) (eq_of (and_l (and_r d4))) (eq_of (and_l d6)) (and_l (and_r d6)) (eq_of (and_l (and_r (and_r d6)))) (eq_of (and_r (and_r (and_r d6)))) hbt hcda hocd hvs (hfv.trans (congrArg some hfl)) (by rw [eq_of (and_l a6)]; exact hfile) htop
end Mine

namespace Mine
open PySem
namespace P5
noncomputable def f_all_of : FDef :=
  { params := 1, slots := 1, body := [.ite (.cmp .eq (.bi .len [(.var 0)]) (.cst (.int 1))) [.ret (.item (.var 0) (.cst (.int 0)))] [],
    .raise] }
noncomputable def f_united : FDef :=
  { params := 1, slots := 3, body := [.asg (.name 1) (.item (.var 0) (.cst (.int 0))),
    .for_ (.one 2) (.val (.sl (.var 0) (.cst (.int 1)) (.cst .none))) [.asg (.name 1) (.tup [(.cst (.str 2282452971227182165890433135)), (.var 1), (.var 2)])],
    .ret (.var 1)] }
noncomputable def f_Names___init : FDef :=
  { params := 5, slots := 6, body := [.asg (.attr (.var 0) 91018014822433855916448552147567129127201744206719258460276) (.var 1),
    .asg (.attr (.var 0) 2089024793972003303873052788) (.var 2),
    .asg (.attr (.var 0) 2050339269201387993285263476) (.var 3),
    .asg (.attr (.var 0) 9442840468706836533258501435379962347636) (.var 4),
    .asg (.attr (.var 0) 1934282215274345678596210804) (.mut (.dict [])),
    .for_ (.one 5) (.val (.var 3)) [.ite (.cmp .in_ (.item (.var 5) (.cst (.int 0))) (.tup [(.cst (.str 1042241545940152352869)), (.cst (.str 452999038107759))])) [.raise] []],
    .asg (.attr (.var 0) 1934282344401593776985866357) (.cst (.int 0))] }
noncomputable def f_Names_fresh : FDef :=
  { params := 2, slots := 2, body := [.asg (.attr (.var 0) 1934282344401593776985866357) (.bin .add (.attr (.var 0) 1934282344401593776985866357) (.cst (.int 1))),
    .ret (.fstr [(.var 1), (.cst (.str 40)), (.attr (.var 0) 1934282344401593776985866357)])] }
noncomputable def f_Names_rel : FDef :=
  { params := 2, slots := 2, body := [.ret (.tup [(.cst (.str 505775562686573)), (.item (.attr (.var 0) 9442840468706836533258501435379962347636) (.var 1))])] }
noncomputable def f_Names_owners : FDef :=
  { params := 2, slots := 3, body := [.ret (.comp (.gen (.one 2) (.val (.meth (.attr (.var 0) 91018014822433855916448552147567129127201744206719258460276) 4178178428691374958171360535249012 [])) [(.cmp .eq (.item (.var 2) (.cst (.int 0))) (.var 1))] (.elt (.item (.var 2) (.cst (.int 1))))))] }
noncomputable def f_Names_places : FDef :=
  { params := 2, slots := 4, body := [.ite (.or [(.meth (.attr (.var 0) 91018014822433855916448552147567129127201744206719258460276) 461795089186932 [(.var 1)]), (.cmp .ne (.meth (.var 0) 4543262072356571629796891589345396 [(.var 1)]) (.list []))]) [.ret (.cst (.int (-1)))] [],
    .raise,
    .raise,
    .raise,
    .raise] }
noncomputable def f_Names_named : FDef :=
  { params := 3, slots := 7, body := [.ite (.meth (.attr (.var 0) 91018014822433855916448552147567129127201744206719258460276) 461795089186932 [(.var 1)]) [.ret (.meth (.var 0) 505775562686573 [(.var 1)])] [],
    .asg (.name 3) (.meth (.var 0) 4543262072356571629796891589345396 [(.var 1)]),
    .ite (.cmp .ne (.var 3) (.list [])) [.ret (.call 2 [(.comp (.gen (.one 6) (.val (.var 3)) [] (.elt (.meth (.var 0) 505775562686573 [(.fstr [(.var 6), (.cst (.str 47)), (.var 1)])]))))])] [],
    .raise,
    .raise,
    .raise] }
noncomputable def f_Names_arity : FDef :=
  { params := 2, slots := 3, body := [.asg (.name 2) (.item (.var 1) (.cst (.int 0))),
    .ite (.cmp .eq (.var 2) (.cst (.str 505775562686573))) [.ret (.meth (.var 0) 13718444222045834973046468235386452060926671848844973262849473248587749245040621500453887869439101108335 [(.item (.var 1) (.cst (.int 1)))])] [],
    .ite (.cmp .in_ (.var 2) (.tup [(.cst (.str 4746086129707480553143090519474292)), (.cst (.str 1023794788672322142310))])) [.raise] [],
    .ite (.cmp .in_ (.var 2) (.tup [(.cst (.str 523367740342387)), (.cst (.str 1088358388532248576119))])) [.raise] [],
    .ite (.cmp .in_ (.var 2) (.tup [(.cst (.str 977677880109517766767)), (.cst (.str 1079135047281738252399)), (.cst (.str 8507063594590921578787178697020942581862)), (.cst (.str 1069911670846801313907))])) [.raise] [],
    .ite (.cmp .in_ (.var 2) (.tup [(.cst (.str 986901300524892553327)), (.cst (.str 9612981530472886828724840677988351606901))])) [.raise] [],
    .ite (.cmp .eq (.var 2) (.cst (.str 922337696266917511281))) [.raise] [],
    .ret (.meth (.var 0) 1895596745843988977414045818 [(.ite (.cmp .in_ (.var 2) (.tup [(.cst (.str 1895596653610251016640397413)), (.cst (.str 4137613609484209967886426670366835))])) (.glob 999) (.item (.var 1) (.cst (.int 1))))])] }
noncomputable def f_Names_arity_of_relation : FDef :=
  { params := 2, slots := 5, body := [.for_ (.one 2) (.val (.meth (.attr (.var 0) 91018014822433855916448552147567129127201744206719258460276) 4178178428691374958171360535249012 [])) [.ite (.cmp .eq (.item (.attr (.var 0) 9442840468706836533258501435379962347636) (.fstr [(.item (.var 2) (.cst (.int 1))), (.cst (.str 47)), (.item (.var 2) (.cst (.int 0)))])) (.var 1)) [.raise] []],
    .ret (.ite (.cmp .in_ (.var 1) (.comp (.gen (.many [3, 4]) (.val (.meth (.attr (.var 0) 91018014822433855916448552147567129127201744206719258460276) 4543261975642413826906189065093236 [])) [] (.elt (.glob 999))))) (.cst (.int 2)) (.cst (.int 1)))] }
noncomputable def f_Opener___init : FDef :=
  { params := 5, slots := 5, body := [.expr (.meth (.var 0) 0 [(.var 1), (.var 2), (.var 3), (.var 4)]),
    .asg (.attr (.var 0) 2243767363446240513821245557) (.cst (.int 0)),
    .asg (.attr (.var 0) 4259307989734766077997039554134133) (.cst (.int 0)),
    .asg (.attr (.var 0) 1042241488765539319916) (.cst (.int 0))] }
noncomputable def f_Opener_spend : FDef :=
  { params := 3, slots := 3, body := [.asg (.attr (.var 0) 2243767363446240513821245557) (.bin .add (.attr (.var 0) 2243767363446240513821245557) (.var 1)),
    .asg (.attr (.var 0) 1042241488765539319916) (.bi .max [(.attr (.var 0) 1042241488765539319916), (.bin .add (.attr (.var 0) 4259307989734766077997039554134133) (.var 2))]),
    .ite (.cmp .gt (.attr (.var 0) 2243767363446240513821245557) (.glob 0)) [.raise] [],
    .ite (.cmp .gt (.bin .add (.attr (.var 0) 4259307989734766077997039554134133) (.var 2)) (.glob 1)) [.raise] []] }
noncomputable def f_Opener_used : FDef :=
  { params := 3, slots := 5, body := [.asgT [3, 4] (.get (.get (.var 2) [(.cst (.str 0)), (.dict [])]) [(.var 1), (.tup [(.cst (.int 1)), (.cst (.int 1))])]),
    .expr (.meth (.var 0) 2243767363446240513821245541 [(.var 3), (.var 4)]),
    .ret (.item (.var 2) (.var 1))] }
noncomputable def f_Opener_begun : FDef :=
  { params := 3, slots := 5, body := [.ite (.and [(.cmp .eq (.item (.var 1) (.cst (.int 0))) (.cst (.str 1023794727099668889702))), (.cmp .notIn (.item (.var 1) (.cst (.int 2))) (.var 2)), (.cmp .ge (.meth (.var 0) 4583826678792810814624776111259764 [(.item (.var 1) (.cst (.int 2)))]) (.cst (.int 0)))]) [.raise] [],
    .ite (.cmp .eq (.item (.var 1) (.cst (.int 0))) (.cst (.str 435406839480441))) [.asgT [3, 4] (.meth (.var 0) 1914939439053977769006334063 [(.item (.var 1) (.cst (.int 2))), (.var 2)]),
      .ite (.and [(.cmp .ne (.var 3) (.cst (.str 0))), (.glob 999)]) [.raise] []] [],
    .ite (.and [(.cmp .eq (.item (.var 1) (.cst (.int 0))) (.cst (.str 435406826897519))), (.cmp .eq (.item (.var 1) (.cst (.int 2))) (.cst (.str 47)))]) [.asgT [3, 4] (.meth (.var 0) 1914939439053977769006334063 [(.item (.var 1) (.cst (.int 4))), (.var 2)]),
      .ite (.and [(.cmp .ne (.var 3) (.cst (.str 0))), (.glob 999)]) [.raise] []] [],
    .ret (.tup [(.cst (.str 0)), (.tup [])])] }
noncomputable def f_Opener_call_of : FDef :=
  { params := 3, slots := 5, body := [.asgT [3, 4] (.meth (.var 0) 1914939439053977769006334063 [(.var 1), (.var 2)]),
    .ite (.and [(.cmp .ne (.var 3) (.cst (.str 0))), (.glob 999)]) [.raise] [],
    .ret (.tup [(.var 3), (.var 4)])] }
noncomputable def f_Opener_truth : FDef :=
  { params := 3, slots := 4, body := [.asg (.attr (.var 0) 4259307989734766077997039554134133) (.bin .add (.attr (.var 0) 4259307989734766077997039554134133) (.cst (.int 1))),
    .expr (.meth (.var 0) 2243767363446240513821245541 [(.cst (.int 1)), (.cst (.int 0))]),
    .asg (.name 3) (.meth (.var 0) 20873507288947498888387828772211953481738616935 [(.var 1), (.var 2)]),
    .asg (.attr (.var 0) 4259307989734766077997039554134133) (.bin .sub (.attr (.var 0) 4259307989734766077997039554134133) (.cst (.int 1))),
    .ret (.var 3)] }
noncomputable def f_Opener_truth_of : FDef :=
  { params := 3, slots := 11, body := [.asg (.name 3) (.item (.var 1) (.cst (.int 0))),
    .ite (.cmp .eq (.var 3) (.cst (.str 1914939503617617211324104812))) [.raise] [],
    .ite (.and [(.cmp .eq (.var 3) (.cst (.str 247464047))), (.glob 999)]) [.raise] [],
    .ite (.and [(.cmp .eq (.var 3) (.cst (.str 247464047))), (.glob 999)]) [.raise] [],
    .ite (.and [(.cmp .eq (.var 3) (.cst (.str 435406826897519))), (.cmp .notIn (.item (.var 1) (.cst (.int 2))) (.glob 7))]) [.ret (.meth (.var 0) 17840605686735234431804093745855180624776659045 [(.var 1), (.var 2)])] [],
    .ite (.cmp .eq (.var 3) (.cst (.str 222298215))) [.raise,
      .raise,
      .raise,
      .raise,
      .raise] [],
    .ite (.cmp .eq (.var 3) (.cst (.str 479387283619957))) [.raise] [],
    .ite (.and [(.cmp .eq (.var 3) (.cst (.str 2205081783335414972318482549))), (.cmp .ne (.item (.var 1) (.cst (.int 2))) (.cst (.str 510173642752110)))]) [.ret (.meth (.var 0) 89448743878319145170253840814305577080801377922401295138917 [(.item (.var 1) (.cst (.int 2))), (.item (.var 1) (.cst (.int 3))), (.item (.var 1) (.cst (.int 4))), (.var 2)])] [],
    .raise,
    .raise,
    .raise,
    .raise,
    .raise] }
noncomputable def f_Opener_compared : FDef :=
  { params := 3, slots := 8, body := [.asgT [3, 4, 5] (.sl (.var 1) (.cst (.int 2)) (.cst (.int 5))),
    .ite (.cmp .in_ (.var 3) (.tup [(.cst (.str 81788967)), (.cst (.str 262144125))])) [.raise] [],
    .ite (.cmp .in_ (.var 3) (.tup [(.cst (.str 130023487)), (.cst (.str 268280967200831))])) [.raise] [],
    .ite (.cmp .in_ (.var 3) (.tup [(.cst (.str 71303230)), (.cst (.str 149533803675759))])) [.raise] [],
    .ite (.and [(.cmp .eq (.var 3) (.cst (.str 62))), (.glob 999)]) [.raise] [],
    .ite (.cmp .eq (.var 3) (.cst (.str 222298223))) [.ret (.meth (.var 0) 8421993124555260641663923658296188207205 [(.meth (.var 0) 940784479923051954291 [(.var 4), (.var 2)]), (.var 5), (.var 2)])] [],
    .raise,
    .raise,
    .raise] }
noncomputable def f_Opener_decls_of : FDef :=
  { params := 3, slots := 20, body := [.asgTs true [3, 2, 4] [(.mut (.list [])), (.mut (.bi .dict [(.var 2)])), (.mut (.list []))],
    .for_ (.many [5, 6, 7, 8, 9]) (.val (.var 1)) [.ite (.cmp .notIn (.var 8) (.tup [(.cst (.str 0)), (.cst (.str 492581442027622))])) [.raise] [],
      .asgTs true [10, 11] [(.meth (.var 0) 940784479923051954291 [(.var 9), (.var 2)]), (.comp (.gen (.one 14) (.val (.var 7)) [] (.elt (.meth (.var 0) 1992310811413141719202398313 [(.var 14)]))))],
      .ite (.cmp .ne (.meth (.var 0) 1895596745843988977414045818 [(.var 10)]) (.cst (.int 1))) [.raise] [],
      .for_ (.many [12, 13]) (.enum (.var 11)) [.mth .app (.var 3) (.tup [(.var 13), (.var 10)]),
        .mth .ext (.var 4) (.comp (.gen (.one 15) (.val (.sl (.var 11) (.cst .none) (.var 12))) [(.glob 999)] (.elt (.glob 999))))],
      .mth .upd (.var 2) (.comp (.gen (.many [16, 17]) (.zip (.var 7) (.var 11)) [] (.elt (.tup [(.var 16), (.tup [(.cst (.str 523367740342387)), (.var 17)])])))),
      .asg (.item (.var 2) (.cst (.str 0))) (.bi .dict [(.comp (.gen (.many [18, 19]) (.items (.get (.var 2) [(.cst (.str 0)), (.dict [])])) [(.glob 999)] (.elt (.glob 999))))])],
    .ret (.tup [(.bi .tuple [(.var 3)]), (.var 2), (.var 4)])] }
noncomputable def f_Opener_quantified : FDef :=
  { params := 5, slots := 9, body := [.asgT [5, 6, 7] (.meth (.var 0) 18019010797617156466320776713756646825720283239 [(.var 2), (.var 4)]),
    .asg (.name 8) (.meth (.var 0) 2263110195006889023082856553 [(.var 3), (.var 6)]),
    .ite (.cmp .eq (.var 1) (.cst (.str 431008786677869))) [.ret (.tup [(.cst (.str 431008786677869)), (.var 5), (.ite (.cmp .ne (.var 7) (.list [])) (.glob 999) (.var 8))])] [],
    .asg (.name 8) (.call 1 [(.bin .add (.var 7) (.list [(.var 8)]))]),
    .ite (.cmp .in_ (.var 1) (.tup [(.cst (.str 1069911648856593924198)), (.cst (.str 232783984))])) [.ret (.ite (.cmp .eq (.var 1) (.cst (.str 1069911648856593924198))) (.tup [(.cst (.str 4137613899626305218353401740394612)), (.var 5), (.var 8)]) (.glob 999))] [],
    .raise] }
noncomputable def f_Opener_expr : FDef :=
  { params := 3, slots := 4, body := [.asg (.attr (.var 0) 4259307989734766077997039554134133) (.bin .add (.attr (.var 0) 4259307989734766077997039554134133) (.cst (.int 1))),
    .expr (.meth (.var 0) 2243767363446240513821245541 [(.cst (.int 1)), (.cst (.int 0))]),
    .asg (.name 3) (.meth (.var 0) 8677205264829240640962846540743768539239 [(.var 1), (.var 2)]),
    .asg (.attr (.var 0) 4259307989734766077997039554134133) (.bin .sub (.attr (.var 0) 4259307989734766077997039554134133) (.cst (.int 1))),
    .ret (.var 3)] }
noncomputable def f_Opener_expr_of : FDef :=
  { params := 3, slots := 11, body := [.asg (.name 3) (.item (.var 1) (.cst (.int 0))),
    .ite (.cmp .in_ (.var 3) (.tup [(.cst (.str 1088358388532248576119)), (.cst (.str 977677880109517766767))])) [.ret (.ite (.cmp .eq (.var 3) (.cst (.str 1088358388532248576119))) (.meth (.var 0) 36666172523616778228990244614959704116709096171765876 []) (.meth (.var 0) 91018011829279573097763269729629267967873546277711125676148 []))] [],
    .ite (.cmp .eq (.var 3) (.cst (.str 1023794788672322142310))) [.ret (.tup [(.cst (.str 1023794788672322142310)), (.cst (.int 1))])] [],
    .ite (.and [(.cmp .eq (.var 3) (.cst (.str 247464047))), (.cmp .in_ (.item (.var 1) (.cst (.int 2))) (.glob 8))]) [.ret (.meth (.var 0) 4746086129707498999895960322048101 [(.item (.var 1) (.cst (.int 2))), (.meth (.var 0) 940784479923051954291 [(.item (.var 1) (.cst (.int 3))), (.var 2)])])] [],
    .ite (.cmp .eq (.var 3) (.cst (.str 1895596745844028559822159992))) [.ret (.tup [(.cst (.str 9612981530472886828724840677988351606901)), (.meth (.var 0) 940784479923051954291 [(.item (.var 1) (.cst (.int 4))), (.var 2)]), (.meth (.var 0) 940784479923051954291 [(.item (.var 1) (.cst (.int 5))), (.var 2)])])] [],
    .ite (.cmp .eq (.var 3) (.cst (.str 1934282344401558592617971827))) [.raise,
      .raise] [],
    .ite (.cmp .eq (.var 3) (.cst (.str 222298215))) [.raise] [],
    .ite (.cmp .eq (.var 3) (.cst (.str 479387283619957))) [.raise] [],
    .ite (.and [(.cmp .eq (.var 3) (.cst (.str 1023794727099668889702))), (.cmp .in_ (.item (.var 1) (.cst (.int 2))) (.var 2))]) [.ret (.meth (.var 0) 4867780200473109852296548783751269 [(.meth (.var 0) 1088358410522472743013 [(.item (.var 1) (.cst (.int 2))), (.var 2)]), (.cst (.str 510173609197685)), (.item (.var 1) (.cst (.int 1)))])] [],
    .asgT [7, 8] (.ite (.cmp .in_ (.var 3) (.tup [(.cst (.str 1023794727099668889702)), (.cst (.str 435406839480441)), (.cst (.str 435406826897519))])) (.meth (.var 0) 8507063148377852269946524166966015426663 [(.var 1), (.var 2)]) (.glob 999)),
    .ite (.cmp .ne (.var 7) (.cst (.str 0))) [.raise] [],
    .ite (.cmp .eq (.var 3) (.cst (.str 1023794727099668889702))) [.ret (.meth (.var 0) 2147053159526524811376328805 [(.item (.var 1) (.cst (.int 2))), (.item (.var 1) (.cst (.int 1)))])] [],
    .ite (.cmp .eq (.var 3) (.cst (.str 435406839480441))) [.asg (.name 9) (.meth (.var 0) 940784479923051954291 [(.item (.var 1) (.cst (.int 2))), (.var 2)]),
      .for_ (.one 10) (.val (.item (.var 1) (.cst (.int 3)))) [.asg (.name 9) (.tup [(.cst (.str 986901300524892553327)), (.meth (.var 0) 940784479923051954291 [(.var 10), (.var 2)]), (.var 9)])],
      .ret (.var 9)] [],
    .ite (.or [(.cmp .ne (.var 3) (.cst (.str 435406826897519))), (.cmp .notIn (.item (.var 1) (.cst (.int 2))) (.glob 7))]) [.raise] [],
    .ret (.tup [(.item (.glob 7) (.item (.var 1) (.cst (.int 2)))), (.meth (.var 0) 940784479923051954291 [(.item (.var 1) (.cst (.int 3))), (.var 2)]), (.meth (.var 0) 940784479923051954291 [(.item (.var 1) (.cst (.int 4))), (.var 2)])])] }
noncomputable def f_Opener_all_atoms : FDef :=
  { params := 1, slots := 4, body := [.asg (.name 1) (.comp (.gen (.one 2) (.val (.meth (.attr (.var 0) 91018014822433855916448552147567129127201744206719258460276) 2147053159526524811376328820 [])) [(.cmp .eq (.meth (.attr (.var 0) 91018014822433855916448552147567129127201744206719258460276) 514571676680305 [(.var 2)]) (.var 2))] (.elt (.var 2)))),
    .ret (.ite (.cmp .ne (.var 1) (.list [])) (.call 2 [(.comp (.gen (.one 3) (.val (.var 1)) [] (.elt (.meth (.var 0) 505775562686573 [(.var 3)]))))]) (.glob 999))] }
noncomputable def f_Opener_same_atoms : FDef :=
  { params := 1, slots := 1, body := [.ret (.tup [(.cst (.str 1895596653610251016640397413)), (.meth (.var 0) 36666172523616778228990244614959704116709096171765876 []), (.tup [(.cst (.str 977677880109517766767))])])] }
noncomputable def f_Opener_turned : FDef :=
  { params := 3, slots := 3, body := [.ite (.cmp .eq (.var 1) (.cst (.str 43))) [.ret (.tup [(.cst (.str 2282452971227182165890433135)), (.tup [(.cst (.str 8507063594590921578787178697020942581862)), (.var 2)]), (.meth (.var 0) 91018011829279573097763269729629267967873546277711125676148 [])])] [],
    .ret (.tup [(.ite (.cmp .eq (.var 1) (.cst (.str 127))) (.cst (.str 1079135047281738252399)) (.cst (.str 8507063594590921578787178697020942581862))), (.var 2)])] }
noncomputable def f_Opener_wanted : FDef :=
  { params := 4, slots := 5, body := [.asg (.name 4) (.cmp .in_ (.item (.var 1) (.cst (.int 0))) (.glob 2)),
    .ite (.or [(.cmp .in_ (.item (.var 1) (.cst (.int 0))) (.glob 4)), (.cmp .ne (.var 4) (.cmp .eq (.var 2) (.cst (.str 4502697214463632837895632474603635))))]) [.raise] [],
    .ret (.var 1)] }
noncomputable def f_Opener_is_marked : FDef :=
  { params := 2, slots := 2, body := [.ite (.cmp .ne (.item (.var 1) (.cst (.int 0))) (.cst (.str 1895596745844028559822159992))) [.ret (.cst (.bool false))] [],
    .raise] }
noncomputable def f_Opener_bounded : FDef :=
  { params := 4, slots := 5, body := [.asg (.name 4) (.list [(.tup [(.cst (.str 222298223)), (.var 1), (.meth (.var 0) 940784479923051954291 [(.var 2), (.var 3)])])]),
    .ite (.meth (.var 0) 39659329125711092606061701497258847366907394231631973 [(.var 2)]) [.raise] [],
    .ret (.call 1 [(.var 4)])] }
noncomputable def f_Signatures___init : FDef :=
  { params := 2, slots := 4, body := [.asg (.attr (.var 0) 8677204859181125939181893442046368153716) (.mut (.dict [])),
    .asg (.attr (.var 0) 4705521291157225747889372490891380) (.mut (.list [])),
    .asg (.attr (.var 0) 4543261936956796822649674720608357) (.mut (.list [])),
    .for_ (.one 2) (.val (.var 1)) [.ite (.cmp .eq (.item (.var 2) (.cst (.int 0))) (.cst (.str 510173617586280))) [.expr (.meth (.var 0) 20873505842747033825917143739743621578993172584 [(.var 2)])] []],
    .for_ (.one 3) (.val (.attr (.var 0) 4705521291157225747889372490891380)) [.expr (.meth (.var 0) 85525553048838452435796612866680672575463731298935710416998 [(.var 3)])],
    .asg (.attr (.var 0) 9527910938742439441923968210238380703845) (.meth (.var 0) 817781968424305856020720693277975001885178188133497416857951756894079352307829 []),
    .asg (.attr (.var 0) 87879469192763632568941775319736026401969400547484486336628) (.meth (.var 0) 76894537040247973696483349677575856673244932794782289231988 []),
    .expr (.meth (.var 0) 179360084627477658202635738266585308677210351137292936563493175412 []),
    .for_ (.one 2) (.val (.var 1)) [.ite (.cmp .eq (.item (.var 2) (.cst (.int 0))) (.cst (.str 1033018165107204554863))) [.raise] []]] }
noncomputable def f_Signatures_take_sig : FDef :=
  { params := 2, slots := 3, body := [.for_ (.one 2) (.val (.item (.var 1) (.cst (.int 2)))) [.ite (.cmp .in_ (.var 2) (.attr (.var 0) 8677204859181125939181893442046368153716)) [.raise] [],
      .asg (.item (.attr (.var 0) 8677204859181125939181893442046368153716) (.var 2)) (.var 1),
      .mth .app (.attr (.var 0) 4705521291157225747889372490891380) (.var 2)],
    .ite (.and [(.cmp .gt (.bi .len [(.item (.var 1) (.cst (.int 6)))]) (.cst (.int 0))), (.item (.var 1) (.cst (.int 3)))]) [.raise] []] }
noncomputable def f_Signatures_look_above : FDef :=
  { params := 2, slots := 3, body := [.for_ (.one 2) (.val (.meth (.var 0) 4097048790276888180281264314515573 [(.var 1)])) [.ite (.cmp .notIn (.var 2) (.attr (.var 0) 8677204859181125939181893442046368153716)) [.raise] []],
    .ite (.and [(.cmp .ne (.meth (.var 0) 4583826466022023359783464006058101 [(.var 1)]) (.cst (.str 0))), (.meth (.var 0) 39659329125711092606305090799358782114758691848716405 [(.meth (.var 0) 4583826466022023359783464006058101 [(.var 1)])])]) [.raise] []] }
noncomputable def f_Signatures_direct : FDef :=
  { params := 2, slots := 2, body := [.ret (.bin .add (.ite (.cmp .ne (.meth (.var 0) 4583826466022023359783464006058101 [(.var 1)]) (.cst (.str 0))) (.tup [(.meth (.var 0) 4583826466022023359783464006058101 [(.var 1)])]) (.tup [])) (.meth (.var 0) 4705521310500177212264409718587508 [(.var 1)]))] }
noncomputable def f_Signatures_parents_first : FDef :=
  { params := 1, slots := 6, body := [.asgTs false [1, 2] [(.mut (.list [])), (.mut (.bi .list [(.attr (.var 0) 4705521291157225747889372490891380)]))],
    .while_ (.cmp .gt (.bi .len [(.var 2)]) (.cst (.int 0))) [.asg (.name 3) (.comp (.gen (.one 4) (.val (.var 2)) [(.cmp .eq (.comp (.gen (.one 5) (.val (.meth (.var 0) 4097048790276888180281264314515573 [(.var 4)])) [(.cmp .notIn (.var 5) (.var 1))] (.elt (.var 5)))) (.list []))] (.elt (.var 4)))),
      .ite (.cmp .eq (.bi .len [(.var 3)]) (.cst (.int 0))) [.raise] [],
      .mth .app (.var 1) (.item (.var 3) (.cst (.int 0))),
      .mth .rem (.var 2) (.item (.var 3) (.cst (.int 0)))],
    .ret (.var 1)] }
noncomputable def f_Signatures_all_fields : FDef :=
  { params := 1, slots := 10, body := [.asgTs true [1, 2] [(.mut (.list [])), (.cst (.int 0))],
    .for_ (.one 3) (.val (.attr (.var 0) 9527910938742439441923968210238380703845)) [.for_ (.many [4, 5, 6, 7, 8]) (.val (.item (.item (.attr (.var 0) 8677204859181125939181893442046368153716) (.var 3)) (.cst (.int 7)))) [.for_ (.one 9) (.val (.var 6)) [.mth .app (.var 1) (.tup [(.var 9), (.var 3), (.var 7), (.var 8), (.var 4), (.ite (.var 5) (.glob 999) (.cst (.int (-1))))])],
        .asg (.name 2) (.bin .add (.var 2) (.ite (.var 5) (.cst (.int 1)) (.cst (.int 0))))]],
    .ret (.var 1)] }
noncomputable def f_Signatures_look_fields : FDef :=
  { params := 1, slots := 9, body := [.asg (.name 1) (.mut (.dict [])),
    .for_ (.many [2, 3, 4, 5, 6, 7]) (.val (.attr (.var 0) 87879469192763632568941775319736026401969400547484486336628)) [.ite (.cmp .in_ (.var 2) (.attr (.var 0) 8677204859181125939181893442046368153716)) [.raise] [],
      .for_ (.one 8) (.val (.bin .add (.list [(.var 3)]) (.meth (.var 0) 36666172523616778228990244614959538096012432804675686 [(.var 3)]))) [.ite (.cmp .in_ (.tup [(.var 2), (.var 8)]) (.var 1)) [.raise] []],
      .asg (.item (.var 1) (.tup [(.var 2), (.var 3)])) (.cst (.bool true))]] }
noncomputable def f_Signatures_names : FDef :=
  { params := 1, slots := 1, body := [.ret (.bi .list [(.attr (.var 0) 9527910938742439441923968210238380703845)])] }
noncomputable def f_Signatures_has : FDef :=
  { params := 2, slots := 2, body := [.ret (.cmp .in_ (.var 1) (.attr (.var 0) 8677204859181125939181893442046368153716))] }
noncomputable def f_Signatures_parent : FDef :=
  { params := 2, slots := 2, body := [.ret (.item (.item (.attr (.var 0) 8677204859181125939181893442046368153716) (.var 1)) (.cst (.int 5)))] }
noncomputable def f_Signatures_supers : FDef :=
  { params := 2, slots := 2, body := [.ret (.bi .tuple [(.item (.item (.attr (.var 0) 8677204859181125939181893442046368153716) (.var 1)) (.cst (.int 6)))])] }
noncomputable def f_Signatures_is_subset : FDef :=
  { params := 2, slots := 2, body := [.ret (.cmp .gt (.bi .len [(.item (.item (.attr (.var 0) 8677204859181125939181893442046368153716) (.var 1)) (.cst (.int 6)))]) (.cst (.int 0)))] }
noncomputable def f_Signatures_above : FDef :=
  { params := 2, slots := 3, body := [.asg (.name 2) (.mut (.list [])),
    .while_ (.cmp .ne (.meth (.var 0) 4583826466022023359783464006058101 [(.var 1)]) (.cst (.str 0))) [.asg (.name 1) (.meth (.var 0) 4583826466022023359783464006058101 [(.var 1)]),
      .mth .app (.var 2) (.var 1)],
    .ret (.var 2)] }
noncomputable def f_Signatures_top : FDef :=
  { params := 2, slots := 2, body := [.ite (.meth (.var 0) 39659329125711092606305090799358782114758691848716405 [(.var 1)]) [.ret (.cst (.str 0))] [],
    .ret (.item (.bin .add (.list [(.var 1)]) (.meth (.var 0) 1895596598270062776020893798 [(.var 1)])) (.cst (.int (-1))))] }
noncomputable def f_Signatures_all_above : FDef :=
  { params := 2, slots := 5, body := [.asgTs true [2, 3] [(.list []), (.bi .list [(.meth (.var 0) 4097048790276888180281264314515573 [(.var 1)])])],
    .while_ (.cmp .gt (.bi .len [(.var 3)]) (.cst (.int 0))) [.raise,
      .raise],
    .ret (.var 2)] }
noncomputable def f_Signatures_fields : FDef :=
  { params := 1, slots := 1, body := [.ret (.bi .list [(.attr (.var 0) 87879469192763632568941775319736026401969400547484486336628)])] }
noncomputable def f_Signatures_orders : FDef :=
  { params := 1, slots := 1, body := [.ret (.bi .list [(.attr (.var 0) 4543261936956796822649674720608357)])] }
noncomputable def f_law_next : FDef :=
  { params := 2, slots := 3, body := [.asg (.name 2) (.item (.var 0) (.cst (.str 1069911653254644629621))),
    .asg (.item (.var 0) (.cst (.str 1069911653254644629621))) (.bin .add (.var 2) (.cst (.int 1))),
    .ite (.cmp .lt (.var 2) (.bi .len [(.item (.var 0) (.cst (.str 1934282252167833826015314036)))])) [.ret (.bin .mod (.bi .int [(.item (.item (.var 0) (.cst (.str 1934282252167833826015314036))) (.var 2))]) (.var 1))] [],
    .ret (.bin .mod (.bi .int [(.bin .mod (.bin .add (.bin .add (.bin .add (.bin .mul (.bin .mul (.cst (.int 9)) (.var 2)) (.var 2)) (.bin .mul (.cst (.int 4)) (.var 2))) (.bin .mul (.cst (.int 7)) (.bi .len [(.item (.var 0) (.cst (.str 1934282252167833826015314036)))]))) (.cst (.int 1))) (.cst (.int 73)))]) (.var 1))] }
noncomputable def f_law_one : FDef :=
  { params := 3, slots := 4, body := [.asg (.name 3) (.call 75 [(.var 0), (.ite (.cmp .gt (.var 2) (.cst (.int 0))) (.cst (.int 7)) (.cst (.int 3)))]),
    .ite (.cmp .eq (.var 3) (.cst (.int 0))) [.ret (.tup [(.cst (.str 1023794727099668889702)), (.cst (.int 0)), (.item (.var 1) (.call 75 [(.var 0), (.bi .len [(.var 1)])]))])] [],
    .ite (.cmp .lt (.var 3) (.cst (.int 3))) [.ret (.item (.tup [(.tup [(.cst (.str 1088358388532248576119)), (.cst (.int 0))]), (.tup [(.cst (.str 1023794788672322142310)), (.cst (.int 0))])]) (.bin .sub (.var 3) (.cst (.int 1))))] [],
    .ite (.cmp .eq (.var 3) (.cst (.int 3))) [.ret (.tup [(.cst (.str 435406826897519)), (.cst (.int 0)), (.cst (.str 47)), (.call 76 [(.var 0), (.var 1), (.cst (.int 0))]), (.call 77 [(.var 0), (.var 1), (.bin .sub (.var 2) (.cst (.int 1)))])])] [],
    .ite (.cmp .eq (.var 3) (.cst (.int 4))) [.ret (.tup [(.cst (.str 435406839480441)), (.cst (.int 0)), (.call 77 [(.var 0), (.var 1), (.bin .sub (.var 2) (.cst (.int 1)))]), (.tup [(.call 76 [(.var 0), (.var 1), (.cst (.int 0))])])])] [],
    .ite (.cmp .eq (.var 3) (.cst (.int 5))) [.ret (.tup [(.cst (.str 435406826897519)), (.cst (.int 0)), (.cst (.str 47)), (.call 77 [(.var 0), (.var 1), (.bin .sub (.var 2) (.cst (.int 1)))]), (.call 76 [(.var 0), (.var 1), (.cst (.int 0))])])] [],
    .ret (.tup [(.cst (.str 435406826897519)), (.cst (.int 0)), (.sidx [(.str 44), (.str 39), (.str 46)] (.call 75 [(.var 0), (.cst (.int 3))])), (.call 76 [(.var 0), (.var 1), (.cst (.int 0))]), (.call 76 [(.var 0), (.var 1), (.bin .sub (.var 2) (.cst (.int 1)))])])] }
noncomputable def f_law_two : FDef :=
  { params := 3, slots := 5, body := [.asg (.name 3) (.call 75 [(.var 0), (.ite (.cmp .gt (.var 2) (.cst (.int 0))) (.cst (.int 8)) (.cst (.int 2)))]),
    .ite (.cmp .eq (.var 3) (.cst (.int 0))) [.ret (.tup [(.cst (.str 977677880109517766767)), (.cst (.int 0))])] [],
    .ite (.cmp .eq (.var 3) (.cst (.int 1))) [.ret (.tup [(.cst (.str 1023794727099668889702)), (.cst (.int 0)), (.cst (.str 103))])] [],
    .ite (.cmp .lt (.var 3) (.cst (.int 4))) [.ret (.tup [(.cst (.str 247464047)), (.cst (.int 0)), (.sidx [(.str 43), (.str 95), (.str 127)] (.call 75 [(.var 0), (.cst (.int 3))])), (.call 77 [(.var 0), (.var 1), (.bin .sub (.var 2) (.cst (.int 1)))])])] [],
    .ite (.cmp .eq (.var 3) (.cst (.int 4))) [.ret (.tup [(.cst (.str 1895596745844028559822159992)), (.cst (.int 0)), (.cst (.str 0)), (.cst (.str 0)), (.call 76 [(.var 0), (.var 1), (.cst (.int 0))]), (.call 76 [(.var 0), (.var 1), (.bin .sub (.var 2) (.cst (.int 1)))])])] [],
    .ite (.cmp .eq (.var 3) (.cst (.int 5))) [.asg (.name 4) (.item (.tup [(.cst (.str 44)), (.cst (.str 39)), (.cst (.str 46)), (.cst (.str 92274732))]) (.call 75 [(.var 0), (.cst (.int 4))])),
      .ret (.tup [(.cst (.str 435406826897519)), (.cst (.int 0)), (.var 4), (.call 77 [(.var 0), (.var 1), (.cst (.int 0))]), (.call 77 [(.var 0), (.var 1), (.bin .sub (.var 2) (.cst (.int 1)))])])] [],
    .ite (.cmp .eq (.var 3) (.cst (.int 6))) [.ret (.tup [(.cst (.str 435406826897519)), (.cst (.int 0)), (.cst (.str 127926331)), (.call 76 [(.var 0), (.var 1), (.cst (.int 0))]), (.call 77 [(.var 0), (.var 1), (.bin .sub (.var 2) (.cst (.int 1)))])])] [],
    .ret (.tup [(.cst (.str 435406826897519)), (.cst (.int 0)), (.cst (.str 123732031)), (.call 77 [(.var 0), (.var 1), (.bin .sub (.var 2) (.cst (.int 1)))]), (.call 76 [(.var 0), (.var 1), (.cst (.int 0))])])] }
noncomputable def f_law_steps : FDef :=
  { params := 1, slots := 7, body := [.asgTs false [1, 2] [(.mut (.bi .list [(.var 0)])), (.cst (.int 0))],
    .while_ (.cmp .lt (.var 2) (.bi .len [(.var 1)])) [.asgT [3, 4] (.item (.var 1) (.var 2)),
      .mth .ext (.var 1) (.comp (.gen (.many [5, 6]) (.val (.var 0)) [(.and [(.cmp .eq (.var 4) (.var 5)), (.cmp .notIn (.tup [(.var 3), (.var 6)]) (.var 1))])] (.elt (.tup [(.var 3), (.var 6)])))),
      .asg (.name 2) (.bin .add (.var 2) (.cst (.int 1)))],
    .ret (.var 1)] }
noncomputable def f_law_mixed : FDef :=
  { params := 3, slots := 12, body := [.ite (.cmp .in_ (.var 0) (.tup [(.cst (.str 44)), (.cst (.str 2282452971227182165890433135))])) [.ret (.bin .add (.var 1) (.var 2))] [],
    .ite (.cmp .in_ (.var 0) (.tup [(.cst (.str 39)), (.cst (.str 1014571372654983381109)), (.cst (.str 46)), (.cst (.str 2127710420199671437499302004))])) [.ret (.comp (.gen (.one 3) (.val (.var 1)) [(.cmp .eq (.cmp .in_ (.var 3) (.var 2)) (.cmp .in_ (.var 0) (.tup [(.cst (.str 39)), (.cst (.str 1014571372654983381109))])))] (.elt (.var 3))))] [],
    .ite (.cmp .in_ (.var 0) (.tup [(.cst (.str 92274732)), (.cst (.str 19981477821287991846518861117233156356625662054))])) [.ret (.bin .add (.var 2) (.comp (.gen (.one 4) (.val (.var 1)) [(.cmp .notIn (.item (.var 4) (.cst (.int 0))) (.comp (.gen (.one 5) (.val (.var 2)) [] (.elt (.item (.var 5) (.cst (.int 0)))))))] (.elt (.var 4)))))] [],
    .ite (.cmp .in_ (.var 0) (.tup [(.cst (.str 127926331)), (.cst (.str 1895596653610251016640397413))])) [.ret (.comp (.gen (.one 6) (.val (.var 2)) [(.cmp .in_ (.sl (.var 6) (.cst .none) (.cst (.int 1))) (.var 1))] (.elt (.var 6))))] [],
    .ite (.cmp .in_ (.var 0) (.tup [(.cst (.str 123732031)), (.cst (.str 4015919074490936809546431789531237))])) [.ret (.comp (.gen (.one 7) (.val (.var 1)) [(.cmp .in_ (.sl (.var 7) (.cst (.int (-1))) (.cst .none)) (.var 2))] (.elt (.var 7))))] [],
    .ite (.cmp .eq (.var 0) (.cst (.str 9612981530472886828724840677988351606901))) [.ret (.comp (.gen (.one 8) (.val (.var 1)) [] (.gen (.one 9) (.val (.var 2)) [] (.elt (.bin .add (.var 8) (.var 9))))))] [],
    .ret (.comp (.gen (.one 10) (.val (.var 1)) [] (.gen (.one 11) (.val (.var 2)) [(.cmp .eq (.item (.var 10) (.cst (.int (-1)))) (.item (.var 11) (.cst (.int 0))))] (.elt (.bin .add (.sl (.var 10) (.cst .none) (.cst (.int (-1)))) (.sl (.var 11) (.cst (.int 1)) (.cst .none)))))))] }
noncomputable def f_law_meant : FDef :=
  { params := 2, slots := 8, body := [.asg (.name 2) (.item (.var 0) (.cst (.int 0))),
    .ite (.cmp .eq (.var 2) (.cst (.str 1023794727099668889702))) [.ret (.item (.var 1) (.item (.var 0) (.cst (.int 2))))] [],
    .ite (.cmp .eq (.var 2) (.cst (.str 1088358388532248576119))) [.ret (.item (.var 1) (.cst (.str 431008786677869)))] [],
    .ite (.cmp .eq (.var 2) (.cst (.str 977677880109517766767))) [.ret (.comp (.gen (.many [4]) (.val (.item (.var 1) (.cst (.str 431008786677869)))) [] (.elt (.tup [(.var 4), (.var 4)]))))] [],
    .ite (.cmp .eq (.var 2) (.cst (.str 1023794788672322142310))) [.ret (.list [])] [],
    .ite (.cmp .eq (.var 2) (.cst (.str 247464047))) [.asg (.name 3) (.call 80 [(.item (.var 0) (.cst (.int 3))), (.var 1)]),
      .ite (.cmp .eq (.item (.var 0) (.cst (.int 2))) (.cst (.str 127))) [.ret (.bi .sorted [(.comp (.gen (.many [5, 6]) (.val (.var 3)) [] (.elt (.tup [(.var 6), (.var 5)]))))])] [],
      .ret (.bi .sortedSet [(.bin .add (.call 78 [(.var 3)]) (.ite (.cmp .eq (.item (.var 0) (.cst (.int 2))) (.cst (.str 43))) (.comp (.gen (.many [7]) (.val (.item (.var 1) (.cst (.str 431008786677869)))) [] (.elt (.tup [(.var 7), (.var 7)])))) (.list [])))])] [],
    .ite (.cmp .eq (.var 2) (.cst (.str 1895596745844028559822159992))) [.ret (.call 79 [(.cst (.str 9612981530472886828724840677988351606901)), (.call 80 [(.item (.var 0) (.cst (.int 4))), (.var 1)]), (.call 80 [(.item (.var 0) (.cst (.int 5))), (.var 1)])])] [],
    .ite (.cmp .eq (.var 2) (.cst (.str 435406839480441))) [.ret (.bi .sortedSet [(.call 79 [(.cst (.str 47)), (.call 80 [(.item (.item (.var 0) (.cst (.int 3))) (.cst (.int 0))), (.var 1)]), (.call 80 [(.item (.var 0) (.cst (.int 2))), (.var 1)])])])] [],
    .ret (.bi .sortedSet [(.call 79 [(.item (.var 0) (.cst (.int 2))), (.call 80 [(.item (.var 0) (.cst (.int 3))), (.var 1)]), (.call 80 [(.item (.var 0) (.cst (.int 4))), (.var 1)])])])] }
noncomputable def f_law_rows : FDef :=
  { params := 3, slots := 8, body := [.asg (.name 3) (.item (.var 0) (.cst (.int 0))),
    .ite (.cmp .eq (.var 3) (.cst (.str 505775562686573))) [.ret (.item (.var 1) (.item (.var 0) (.cst (.int 1))))] [],
    .ite (.cmp .eq (.var 3) (.cst (.str 523367740342387))) [.ret (.list [(.item (.var 2) (.item (.var 0) (.cst (.int 1))))])] [],
    .ite (.cmp .eq (.var 3) (.cst (.str 1023794788672322142310))) [.ret (.list [])] [],
    .ite (.or [(.cmp .eq (.var 3) (.cst (.str 1088358388532248576119))), (.cmp .eq (.var 3) (.cst (.str 977677880109517766767)))]) [.ret (.comp (.gen (.one 5) (.range (.cst (.int 5))) [] (.elt (.ite (.cmp .eq (.var 3) (.cst (.str 1088358388532248576119))) (.glob 999) (.tup [(.var 5), (.var 5)])))))] [],
    .ite (.cmp .in_ (.var 3) (.tup [(.cst (.str 1079135047281738252399)), (.cst (.str 8507063594590921578787178697020942581862)), (.cst (.str 1069911670846801313907))])) [.asg (.name 4) (.call 81 [(.item (.var 0) (.cst (.int 1))), (.var 1), (.var 2)]),
      .ite (.cmp .eq (.var 3) (.cst (.str 1079135047281738252399))) [.ret (.bi .sorted [(.comp (.gen (.many [6, 7]) (.val (.var 4)) [] (.elt (.tup [(.var 7), (.var 6)]))))])] [],
      .ret (.bi .sortedSet [(.bin .add (.call 78 [(.var 4)]) (.ite (.cmp .eq (.var 3) (.cst (.str 1069911670846801313907))) (.glob 999) (.list [])))])] [],
    .ret (.bi .sortedSet [(.call 79 [(.var 3), (.call 81 [(.item (.var 0) (.cst (.int 1))), (.var 1), (.var 2)]), (.call 81 [(.item (.var 0) (.cst (.int 2))), (.var 1), (.var 2)])])])] }
noncomputable def f_law_is_kept : FDef :=
  { params := 2, slots := 8, body := [.asgT [2, 3, 4] (.var 0),
    .ite (.or [(.cmp .ne (.bi .len [(.var 3)]) (.cst (.int 1))), (.cmp .ne (.item (.var 4) (.cst (.int 0))) (.cst (.str 222298223)))]) [.raise] [],
    .asg (.name 5) (.mut (.list [])),
    .for_ (.one 6) (.val (.call 81 [(.item (.item (.var 3) (.cst (.int 0))) (.cst (.int 1))), (.var 1), (.dict [])])) [.asg (.name 7) (.dict [(.item (.item (.var 3) (.cst (.int 0))) (.cst (.int 0))), (.var 6)]),
      .mth .app (.var 5) (.and [(.cmp .eq (.call 81 [(.item (.var 4) (.cst (.int 1))), (.var 1), (.var 7)]) (.list [(.var 6)])), (.cmp .in_ (.var 6) (.call 81 [(.item (.var 4) (.cst (.int 2))), (.var 1), (.var 7)]))])],
    .ret (.ite (.cmp .eq (.var 2) (.cst (.str 431008786677869))) (.cmp .notIn (.cst (.bool false)) (.var 5)) (.cmp .in_ (.cst (.bool true)) (.var 5)))] }
noncomputable def f_law_world : FDef :=
  { params := 2, slots := 9, body := [.asg (.name 2) (.mut (.dict [(.cst (.str 431008786677869)), (.list [])])),
    .for_ (.one 3) (.range (.bi .len [(.var 1)])) [.asg (.item (.var 2) (.item (.var 1) (.var 3))) (.comp (.gen (.one 4) (.val (.item (.tup [(.tup [(.cst (.int 0)), (.cst (.int 1))]), (.tup [(.cst (.int 2)), (.cst (.int 3))]), (.tup [(.cst (.int 4))])]) (.var 3))) [(.cmp .lt (.call 75 [(.var 0), (.cst (.int 3))]) (.cst (.int 2)))] (.elt (.tup [(.var 4)])))),
      .asg (.item (.var 2) (.cst (.str 431008786677869))) (.bin .add (.item (.var 2) (.cst (.str 431008786677869))) (.item (.var 2) (.item (.var 1) (.var 3))))],
    .asg (.item (.var 2) (.cst (.str 69))) (.comp (.gen (.one 5) (.val (.item (.var 2) (.cst (.str 66)))) [(.cmp .eq (.call 75 [(.var 0), (.cst (.int 2))]) (.cst (.int 0)))] (.elt (.var 5)))),
    .asg (.item (.var 2) (.cst (.str 84))) (.comp (.gen (.one 6) (.val (.item (.var 2) (.cst (.str 431008786677869)))) [(.cmp .eq (.call 75 [(.var 0), (.cst (.int 2))]) (.cst (.int 0)))] (.elt (.var 6)))),
    .asg (.item (.var 2) (.cst (.str 103))) (.comp (.gen (.one 7) (.val (.item (.var 2) (.cst (.str 66)))) [] (.gen (.one 8) (.val (.item (.var 2) (.cst (.str 431008786677869)))) [(.cmp .eq (.call 75 [(.var 0), (.cst (.int 2))]) (.cst (.int 0)))] (.elt (.bin .add (.var 7) (.var 8)))))),
    .ret (.var 2)] }
noncomputable def f_law_is_quantified_right : FDef :=
  { params := 5, slots := 14, body := [.asgTs false [5, 6] [(.call 76 [(.var 1), (.var 2), (.cst (.int 1))]), (.item (.tup [(.cst (.str 431008786677869)), (.cst (.str 1069911648856593924198))]) (.call 75 [(.var 1), (.cst (.int 2))]))],
    .asg (.name 7) (.tup [(.cst (.int 0)), (.cst (.bool false)), (.tup [(.cst (.str 121))]), (.cst (.str 0)), (.tup [(.cst (.str 1088358388532248576119)), (.cst (.int 0))])]),
    .asg (.name 8) (.meth (.var 0) 2263110195006889023082856553 [(.tup [(.cst (.str 2205081783335414972318482549)), (.cst (.int 0)), (.var 6), (.tup [(.var 7)]), (.tup [(.cst (.str 435406826897519)), (.cst (.int 0)), (.cst (.str 222298223)), (.tup [(.cst (.str 1023794727099668889702)), (.cst (.int 0)), (.cst (.str 121))]), (.var 5)])]), (.dict [])]),
    .ite (.cmp .ne (.item (.var 8) (.cst (.int 0))) (.ite (.cmp .eq (.var 6) (.cst (.str 431008786677869))) (.cst (.str 431008786677869)) (.cst (.str 4137613899626305218353401740394612)))) [.raise] [],
    .for_ (.one 9) (.val (.var 3)) [.asg (.name 10) (.comp (.gen (.one 12) (.val (.item (.var 9) (.cst (.str 431008786677869)))) [] (.elt (.cmp .in_ (.var 12) (.call 80 [(.var 5), (.var 9)]))))),
      .asg (.name 11) (.ite (.cmp .eq (.var 6) (.cst (.str 431008786677869))) (.cmp .notIn (.cst (.bool false)) (.var 10)) (.cmp .in_ (.cst (.bool true)) (.var 10))),
      .ite (.cmp .ne (.call 82 [(.var 8), (.comp (.gen (.one 13) (.val (.var 4)) [] (.elt (.item (.var 9) (.var 13)))))]) (.var 11)) [.raise] []],
    .ret (.cst (.bool true))] }
noncomputable def f_law : FDef :=
  { params := 1, slots := 18, body := [.asg (.name 1) (.mut (.dict [(.cst (.str 1934282252167833826015314036)), (.bi .list [(.sl (.var 0) (.cst .none) (.cst (.int 48)))]), (.cst (.str 1069911653254644629621)), (.cst (.int 0))])),
    .asg (.name 2) (.sl (.list [(.cst (.str 66)), (.cst (.str 67)), (.cst (.str 68))]) (.cst .none) (.bin .add (.cst (.int 1)) (.call 75 [(.var 1), (.cst (.int 3))]))),
    .asg (.name 3) (.tup [(.cst (.int 0)), (.cst (.bool false)), (.tup [(.cst (.str 103))]), (.cst (.str 510173609197685)), (.tup [(.cst (.str 1023794727099668889702)), (.cst (.int 0)), (.cst (.str 66))])]),
    .asg (.name 4) (.mut (.comp (.gen (.one 14) (.val (.var 2)) [] (.elt (.tup [(.cst (.str 510173617586280)), (.cst (.int 0)), (.tup [(.var 14)]), (.cst (.bool false)), (.cst (.str 0)), (.cst (.str 0)), (.tup []), (.ite (.cmp .eq (.var 14) (.cst (.str 66))) (.tup [(.var 3)]) (.tup [])), (.tup [])]))))),
    .mth .app (.var 4) (.tup [(.cst (.str 510173617586280)), (.cst (.int 0)), (.tup [(.cst (.str 69))]), (.cst (.bool false)), (.cst (.str 0)), (.cst (.str 66)), (.tup []), (.tup []), (.tup [])]),
    .mth .app (.var 4) (.tup [(.cst (.str 510173617586280)), (.cst (.int 0)), (.tup [(.cst (.str 84))]), (.cst (.bool false)), (.cst (.str 0)), (.cst (.str 0)), (.bi .tuple [(.var 2)]), (.tup []), (.tup [])]),
    .asgTs false [5, 6] [(.bin .add (.var 2) (.list [(.cst (.str 69)), (.cst (.str 84))])), (.bin .add (.var 2) (.list [(.cst (.str 69)), (.cst (.str 84)), (.cst (.str 103))]))],
    .asg (.name 7) (.call 75 [(.var 1), (.bi .len [(.var 6)])]),
    .asg (.name 6) (.bin .add (.sl (.var 6) (.var 7) (.cst .none)) (.sl (.var 6) (.cst .none) (.var 7))),
    .asg (.name 8) (.bi .dict [(.comp (.gen (.one 15) (.range (.bi .len [(.var 6)])) [] (.elt (.tup [(.ite (.cmp .ne (.item (.var 6) (.var 15)) (.cst (.str 103))) (.item (.var 6) (.var 15)) (.cst (.str 290271168299111))), (.var 15)]))))]),
    .asg (.name 9) (.list [(.call 83 [(.var 1), (.var 2)])]),
    .asg (.name 10) (.new 1 [(.new 2 [(.var 4)]), (.cst .none), (.var 4), (.var 8)]),
    .asg (.name 11) (.ite (.cmp .eq (.call 75 [(.var 1), (.cst (.int 2))]) (.cst (.int 0))) (.call 77 [(.var 1), (.var 5), (.cst (.int 3))]) (.call 76 [(.var 1), (.var 5), (.cst (.int 3))])),
    .asg (.name 9) (.bin .add (.var 9) (.comp (.gen (.one 16) (.range (.cst (.int 2))) [] (.elt (.call 83 [(.var 1), (.var 2)]))))),
    .asg (.name 12) (.meth (.var 10) 940784479923051954291 [(.var 11), (.dict [])]),
    .ite (.cmp .ne (.meth (.var 10) 940784479923051954291 [(.var 11), (.dict [])]) (.var 12)) [.raise] [],
    .for_ (.one 13) (.val (.var 9)) [.ite (.cmp .ne (.call 81 [(.var 12), (.comp (.gen (.one 17) (.val (.var 6)) [] (.elt (.item (.var 13) (.var 17))))), (.dict [])]) (.call 80 [(.var 11), (.var 13)])) [.raise] []],
    .ret (.call 84 [(.var 10), (.var 1), (.var 5), (.var 9), (.var 6)])] }
noncomputable def fnL : List (Nat × FDef) := [(1, f_all_of), (2, f_united), (3, f_Names___init), (4, f_Names_fresh), (5, f_Names_rel), (6, f_Names_owners), (8, f_Names_places), (9, f_Names_named), (13, f_Names_arity), (14, f_Names_arity_of_relation), (15, f_Opener___init), (16, f_Opener_spend), (18, f_Opener_used), (23, f_Opener_begun), (24, f_Opener_call_of), (26, f_Opener_truth), (27, f_Opener_truth_of), (29, f_Opener_compared), (30, f_Opener_decls_of), (31, f_Opener_quantified), (32, f_Opener_expr), (33, f_Opener_expr_of), (34, f_Opener_all_atoms), (35, f_Opener_same_atoms), (36, f_Opener_turned), (37, f_Opener_wanted), (41, f_Opener_is_marked), (42, f_Opener_bounded), (52, f_Signatures___init), (53, f_Signatures_take_sig), (54, f_Signatures_look_above), (55, f_Signatures_direct), (56, f_Signatures_parents_first), (57, f_Signatures_all_fields), (58, f_Signatures_look_fields), (60, f_Signatures_names), (61, f_Signatures_has), (63, f_Signatures_parent), (64, f_Signatures_supers), (65, f_Signatures_is_subset), (67, f_Signatures_above), (68, f_Signatures_top), (69, f_Signatures_all_above), (72, f_Signatures_fields), (74, f_Signatures_orders), (75, f_law_next), (76, f_law_one), (77, f_law_two), (78, f_law_steps), (79, f_law_mixed), (80, f_law_meant), (81, f_law_rows), (82, f_law_is_kept), (83, f_law_world), (84, f_law_is_quantified_right), (85, f_law)]
noncomputable def nmL : List (Nat × List (Str × Nat)) := [(1, [(("formulas" : Str), 0)]), (2, [(("exprs" : Str), 0), (("found" : Str), 1), (("expr" : Str), 2)]), (3, [(("self" : Str), 0), (("signatures" : Str), 1), (("kinds" : Str), 2), (("items" : Str), 3), (("numbers" : Str), 4), (("item" : Str), 5)]), (4, [(("self" : Str), 0), (("name" : Str), 1)]), (5, [(("self" : Str), 0), (("name" : Str), 1)]), (6, [(("self" : Str), 0), (("name" : Str), 1)]), (8, [(("self" : Str), 0), (("name" : Str), 1), (("last" : Str), 2), (("orders" : Str), 3)]), (9, [(("self" : Str), 0), (("name" : Str), 1), (("spot" : Str), 2), (("owners" : Str), 3), (("last" : Str), 4), (("orders" : Str), 5)]), (13, [(("self" : Str), 0), (("expr" : Str), 1), (("head" : Str), 2)]), (14, [(("self" : Str), 0), (("r" : Str), 1), (("field" : Str), 2)]), (15, [(("self" : Str), 0), (("signatures" : Str), 1), (("kinds" : Str), 2), (("items" : Str), 3), (("numbers" : Str), 4)]), (16, [(("self" : Str), 0), (("nodes" : Str), 1), (("levels" : Str), 2)]), (18, [(("self" : Str), 0), (("name" : Str), 1), (("env" : Str), 2), (("nodes" : Str), 3), (("levels" : Str), 4)]), (23, [(("self" : Str), 0), (("node" : Str), 1), (("env" : Str), 2), (("name" : Str), 3), (("args" : Str), 4)]), (24, [(("self" : Str), 0), (("node" : Str), 1), (("env" : Str), 2), (("name" : Str), 3), (("args" : Str), 4)]), (26, [(("self" : Str), 0), (("node" : Str), 1), (("env" : Str), 2), (("found" : Str), 3)]), (27, [(("self" : Str), 0), (("node" : Str), 1), (("env" : Str), 2), (("op" : Str), 3), (("before" : Str), 4), (("c" : Str), 5), (("one" : Str), 6), (("other" : Str), 7), (("name" : Str), 8), (("args" : Str), 9), (("inner" : Str), 10)]), (29, [(("self" : Str), 0), (("node" : Str), 1), (("env" : Str), 2), (("sign" : Str), 3), (("left" : Str), 4), (("right" : Str), 5), (("i" : Str), 6), (("j" : Str), 7)]), (30, [(("self" : Str), 0), (("decls" : Str), 1), (("env" : Str), 2), (("found" : Str), 3), (("apart" : Str), 4), (("spot" : Str), 5), (("is_disj" : Str), 6), (("names" : Str), 7), (("mult" : Str), 8), (("node" : Str), 9), (("domain" : Str), 10), (("some" : Str), 11), (("k" : Str), 12), (("name" : Str), 13)]), (31, [(("self" : Str), 0), (("q" : Str), 1), (("decls" : Str), 2), (("body" : Str), 3), (("env" : Str), 4), (("told" : Str), 5), (("inner" : Str), 6), (("apart" : Str), 7), (("formula" : Str), 8)]), (32, [(("self" : Str), 0), (("node" : Str), 1), (("env" : Str), 2), (("found" : Str), 3)]), (33, [(("self" : Str), 0), (("node" : Str), 1), (("env" : Str), 2), (("op" : Str), 3), (("told" : Str), 4), (("inner" : Str), 5), (("apart" : Str), 6), (("name" : Str), 7), (("args" : Str), 8), (("found" : Str), 9), (("one" : Str), 10)]), (34, [(("self" : Str), 0), (("tops" : Str), 1)]), (35, [(("self" : Str), 0)]), (36, [(("self" : Str), 0), (("sign" : Str), 1), (("expr" : Str), 2)]), (37, [(("self" : Str), 0), (("value" : Str), 1), (("form" : Str), 2), (("spot" : Str), 3), (("is_number" : Str), 4)]), (41, [(("self" : Str), 0), (("node" : Str), 1)]), (42, [(("self" : Str), 0), (("value" : Str), 1), (("node" : Str), 2), (("env" : Str), 3), (("found" : Str), 4)]), (52, [(("self" : Str), 0), (("items" : Str), 1), (("item" : Str), 2), (("name" : Str), 3)]), (53, [(("self" : Str), 0), (("item" : Str), 1), (("name" : Str), 2)]), (54, [(("self" : Str), 0), (("name" : Str), 1), (("other" : Str), 2)]), (55, [(("self" : Str), 0), (("name" : Str), 1)]), (56, [(("self" : Str), 0), (("found" : Str), 1), (("rest" : Str), 2), (("able" : Str), 3)]), (57, [(("self" : Str), 0), (("found" : Str), 1), (("group" : Str), 2), (("name" : Str), 3), (("spot" : Str), 4), (("is_disj" : Str), 5), (("fields" : Str), 6), (("mult" : Str), 7), (("node" : Str), 8), (("field" : Str), 9)]), (58, [(("self" : Str), 0), (("seen" : Str), 1), (("field" : Str), 2), (("name" : Str), 3), (("mult" : Str), 4), (("node" : Str), 5), (("spot" : Str), 6), (("group" : Str), 7), (("other" : Str), 8)]), (60, [(("self" : Str), 0)]), (61, [(("self" : Str), 0), (("name" : Str), 1)]), (63, [(("self" : Str), 0), (("name" : Str), 1)]), (64, [(("self" : Str), 0), (("name" : Str), 1)]), (65, [(("self" : Str), 0), (("name" : Str), 1)]), (67, [(("self" : Str), 0), (("name" : Str), 1), (("found" : Str), 2)]), (68, [(("self" : Str), 0), (("name" : Str), 1)]), (69, [(("self" : Str), 0), (("name" : Str), 1), (("found" : Str), 2), (("waiting" : Str), 3), (("other" : Str), 4)]), (72, [(("self" : Str), 0)]), (74, [(("self" : Str), 0)]), (75, [(("feed" : Str), 0), (("wide" : Str), 1), (("spot" : Str), 2)]), (76, [(("feed" : Str), 0), (("names" : Str), 1), (("deep" : Str), 2), (("way" : Str), 3)]), (77, [(("feed" : Str), 0), (("names" : Str), 1), (("deep" : Str), 2), (("way" : Str), 3), (("sign" : Str), 4)]), (78, [(("pairs" : Str), 0), (("found" : Str), 1), (("k" : Str), 2), (("a" : Str), 3), (("b" : Str), 4)]), (79, [(("op" : Str), 0), (("one" : Str), 1), (("other" : Str), 2)]), (80, [(("node" : Str), 0), (("world" : Str), 1), (("op" : Str), 2), (("one" : Str), 3)]), (81, [(("expr" : Str), 0), (("rows_of" : Str), 1), (("env" : Str), 2), (("op" : Str), 3), (("one" : Str), 4)]), (82, [(("formula" : Str), 0), (("rows_of" : Str), 1), (("kind" : Str), 2), (("decls" : Str), 3), (("body" : Str), 4), (("held" : Str), 5), (("row" : Str), 6), (("env" : Str), 7)]), (83, [(("feed" : Str), 0), (("tops" : Str), 1), (("world" : Str), 2), (("k" : Str), 3)]), (84, [(("opener" : Str), 0), (("feed" : Str), 1), (("names" : Str), 2), (("worlds" : Str), 3), (("order" : Str), 4), (("one" : Str), 5), (("kind" : Str), 6), (("decl" : Str), 7), (("told" : Str), 8), (("world" : Str), 9), (("held" : Str), 10), (("due" : Str), 11)]), (85, [(("script" : Str), 0), (("feed" : Str), 1), (("tops" : Str), 2), (("own" : Str), 3), (("items" : Str), 4), (("names" : Str), 5), (("order" : Str), 6), (("far" : Str), 7), (("numbers" : Str), 8), (("worlds" : Str), 9), (("opener" : Str), 10), (("node" : Str), 11), (("told" : Str), 12), (("world" : Str), 13)])]
noncomputable def mthL0 : List (Nat × Nat) := [(1992310811413141719202398313, 4), (505775562686573, 5), (4543262072356571629796891589345396, 6), (4583826678792810814624776111259764, 8), (2147053159526524811376328805, 9), (1895596745843988977414045818, 13), (13718444222045834973046468235386452060926671848844973262849473248587749245040621500453887869439101108335, 14)]
noncomputable def mthL1 : List (Nat × Nat) := [(1992310811413141719202398313, 4), (505775562686573, 5), (4543262072356571629796891589345396, 6), (4583826678792810814624776111259764, 8), (2147053159526524811376328805, 9), (1895596745843988977414045818, 13), (13718444222045834973046468235386452060926671848844973262849473248587749245040621500453887869439101108335, 14), (2243767363446240513821245541, 16), (1088358410522472743013, 18), (1914939439053977769006334063, 23), (8507063148377852269946524166966015426663, 24), (2263110195006889023082856553, 26), (20873507288947498888387828772211953481738616935, 27), (17840605686735234431804093745855180624776659045, 29), (18019010797617156466320776713756646825720283239, 30), (89448743878319145170253840814305577080801377922401295138917, 31), (940784479923051954291, 32), (8677205264829240640962846540743768539239, 33), (36666172523616778228990244614959704116709096171765876, 34), (91018011829279573097763269729629267967873546277711125676148, 35), (4746086129707498999895960322048101, 36), (4867780200473109852296548783751269, 37), (39659329125711092606061701497258847366907394231631973, 41), (8421993124555260641663923658296188207205, 42), (0, 3)]
noncomputable def mthL2 : List (Nat × Nat) := [(20873505842747033825917143739743621578993172584, 53), (85525553048838452435796612866680672575463731298935710416998, 54), (4097048790276888180281264314515573, 55), (817781968424305856020720693277975001885178188133497416857951756894079352307829, 56), (76894537040247973696483349677575856673244932794782289231988, 57), (179360084627477658202635738266585308677210351137292936563493175412, 58), (2147053159526524811376328820, 60), (461795089186932, 61), (4583826466022023359783464006058101, 63), (4705521310500177212264409718587508, 64), (39659329125711092606305090799358782114758691848716405, 65), (1895596598270062776020893798, 67), (514571676680305, 68), (36666172523616778228990244614959538096012432804675686, 69), (4178178428691374958171360535249012, 72), (4543261975642413826906189065093236, 74)]
noncomputable def initL : List (Nat × Nat) := [(0, 3), (1, 15), (2, 52)]
noncomputable def globL : List (Nat × V) := [(0, (.int 20000)), (1, (.int 100)), (2, (.tup [(.str 488183410196590), (.str 1934282344401593776985866357), (.str 1042241519551906840692), (.str 1005348000618157965428), (.str 2263110111996505506986328180), (.str 510173642752110), (.str 4056483951726744055527172950982758)])), (4, (.tup [(.str 1079135034087605010534), (.str 1992310654615847878996787302), (.str 488183397613685), (.str 431008790872165), (.str 234881139), (.str 9017487185537167824034131633095323943028), (.str 466193146183783), (.str 222298223), (.str 1069911587283942768742), (.str 1069911648856593924198), (.str 232783984), (.str 492581442027622), (.str 1005348044598612590694), (.str 431008786677869), (.str 4137613899626305218353401740394612), (.str 228589670), (.str 228589685), (.str 213909618)])), (7, (.dict [((.str 44), (.str 2282452971227182165890433135)), ((.str 39), (.str 1014571372654983381109)), ((.str 46), (.str 2127710420199671437499302004)), ((.str 47), (.str 986901300524892553327)), ((.str 92274732), (.str 19981477821287991846518861117233156356625662054)), ((.str 127926331), (.str 1895596653610251016640397413)), ((.str 123732031), (.str 4015919074490936809546431789531237))])), (8, (.tup [(.str 127), (.str 95), (.str 43)]))]
noncomputable def mthL : List (Nat × List (Nat × Nat)) := [(0, mthL0), (1, mthL1), (2, mthL2)]
noncomputable def prog : Prog := ⟨fun k => fnL.lookup k, fun c n => (mthL.lookup c).bind fun l => l.lookup n, fun c => initL.lookup c, fun k => globL.lookup k⟩
noncomputable def flds : List Str := [("calls" : Str), ("count" : Str), ("entries" : Str), ("height" : Str), ("items" : Str), ("kinds" : Str), ("numbers" : Str), ("opened" : Str), ("ordered" : Str), ("own_fields" : Str), ("peak" : Str), ("signatures" : Str), ("spent" : Str), ("stands" : Str)]
noncomputable def mths : List Str := [("above" : Str), ("all_above" : Str), ("all_atoms" : Str), ("all_fields" : Str), ("arity" : Str), ("arity_of_relation" : Str), ("begun" : Str), ("bounded" : Str), ("call_of" : Str), ("compared" : Str), ("decls_of" : Str), ("direct" : Str), ("expr" : Str), ("expr_of" : Str), ("fields" : Str), ("fresh" : Str), ("has" : Str), ("is_marked" : Str), ("is_subset" : Str), ("look_above" : Str), ("look_fields" : Str), ("named" : Str), ("names" : Str), ("orders" : Str), ("owners" : Str), ("parent" : Str), ("parents_first" : Str), ("places" : Str), ("quantified" : Str), ("rel" : Str), ("same_atoms" : Str), ("spend" : Str), ("supers" : Str), ("take_sig" : Str), ("top" : Str), ("truth" : Str), ("truth_of" : Str), ("turned" : Str), ("used" : Str), ("wanted" : Str)]
noncomputable def fnN : List (Str × Nat) := [(("all_of" : Str), 1), (("united" : Str), 2), (("_law_next" : Str), 75), (("_law_one" : Str), 76), (("_law_two" : Str), 77), (("_law_steps" : Str), 78), (("_law_mixed" : Str), 79), (("_law_meant" : Str), 80), (("_law_rows" : Str), 81), (("_law_is_kept" : Str), 82), (("_law_world" : Str), 83), (("_law_is_quantified_right" : Str), 84), (("law" : Str), 85)]
noncomputable def clsN : List (Str × Nat) := [(("Names" : Str), 0), (("Opener" : Str), 1), (("Signatures" : Str), 2)]
noncomputable def conN : List (Str × Nat) := [(("MOST_NODES" : Str), 0), (("MOST_LEVELS" : Str), 1), (("NUMBER_HEADS" : Str), 2), (("TRUTH_HEADS" : Str), 4), (("SET_SIGNS" : Str), 7), (("TURNED" : Str), 8)]

noncomputable def faL : List (Nat × Nat) := [(1, 116), (2, 123), (3, 137), (4, 144), (5, 151), (6, 156), (8, 166), (9, 171), (13, 197), (14, 202), (15, 225), (16, 232), (18, 246), (23, 281), (24, 288), (26, 300), (27, 305), (29, 319), (30, 324), (31, 331), (32, 338), (33, 345), (34, 350), (35, 357), (36, 364), (37, 371), (41, 399), (42, 406), (52, 486), (53, 493), (54, 500), (55, 507), (56, 512), (57, 519), (58, 526), (60, 538), (61, 545), (63, 559), (64, 566), (65, 573), (67, 587), (68, 594), (69, 601), (72, 622), (74, 636), (75, 650), (76, 657), (77, 664), (78, 669), (79, 674), (80, 679), (81, 684), (82, 691), (83, 696), (84, 701), (85, 706)]
noncomputable def caL : List Nat := [205, 470, 639]
noncomputable def fa (i : Nat) : Nat := (faL.lookup i).getD 1
noncomputable def ca (i : Nat) : Nat := caL.getD i 1
noncomputable def nms (i : Nat) : List (Str × Nat) := (nmL.lookup i).getD []
end P5
end Mine

namespace Mine
open PySem PySem.W PyProof.Rows PySem.Calls
section
variable {O : KeyOrd} {key : Nat → O.α} {N : Nat}
noncomputable def KP (key : Nat → O.α) (p : Array Nat) (k : Nat) : O.α := key (p.getD k 0)
theorem KP_congr {xs ys : Array Nat} {i j : Nat} (h : xs[i]? = ys[j]?) : KP key xs i = KP key ys j := by unfold KP; rw [Array.getD_eq_getD_getElem?, Array.getD_eq_getD_getElem?, h]
noncomputable def POk (N : Nat) (p : Array Nat) : Prop := p.Perm (List.toArray (List.range N))
noncomputable def Up (key : Nat → O.α) (p : Array Nat) (k : Nat) : Prop := ∀ i, i + 1 < k → O.klt (KP key p i) (KP key p (i + 1))
noncomputable def Dn (key : Nat → O.α) (p : Array Nat) (k : Nat) : Prop := ∀ i, i + 1 < k → O.klt (KP key p (i + 1)) (KP key p i)
variable {cmp : Nat → Nat → (Bool → Shared → Prop) → Shared → Prop} {s : Shared} {p : Array Nat}
structure CmpOk (O : KeyOrd) (key : Nat → O.α) (N : Nat) (cmp : Nat → Nat → (Bool → Shared → Prop) → Shared → Prop) (s : Shared) : Prop where
  c : ∀ i j C, i < N → j < N → C (O.blt (key i) (key j)) s → cmp i j C s
  d : ∀ i j, i < N → j < N → key i = key j → i = j
theorem POk.size (h : POk N p) : p.size = N := h.size_eq.trans (by rw [List.size_toArray, List.length_range])
theorem POk.get (h : POk N p) {k : Nat} (hk : k < N) : ∃ h : k < p.toList.length, p.getD k 0 = p.toList[k] := by
  have hs : k < p.size := by rw [h.size]; exact hk
  exact ⟨by rw [Array.length_toList]; exact hs, by rw [Array.getD_eq_getD_getElem?, Array.getElem?_eq_getElem hs]; rfl⟩
theorem POk.lt (h : POk N p) {k : Nat} (hk : k < N) : p.getD k 0 < N := by
  obtain ⟨h1, e⟩ := h.get hk
  rw [e]
  exact List.mem_range.mp ((Array.perm_iff_toList_perm.mp h).mem_iff.mp (List.getElem_mem h1))
theorem POk.inj (h : POk N p) {i j : Nat} (hi : i < N) (hj : j < N) (e : p.getD i 0 = p.getD j 0) : i = j := by
  obtain ⟨h1, e1⟩ := h.get hi
  obtain ⟨h2, e2⟩ := h.get hj
  exact (List.getElem_inj ((Array.perm_iff_toList_perm.mp h).nodup_iff.mpr List.nodup_range)).mp (e1.symm.trans (e.trans e2))
theorem Up.lt {k : Nat} (h : Up key p k) : ∀ {j i : Nat}, i < j → j < k → O.klt (KP key p i) (KP key p j)
  | j + 1, i, hij, hj => (Nat.lt_or_eq_of_le (Nat.le_of_lt_succ hij)).elim (fun q => O.trans _ _ _ (h.lt q (Nat.lt_of_succ_lt hj)) (h j hj)) fun q => q ▸ h i (q ▸ hj)
theorem POk.cut (h : POk N p) (hc : CmpOk O key N cmp s) {n : Nat} (hn : n + 1 < N) (h1 : O.blt (KP key p (n + 1)) (KP key p n) = false) : O.klt (KP key p n) (KP key p (n + 1)) := by
  cases e : O.blt (KP key p n) (KP key p (n + 1)) with
  | true => exact e
  | false => exact absurd (h.inj hn (Nat.lt_of_succ_lt hn) (hc.d _ _ (h.lt hn) (h.lt (Nat.lt_of_succ_lt hn)) (O.total _ _ h1 e))) (Nat.succ_ne_self n)
theorem asc_ok (hc : CmpOk O key N cmp s) (hp : POk N p) {nrem : Nat} (hn : nrem ≤ N) {Q : Nat → Shared → Prop} : ∀ (f n : Nat), (n + 1) + f = nrem → Up key p (n + 1) →
    (∀ m, n ≤ m → m < nrem → Up key p (m + 1) → (m + 1 = nrem ∨ O.klt (KP key p (m + 1)) (KP key p m)) → Q (m + 1) s) → (kas_asc p f (n + 1)).kasWp cmp Q s
  | 0, n, h2, hs, q => q n (Nat.le_refl _) (Nat.lt_of_succ_le (Nat.le_of_eq h2)) hs (.inl h2)
  | f + 1, n, h2, hs, q => by
    have hlt : n + 1 < nrem := Nat.lt_of_lt_of_le (Nat.lt_add_of_pos_right (Nat.succ_pos f)) (Nat.le_of_eq h2)
    have hN := Nat.lt_of_lt_of_le hlt hn
    refine hc.c _ _ _ (hp.lt hN) (hp.lt (Nat.lt_of_succ_lt hN)) ?_
    show KasT.kasWp cmp (if O.blt (KP key p (n + 1)) (KP key p n) = true then .ret (n + 1) else kas_asc p f (n + 1 + 1)) Q s
    cases hl : O.blt (KP key p (n + 1)) (KP key p n) with
    | true => exact q n (Nat.le_refl _) (Nat.lt_of_succ_lt hlt) hs (.inr hl)
    | false => exact asc_ok hc hp hn f (n + 1) (by rw [← h2, Nat.add_assoc (n + 1), Nat.add_comm 1 f]) (fun i hi => (Nat.lt_or_eq_of_le (Nat.le_of_lt_succ hi)).elim (hs i) fun e => Nat.succ.inj e ▸ hp.cut hc (Nat.succ.inj e ▸ hN) (Nat.succ.inj e ▸ hl)) fun m a => q m (Nat.le_of_succ_le a)
theorem desc_ok (hc : CmpOk O key N cmp s) (hp : POk N p) {nrem : Nat} (hn : nrem ≤ N) {Q : Array Nat × Nat × Nat → Shared → Prop} : ∀ (f n : Nat), (n + 1) + f = nrem → Dn key p (n + 1) →
    (∀ m, m < nrem → Dn key p (m + 1) → Q (p, m + 1, 0) s) → (kas_desc f p (n + 1) 0).kasWp cmp Q s
  | 0, n, h2, hs, q => q n (Nat.lt_of_succ_le (Nat.le_of_eq h2)) hs
  | f + 1, n, h2, hs, q => by
    have hlt : n + 1 < nrem := Nat.lt_of_lt_of_le (Nat.lt_add_of_pos_right (Nat.succ_pos f)) (Nat.le_of_eq h2)
    have hN := Nat.lt_of_lt_of_le hlt hn
    have h1 := hp.lt hN
    have h0 := hp.lt (Nat.lt_of_succ_lt hN)
    refine hc.c _ _ _ h1 h0 ?_
    show KasT.kasWp cmp (if O.blt (KP key p (n + 1)) (KP key p n) = true then kas_desc f p (n + 1 + 1) 0 else .ask (p.getD n 0) (p.getD (n + 1) 0) fun d => if d = true then .ret (p, n + 1, 0) else kas_desc f p (n + 1 + 1) 1) Q s
    cases hl : O.blt (KP key p (n + 1)) (KP key p n) with
    | true => exact desc_ok hc hp hn f (n + 1) (by rw [← h2, Nat.add_assoc (n + 1), Nat.add_comm 1 f]) (fun i hi => (Nat.lt_or_eq_of_le (Nat.le_of_lt_succ hi)).elim (hs i) fun e => Nat.succ.inj e ▸ hl) q
    | false =>
      refine hc.c _ _ _ h0 h1 ?_
      show KasT.kasWp cmp (if O.blt (KP key p n) (KP key p (n + 1)) = true then .ret (p, n + 1, 0) else kas_desc f p (n + 1 + 1) 1) Q s
      rw [show O.blt (KP key p n) (KP key p (n + 1)) = true from hp.cut hc hN hl]
      exact q n (Nat.lt_of_succ_lt hlt) hs
theorem Dn.rev (hp : POk N p) {n : Nat} (hn : n ≤ N) (hs : Dn key p n) : Up key (kas_rev p 0 n) n := fun i hi => by
  have e : ∀ k, k < n → KP key (kas_rev p 0 n) k = KP key p (n - 1 - k) := fun k hk => KP_congr (by
    have e : (kas_rev p 0 n)[k]? = _ := getElem?_mirror_all (i := 0) (by rw [hp.size]; exact hn) k
    rw [e, if_pos ⟨Nat.zero_le _, hk⟩, Nat.zero_add])
  have lt : i < n - 1 := Nat.lt_sub_of_add_lt hi
  have e2 : n - 1 - i = n - 1 - (i + 1) + 1 := (Nat.succ_pred_eq_of_pos (Nat.sub_pos_of_lt lt)).symm
  rw [e i (Nat.lt_of_succ_lt hi), e (i + 1) hi, e2]
  exact hs _ (e2 ▸ Nat.lt_of_le_of_lt (Nat.sub_le _ _) (Nat.sub_lt (Nat.lt_of_le_of_lt (Nat.zero_le _) hi) Nat.one_pos))
theorem count_ok {Q : Nat × Array Nat → Shared → Prop} (hp : POk (N + 1) p) (hc : CmpOk O key (N + 1) cmp s) (q : ∀ m p', POk (N + 1) p' → m ≤ N → Up key p' (m + 1) → Q (m + 1, p') s) : (kas_count (N + 1) p).kasWp cmp Q s := by
  unfold kas_count
  rw [KasT.kasWp_bind]
  refine asc_ok hc hp (Nat.le_refl _) N 0 (Nat.add_comm 1 N) (fun i hi => absurd hi (Nat.not_lt.mpr (Nat.le_add_left 1 i))) fun n _ hn2 hsn hor => ?_
  have hnN := Nat.le_of_lt_succ hn2
  by_cases hnn : n = N
  · rw [if_pos (beq_iff_eq.mpr (congrArg (· + 1) hnn))]
    exact q n p hp hnN hsn
  · rw [if_neg fun e => hnn (Nat.succ.inj (beq_iff_eq.mp e))]
    have hlt : O.klt (KP key p (n + 1)) (KP key p n) := hor.resolve_left fun e => hnn (Nat.succ.inj e)
    cases n with
    | succ n =>
      rw [if_pos (Nat.succ_lt_succ (Nat.succ_pos n))]
      refine hc.c _ _ _ (hp.lt (Nat.succ_pos N)) (hp.lt hn2) ?_
      show KasT.kasWp cmp (if O.blt (KP key p 0) (KP key p (n + 1)) = true then .ret (n + 1 + 1, p) else _) Q s
      rw [if_pos (show O.blt (KP key p 0) (KP key p (n + 1)) = true from hsn.lt (Nat.succ_pos n) (Nat.lt_succ_self _))]
      exact q (n + 1) p hp hnN hsn
    | zero =>
      rw [if_neg (Nat.lt_irrefl 1)]
      have h2 : 1 < N + 1 := Nat.succ_lt_succ (Nat.pos_of_ne_zero fun e => hnn e.symm)
      unfold kas_descPart
      rw [KasT.kasWp_bind]
      refine desc_ok hc hp (Nat.le_refl _) _ 1 (Nat.add_sub_of_le h2) (fun i hi => by
        cases i with
        | zero => exact hlt
        | succ i => exact absurd hi (Nat.not_lt.mpr (Nat.le_add_left 2 i))) fun m hm hd => ?_
      show ((if 0 > 0 then _ else kas_tail3 (m + 1) (N + 1) p).kasWp cmp Q s)
      rw [if_neg (Nat.lt_irrefl 0)]
      unfold kas_tail3
      rw [KasT.kasWp_bind]
      have hr : POk (N + 1) (kas_rev p 0 (m + 1)) := (mirror_perm p 0 (m + 1) _).trans hp
      exact asc_ok hc hr (Nat.le_refl _) _ m (Nat.add_sub_of_le hm) (hd.rev hp hm) fun k _ a2 a3 _ => q k _ hr (Nat.le_of_lt_succ a2) a3
theorem place_ok (hc : CmpOk O key N cmp s) (hp : POk N p) {k : Nat} (hk : k < N) (hs : Up key p k) {Q : Nat → Shared → Prop} (q : ∀ l, l ≤ k → (∀ i, i < l → O.klt (KP key p i) (KP key p k)) → (∀ i, l ≤ i → i < k → O.klt (KP key p k) (KP key p i)) → Q l s) :
    ∀ (f l r : Nat), l ≤ r → r ≤ k → r ≤ l + f → (∀ i, i < l → O.klt (KP key p i) (KP key p k)) → (∀ i, r ≤ i → i < k → O.klt (KP key p k) (KP key p i)) → (kas_place p k f l r).kasWp cmp Q s
  | 0, l, r, h1, h2, h3, hlo, hhi => q l (Nat.le_trans h1 h2) hlo fun i a b => hhi i (Nat.le_trans h3 a) b
  | f + 1, l, r, h1, h2, h3, hlo, hhi => by
    unfold kas_place
    by_cases hge : l ≥ r
    · rw [if_pos hge]
      exact q l (Nat.le_trans h1 h2) hlo fun i a b => hhi i (Nat.le_trans hge a) b
    · rw [if_neg hge]
      have m1 : l ≤ (l + r) / 2 := (Nat.le_div_iff_mul_le Nat.two_pos).mpr (by rw [Nat.mul_two]; exact Nat.add_le_add_left h1 l)
      have m2 : (l + r) / 2 < r := Nat.div_lt_of_lt_mul (by rw [Nat.two_mul]; exact Nat.add_lt_add_right (Nat.not_le.mp hge) r)
      have mk := Nat.lt_of_lt_of_le m2 h2
      have h4 : (l + r) / 2 ≤ l + f := Nat.le_of_lt_succ (Nat.lt_of_lt_of_le m2 h3)
      revert m1 m2 mk h4
      generalize (l + r) / 2 = m
      intro m1 m2 mk h4
      refine hc.c _ _ _ (hp.lt hk) (hp.lt (Nat.lt_trans mk hk)) ?_
      show KasT.kasWp cmp (if O.blt (KP key p k) (KP key p m) = true then kas_place p k f l m else kas_place p k f (m + 1) r) Q s
      cases hl : O.blt (KP key p k) (KP key p m) with
      | true => exact place_ok hc hp hk hs q f l m m1 (Nat.le_of_lt mk) h4 hlo fun i a b => (Nat.lt_or_eq_of_le a).elim (fun a => O.trans _ _ _ hl (hs.lt a b)) fun e => e ▸ hl
      | false =>
        have hmk : O.klt (KP key p m) (KP key p k) := by
          cases e : O.blt (KP key p m) (KP key p k) with
          | true => exact e
          | false => exact absurd (hp.inj hk (Nat.lt_trans mk hk) (hc.d _ _ (hp.lt hk) (hp.lt (Nat.lt_trans mk hk)) (O.total _ _ hl e))) (Nat.ne_of_gt mk)
        exact place_ok hc hp hk hs q f (m + 1) r m2 h2 (Nat.le_trans h3 (by rw [Nat.add_assoc m, Nat.add_comm 1 f]; exact Nat.add_le_add_right m1 (f + 1))) (fun i a => (Nat.lt_or_eq_of_le (Nat.le_of_lt_succ a)).elim (fun a => O.trans _ _ _ (hs.lt a mk) hmk) fun e => e ▸ hmk) hhi
theorem KP_bubble {xs : Array Nat} {src l : Nat} (hs : src < xs.size) (hl : l ≤ src) (k : Nat) :
    KP key (bubble xs src (src - l)) k = if k = l then KP key xs src else if l < k ∧ k ≤ src then KP key xs (k - 1) else KP key xs k := by
  have e := getElem?_bubble hs (src - l) (Nat.sub_le _ _) k
  rw [Nat.sub_sub_self hl] at e
  by_cases h1 : k = l
  · rw [if_pos h1] at e ⊢; exact KP_congr e
  · rw [if_neg h1] at e ⊢
    by_cases h2 : l < k ∧ k ≤ src
    · rw [if_pos h2] at e ⊢; exact KP_congr e
    · rw [if_neg h2] at e ⊢; exact KP_congr e
theorem bins_ok (hc : CmpOk O key N cmp s) {Q : Array Nat → Shared → Prop} : ∀ (f k : Nat) (p : Array Nat), POk N p → k + f = N → Up key p k → (∀ p', POk N p' → Up key p' N → Q p' s) → (kas_bin f p k).kasWp cmp Q s
  | 0, k, p, hp, h2, hs, q => q p hp (h2 ▸ hs)
  | f + 1, k, p, hp, h2, hs, q => by
    unfold kas_bin
    rw [KasT.kasWp_bind]
    have hk : k < N := Nat.lt_of_lt_of_le (Nat.lt_add_of_pos_right (Nat.succ_pos f)) (Nat.le_of_eq h2)
    refine place_ok hc hp hk hs (fun l hlk hlo hhi => ?_) k 0 k (Nat.zero_le _) (Nat.le_refl _) (Nat.le_add_left _ _) (fun i hi => absurd hi (Nat.not_lt_zero i)) fun i a b => absurd b (Nat.not_lt.mpr a)
    refine bins_ok hc f (k + 1) _ ((bubble_perm p k (k - l)).trans hp) (by rw [← h2, Nat.add_assoc, Nat.add_comm 1 f]) (fun i hi => ?_) q
    have hks : k < p.size := by rw [hp.size]; exact hk
    rw [KP_bubble hks hlk, KP_bubble hks hlk]
    have hi := Nat.le_of_lt_succ hi
    rcases Nat.lt_trichotomy i l with h | h | h
    · rw [if_neg (Nat.ne_of_lt h), if_neg fun e => absurd e.1 (Nat.not_lt.mpr (Nat.le_of_lt h))]
      by_cases e : i + 1 = l
      · rw [if_pos e]; exact hlo i h
      · rw [if_neg e, if_neg fun w => absurd h (Nat.not_lt.mpr (Nat.le_of_lt_succ w.1))]
        exact hs i (Nat.lt_of_lt_of_le (Nat.lt_of_le_of_ne h e) hlk)
    · subst h
      rw [if_pos rfl, if_neg (Nat.succ_ne_self i), if_pos ⟨Nat.lt_succ_self i, hi⟩]
      exact hhi i (Nat.le_refl _) hi
    · rw [if_neg (Nat.ne_of_gt h), if_pos ⟨h, Nat.le_of_lt hi⟩, if_neg (Nat.ne_of_gt (Nat.lt_succ_of_lt h)), if_pos ⟨Nat.lt_succ_of_lt h, hi⟩]
      cases i with
      | zero => exact absurd h (Nat.not_lt_zero l)
      | succ i => exact hs i hi
theorem sort_ok (hc : CmpOk O key (N + 1) cmp s) {Q : Array Nat → Shared → Prop} (q : ∀ p', POk (N + 1) p' → Up key p' (N + 1) → Q p' s) : (kas_sort (N + 1)).kasWp cmp Q s := by
  unfold kas_sort
  rw [KasT.kasWp_bind]
  refine count_ok (N := N) (Array.Perm.refl _) hc fun m p' a1 a3 a4 => ?_
  show (if m + 1 < N + 1 then kas_bin (N + 1 - max (m + 1) 1) p' (max (m + 1) 1) else .ret p').kasWp cmp Q s
  rw [Nat.max_eq_left (Nat.le_add_left 1 m)]
  by_cases hm : m + 1 < N + 1
  · rw [if_pos hm]
    exact bins_ok hc _ _ p' a1 (Nat.add_sub_of_le (Nat.le_of_lt hm)) a4 q
  · rw [if_neg hm]
    exact q p' a1 fun i hi => a4 i (Nat.lt_of_lt_of_le hi (Nat.not_lt.mp hm))
end
end Mine

namespace Mine
open PySem PySem.W PyProof.Rows PySem.Calls
noncomputable def rlt : List Int → List Int → Bool
  | [], [] => false
  | [], _ :: _ => true
  | _ :: _, [] => false
  | a :: r, b :: t => if a = b then rlt r t else decide (a < b)
noncomputable def natO : KeyOrd := ⟨Nat, fun a b => decide (a < b), fun a => decide_eq_false (Nat.lt_irrefl a), fun a b c h1 h2 => decide_eq_true (Nat.lt_trans (of_decide_eq_true h1) (of_decide_eq_true h2)),
  fun a b c h => (Nat.lt_or_ge a b).imp (fun h => decide_eq_true h) fun q => decide_eq_true (Nat.lt_of_le_of_lt q (of_decide_eq_true h)), fun a b h1 h2 => Nat.le_antisymm (Nat.not_lt.mp (of_decide_eq_false h2)) (Nat.not_lt.mp (of_decide_eq_false h1))⟩
noncomputable def rix (k : List Int) : Nat := rowsI.idxOf k
theorem rlt_ix : (rowsI.all fun a => rowsI.all fun b => rlt a b == decide (rix a < rix b)) = true := by decide +kernel
theorem rows_up : rowsI.Pairwise fun a b => rix a < rix b := by decide +kernel
theorem rix_inj {a b : List Int} (ha : a ∈ rowsI) (h : rix a = rix b) : a = b := by
  have l : rix a < rowsI.length := List.idxOf_lt_length_iff.mpr ha
  rw [← List.getElem_idxOf l]
  have l2 : rix b < rowsI.length := h ▸ l
  rw [← List.getElem_idxOf l2]
  exact getElem_congr rfl h _
theorem beqs_ints : ∀ {l : List V} {k : List Int}, beqs l (k.map .int) = true → l = k.map .int
  | [], [], _ => rfl
  | [], _ :: _, h => absurd h Bool.false_ne_true
  | _ :: _, [], h => absurd h Bool.false_ne_true
  | v :: l, i :: k, h => by
    have h := Bool.and_eq_true_iff.mp (show (V.beq v (.int i) && beqs l (k.map .int)) = true from h)
    rw [beqs_ints h.2, List.map_cons, show v = .int i by
      have h1 := h.1
      cases v <;> first | exact congrArg V.int (of_decide_eq_true h1) | exact absurd h1 Bool.false_ne_true]
theorem beq_row {r : V} {k : List Int} (h : V.beq r (rowV k) = true) : r = rowV k := by
  cases r <;> first | exact congrArg V.tup (beqs_ints h) | exact absurd h Bool.false_ne_true
theorem beqs_rfl : ∀ k : List Int, beqs (k.map .int) (k.map .int) = true
  | [] => rfl
  | i :: k => Bool.and_eq_true_iff.mpr ⟨decide_eq_true rfl, beqs_rfl k⟩
theorem rowOk_of {r : V} (h : rowOk r = true) : ∃ k ∈ rowsI, r = rowV k := by
  obtain ⟨x, hx, e⟩ := List.any_eq_true.mp h
  obtain ⟨k, hk, rfl⟩ := List.mem_map.mp hx
  exact ⟨k, hk, beq_row e⟩
theorem ints_inj : ∀ {a b : List Int}, a.map V.int = b.map V.int → a = b
  | [], [], _ => rfl
  | [], _ :: _, h => nomatch h
  | _ :: _, [], h => nomatch h
  | a :: r, b :: t, h => by
    have h := List.cons.inj h
    have h1 : a = b := by cases h.1; rfl
    rw [h1, ints_inj h.2]
theorem rowV_inj {a b : List Int} (h : rowV a = rowV b) : a = b := ints_inj (by
  have h : V.tup _ = V.tup _ := h
  cases a <;> cases b <;> (injection h))
theorem sortB_mem {l : List V} {k : List Int} (hk : k ∈ rowsI) : rowV k ∈ sortB l ↔ rowV k ∈ l := by
  unfold sortB
  rw [List.mem_filter, List.any_eq_true]
  exact ⟨fun h => h.2.elim fun x w => beq_row w.2 ▸ w.1, fun h => ⟨List.mem_map.mpr ⟨k, hk, rfl⟩, rowV k, h, beqs_rfl k⟩⟩
noncomputable def ikey (v : V) : List Int := match v with
  | .tup l => l.map fun | .int i => i | _ => 0
  | _ => []
noncomputable def rkey (v : V) : Nat := rix (ikey v)
theorem ikey_row (k : List Int) : ikey (rowV k) = k := by
  show (k.map V.int).map _ = k
  rw [List.map_map]
  exact List.map_id k
theorem rkey_row (k : List Int) : rkey (rowV k) = rix k := congrArg rix (ikey_row k)
theorem sortB_up (l : List V) : (sortB l).Pairwise fun a b => rkey a < rkey b :=
  List.Pairwise.filter _ (List.pairwise_map.mpr (rows_up.imp fun {a b} h => by rw [rkey_row, rkey_row]; exact h))
theorem up_nodup {k : List V} (h : k.Pairwise fun a b => rkey a < rkey b) : k.Nodup := List.Pairwise.imp (fun {a b} (q : rkey a < rkey b) (e : a = b) => Nat.ne_of_lt q (congrArg rkey e)) h
theorem mem_sortB {l : List V} (hl : l.all rowOk = true) (x : V) : x ∈ l ↔ x ∈ sortB l :=
  ⟨fun h => (rowOk_of (List.all_eq_true.mp hl x h)).elim fun q w => by rw [w.2] at h ⊢; exact (sortB_mem w.1).mpr h, fun h => (List.mem_map.mp (List.mem_filter.mp h).1).elim fun q w => by rw [← w.2] at h ⊢; exact (sortB_mem w.1).mp h⟩
theorem sortB_perm {l : List V} (hl : l.all rowOk = true) (nd : l.Nodup) : l.Perm (sortB l) := (List.perm_ext_iff_of_nodup nd (up_nodup (sortB_up l))).mpr (mem_sortB hl)
theorem sortB_len (l : List V) : (sortB l).length ≤ 30 := Nat.le_trans (List.length_filter_le _ _) (by decide)
theorem sort_uniq {l k : List V} (hl : l.all rowOk = true) (hm : k.Perm l) (nd : l.Nodup) (hs : k.Pairwise fun a b => rkey a < rkey b) : k = sortB l :=
  List.Perm.eq_of_pairwise (le := fun a b => rkey a < rkey b) (fun a b ha hb h1 h2 => absurd (Nat.lt_trans h1 h2) (Nat.lt_irrefl _)) hs (sortB_up l) (hm.trans (sortB_perm hl nd))
theorem nodV_of : ∀ {l : List V}, l.all rowOk = true → nodV l = true → l.Nodup
  | [], _, _ => List.nodup_nil
  | x :: r, hl, h => by
    have hl := Bool.and_eq_true_iff.mp hl
    have h := Bool.and_eq_true_iff.mp h
    refine List.nodup_cons.mpr ⟨fun m => ?_, nodV_of hl.2 h.2⟩
    obtain ⟨q, _, e⟩ := rowOk_of hl.1
    have w : (r.any (V.beq x)) = true := List.any_eq_true.mpr ⟨x, m, by rw [e]; exact beqs_rfl q⟩
    rw [w] at h
    exact absurd h.1 Bool.false_ne_true
end Mine

namespace Mine
open PySem PySem.W PyProof.Rows PySem.Calls
section
variable {D : Wd} {N : Nx} {prog : Program} {w : World} {A : Around} {E : PV → Shared → Prop} {s : Shared}
theorem lex_ints {Q : Bool → Shared → Prop} : ∀ {k e : List Int} {vs ws : List PV} (i : Nat), RVs D N (k.map .int) vs → RVs D N (e.map .int) ws → Q (rlt k e) s → KatLex prog w A true (decide (vs.length < ws.length)) Q (vs.zip ws) i s
  | [], [], vs, ws, i, r1, r2, q => by cases (r1 : vs = []); cases (r2 : ws = []); exact kat_nil q
  | [], _ :: _, vs, ws, i, r1, ⟨v, t, e, _⟩, q => by cases (r1 : vs = []); subst e; exact kat_nil (by rw [show decide (([] : List PV).length < (v :: t).length) = true from decide_eq_true (Nat.succ_pos _)]; exact q)
  | _ :: _, [], vs, ws, i, ⟨v, t, e, _⟩, r2, q => by cases (r2 : ws = []); subst e; exact kat_nil (by rw [show decide ((v :: t).length < ([] : List PV).length) = false from decide_eq_false (Nat.not_lt_zero _)]; exact q)
  | a :: k, b :: e, _, _, i, ⟨_, vs, rfl, ⟨t1, rfl⟩, r1⟩, ⟨_, ws, rfl, ⟨t2, rfl⟩, r2⟩, q => by
    rw [List.zip_cons_cons]
    refine kat_cons (wpAny_eqBool_int ?_)
    have q : Q (if a = b then rlt k e else decide (a < b)) s := q
    by_cases h : a = b
    · subst h
      rw [if_pos rfl] at q
      rw [beq_self_eq_true]
      have w := lex_ints (Q := Q) (i + 1) r1 r2 q
      rw [show decide (vs.length < ws.length) = decide ((PySem.Value.int a t1 :: vs).length < (PySem.Value.int a t2 :: ws).length) from decide_eq_decide.mpr Nat.succ_lt_succ_iff.symm] at w
      exact kat_yes w
    · rw [if_neg h] at q
      rw [show (a == b) = false from beq_eq_false_iff_ne.mpr h]
      refine kat_no ?_
      cases i with
      | zero => exact oneLt_int q
      | succ i => exact kat_one _ _ (lt_int q)
noncomputable def RowAt (D : Wd) (N : Nx) (h : Heap) (v : PV) (k : List Int) : Prop := ∃ a arr n, v = .ref a ∧ h.get? a = some { cls := .type "tuple", dict := none, data := .seq arr n, slots := #[] } ∧ RVs D N (k.map .int) arr.toList ∧ k ∈ rowsI
theorem RowAt.mono {h h' : Heap} {v : PV} {k : List Int} (x : RowAt D N h v k) (hk : ∀ a o, v = .ref a → h.get? a = some o → h'.get? a = some o) : RowAt D N h' v k := x.elim fun a q => q.elim fun arr q => q.elim fun n q => ⟨a, arr, n, q.1, hk a _ q.1 q.2.1, q.2.2⟩
theorem rows_cmp {vs : List PV} {key : Nat → List Int} (hr : ∀ i v, vs[i]? = some v → RowAt D N s.heap v (key i)) (hd : ∀ i j, i < vs.length → j < vs.length → rix (key i) = rix (key j) → i = j) : CmpOk natO (fun i => rix (key i)) vs.length (kas_ask prog w A (tuples' true) vs) s := by
  refine ⟨fun i j C hi hj q => ?_, hd⟩
  obtain ⟨a, arr, k1, ea, t1, r1, m1⟩ := hr i vs[i] (List.getElem?_eq_getElem hi)
  obtain ⟨b, brr, k2, eb, t2, r2, m2⟩ := hr j vs[j] (List.getElem?_eq_getElem hj)
  unfold kas_ask
  rw [show vs.getD i Value.none = vs[i] by rw [List.getD_eq_getElem?_getD, List.getElem?_eq_getElem hi]; rfl, show vs.getD j Value.none = vs[j] by rw [List.getD_eq_getElem?_getD, List.getElem?_eq_getElem hj]; rfl, ea, eb]
  refine kat_lt t1 rfl t2 rfl ?_
  have w := lex_ints (prog := prog) (w := w) (A := A) (s := s) (Q := C) 0 r1 r2 (by
    rw [eq_of_beq (List.all_eq_true.mp (List.all_eq_true.mp rlt_ix _ m1) _ m2)]; exact q)
  rw [Array.length_toList, Array.length_toList] at w
  exact w
theorem rows_kind {vs : List PV} {key : Nat → List Int} (hr : ∀ i v, vs[i]? = some v → RowAt D N s.heap v (key i)) (h2 : 1 ≤ vs.length) {Q : SortKind → Shared → Prop} (q : Q (tuples' true) s) : wpAny (model prog w) A (keyKind' vs.toArray) Q E s := by
  have fs : ∀ (l : List PV), (∀ v ∈ l, ∃ k, RowAt D N s.heap v k) → ∃ f : List PV, KatTups s.heap l f ∧ f.length = l.length ∧ ∀ v ∈ f, ∃ n t, v = .int n t := by
    intro l
    induction l with
    | nil => exact fun _ => ⟨[], KatTups.nil, rfl, fun _ h => nomatch h⟩
    | cons v l ih =>
      intro h
      obtain ⟨f, t, hl, hi⟩ := ih fun v hv => h v (List.mem_cons_of_mem _ hv)
      obtain ⟨k, a, ⟨xs⟩, kk, rfl, ta, r, m⟩ := h v (List.mem_cons_self ..)
      cases k with
      | nil => exact absurd m (by decide)
      | cons n k =>
        obtain ⟨_, xs', e, ⟨t', rfl⟩, r⟩ := r
        have e : xs = _ := e
        subst e
        exact ⟨.int n t' :: f, KatTups.cons ta rfl rfl rfl t, congrArg (· + 1) hl, fun z hz => (List.mem_cons.mp hz).elim (fun e => ⟨n, t', e⟩) (hi z)⟩
  obtain ⟨f, t, hl, hi⟩ := fs vs fun v hv => (List.getElem?_of_mem hv).elim fun i hi => ⟨_, hr i v hi⟩
  exact kat_kind t (by rw [hl]; exact h2) (T := .type "int") (fun v hv => (hi v hv).elim fun n w => w.elim fun t e => e ▸ .now) (by decide) q
end
end Mine

namespace Mine
open PySem PySem.W PyProof.Rows PySem.Calls
section
variable {D : Wd} {N : Nx} {prog : Program} {w : World} {A : Around} {E : PV → Shared → Prop} {s : Shared}
noncomputable def pick (vs : List PV) (p : Array Nat) : List PV := p.toList.map fun i => vs.getD i Value.none
theorem pick_id {vs : List PV} : List.toArray (pick vs (List.toArray (List.range vs.length))) = (pairsOf vs).map (·.2) := by
  apply Array.toList_inj.mp
  rw [Array.toList_map, pairsOf_toList]
  show (List.range vs.length).map (fun i => vs.getD i Value.none) = _
  refine List.ext_getElem (by simp) fun i h1 h2 => ?_
  rw [List.length_map, List.length_range] at h1
  simp [h1]
theorem sort_rows {a : Addr} {vs : List PV} {n : Nat} {key : Nat → List Int} {P : PySem.Fin → Shared → Prop} (ho : s.heap.get? a = some (seqObj "list" vs.toArray n)) (hr : ∀ i v, vs[i]? = some v → RowAt D N s.heap v (key i)) (hd : ∀ i j, i < vs.length → j < vs.length → rix (key i) = rix (key j) → i = j) (h64 : vs.length < 64)
    (h : ∀ p : Array Nat, POk vs.length p → Up (O := natO) (fun i => rix (key i)) p vs.length → P (.done (.ret .none)) { s with heap := sortedHeap s.heap a vs (List.toArray (pick vs p)) }) :
    wpAny (model prog w) A (Builtin.«list.sort» ⟨[.ref a], []⟩) P E s := by
  rw [list_sort_plain]
  have ha : a < s.heap.objs.size := Heap.lt_size ho
  have hz : ∀ {n : Nat}, n = vs.length → n ≤ sizeLine := fun e => by rw [sizeLine_eq, e]; exact Nat.le_trans (Nat.le_of_lt h64) (by decide)
  refine wpAny_bind (listItems_at ho rfl ?_)
  refine wpAny_bind (listUpdate_at ho rfl ?_ (hz (List.size_toArray ..)) (Nat.zero_le _))
  obtain ⟨e1, ho1⟩ : ∃ e1, (s.heap.update a (Obj.mapSeq fun _ => #[])).get? a = some (seqObj "list" #[] e1) := ⟨_, get?_update_seq ho (fun _ => #[])⟩
  refine wpAny_bind (seqEpoch_at ho1 rfl ?_)
  refine wpAny_bind (wpAny_newTuple ?_ (hz rfl))
  refine wpAny_bind (wpAny_newList ?_ (Nat.zero_le _))
  refine wpAny_holding ?_
  have ho6 : (((s.heap.update a (Obj.mapSeq fun _ => #[])).push (seqObj "tuple" vs.toArray 0)).push (seqObj "list" #[] 0)).get? a = some (seqObj "list" #[] e1) := Heap.get?_push_of_some _ (Heap.get?_push_of_some _ ho1)
  show wpAny (model prog w) A _ P E { s with heap := ((s.heap.update a (Obj.mapSeq fun _ => #[])).push (seqObj "tuple" vs.toArray 0)).push (seqObj "list" #[] 0) }
  dsimp only
  have hsz : vs.toArray.size = vs.length := List.size_toArray ..
  by_cases h2 : vs.toArray.size < 2
  · rw [if_pos h2, if_pos h2]
    refine wpAny_bind (wpAny_pure ?_)
    rw [StateT.run_pure]
    refine wpAny_bind (wpAny_pure ?_)
    dsimp only
    refine wpAny_bind (seqEpoch_at ho6 rfl ?_)
    refine wpAny_bind (listUpdate_at ho6 rfl ?_ (hsz2 := by rw [Array.size_map]; exact Nat.le_succ_of_le (hz (pairsOf_size vs))))
    simp only [bne_self_eq_false, Bool.false_eq_true, if_false]
    refine wpAny_pure ?_
    have w := h (List.toArray (List.range vs.length)) (Array.Perm.refl _) fun i hi => absurd (Nat.lt_of_lt_of_le hi (Nat.le_of_lt_succ (hsz ▸ h2))) (Nat.not_lt.mpr (Nat.le_add_left 1 i))
    rw [pick_id] at w
    exact w
  · rw [if_neg h2, if_neg h2]
    have h2 : 2 ≤ vs.length := hsz ▸ Nat.not_lt.mp h2
    have hr2 : ∀ i v, vs[i]? = some v → RowAt D N (((s.heap.update a (Obj.mapSeq fun _ => #[])).push (seqObj "tuple" vs.toArray 0)).push (seqObj "list" #[] 0)) v (key i) := fun i v hv => (hr i v hv).mono fun b o eb eo => by
      have nb : b ≠ a := fun e => by
        subst e
        obtain ⟨b', arr, n', e2, t, _⟩ := hr i v hv
        cases eb.symm.trans e2
        have w := congrArg Obj.cls (Option.some.inj (ho.symm.trans t))
        exact absurd (Value.type.inj (show PySem.Value.type "list" = .type "tuple" from w)) (by decide)
      exact Heap.get?_push_of_some _ (Heap.get?_push_of_some _ (by rw [Heap.get?_update_ne _ _ _ _ nb]; exact eo))
    refine wpAny_bind (rows_kind hr2 (Nat.le_of_lt h2) ?_)
    have srt : (kas_sort vs.length).kasWp (kas_ask prog w A (tuples' true) vs) (fun p s' => s' = { s with heap := ((s.heap.update a (Obj.mapSeq fun _ => #[])).push (seqObj "tuple" vs.toArray 0)).push (seqObj "list" #[] 0) } ∧ POk vs.length p ∧ Up (O := natO) (fun i => rix (key i)) p vs.length) { s with heap := ((s.heap.update a (Obj.mapSeq fun _ => #[])).push (seqObj "tuple" vs.toArray 0)).push (seqObj "list" #[] 0) } := by
      have w := rows_cmp (prog := prog) (w := w) (A := A) (s := { s with heap := ((s.heap.update a (Obj.mapSeq fun _ => #[])).push (seqObj "tuple" vs.toArray 0)).push (seqObj "list" #[] 0) }) hr2 hd
      revert w h2
      generalize vs.length = n
      intro h2 w
      cases n with
      | zero => exact absurd h2 (Nat.not_succ_le_zero 1)
      | succ n => exact sort_ok w fun p' a1 a2 => ⟨rfl, a1, a2⟩
    refine wpAny_bind (wpAny_mono (kat_run (E := E) (ks := vs) (Q := fun st' s' => s' = { s with heap := ((s.heap.update a (Obj.mapSeq fun _ => #[])).push (seqObj "tuple" vs.toArray 0)).push (seqObj "list" #[] 0) } ∧ ∃ p : Array Nat, POk vs.length p ∧ Up (O := natO) (fun i => rix (key i)) p vs.length ∧ arrOf st' = p.map (kas_item (vs.toArray.zip vs.toArray)) ∧ failedOf st' = none)
      rfl h2 h64 (fun p st' s' a1 a2 a3 a4 => ⟨a4.1, p, a4.2.1, a4.2.2, a2, a3⟩) srt) ?_ fun _ _ e => e)
    rintro ⟨⟨⟩, st'⟩ s' ⟨rfl, p, hp, hs, har, hf⟩
    dsimp only
    have hout := kat_snds (ks := vs) (vs := vs) rfl har
    refine wpAny_bind (seqEpoch_at ho6 rfl ?_)
    refine wpAny_bind (listUpdate_at ho6 rfl ?_ (hsz2 := by rw [hout, List.size_toArray, List.length_map, Array.length_toList]; exact Nat.le_succ_of_le (hz hp.size)))
    rw [hf, hout]
    simp only [bne_self_eq_false, Bool.false_eq_true, if_false]
    exact wpAny_pure (h p hp hs)
theorem sorted_rows {l : Addr} {vs : List PV} {key : Nat → List Int} {Q : PV → Shared → Prop} (hl : s.heap.IsList l vs.toArray) (hr : ∀ i v, vs[i]? = some v → RowAt D N s.heap v (key i)) (hd : ∀ i j, i < vs.length → j < vs.length → rix (key i) = rix (key j) → i = j) (h64 : vs.length < 64)
    (h : ∀ p : Array Nat, POk vs.length p → Up (O := natO) (fun i => rix (key i)) p vs.length → Q (.ref (s.heap.objs.size + 1)) { s with heap := sortedAll s.heap vs (List.toArray (pick vs p)) }) :
    wpAny (model prog w) A (call (.builtin "sorted") [.ref l]) Q E s := by
  have hz : vs.length ≤ sizeLine := by rw [sizeLine_eq]; exact Nat.le_trans (Nat.le_of_lt h64) (by decide)
  refine Calls.call_function_entry kind_sorted plain_sorted entry_sorted (args_sorted1 _) ?_
  unfold Builtin.«sorted»
  refine wpAny_bind (m := checkCount "sorted" 1 1 _) (wpAny_pure ?_)
  refine wpAny_bind (collect_list hl ?_ hz)
  refine wpAny_bind (wpAny_newList ?_ hz)
  have hsz : ((s.heap.push (seqObj "list" #[] 0)).update s.heap.objs.size (Obj.mapSeq (· ++ vs.toArray))).objs.size = s.heap.objs.size + 1 := by
    rw [Heap.size_update, size_push']
  have hoL : (((s.heap.push (seqObj "list" #[] 0)).update s.heap.objs.size (Obj.mapSeq (· ++ vs.toArray))).push (seqObj "list" vs.toArray 0)).get? (s.heap.objs.size + 1) = some (seqObj "list" vs.toArray 0) := by
    rw [← hsz]; exact Heap.get?_push_size _ rfl
  have keep : ∀ b o, s.heap.get? b = some o → (((s.heap.push (seqObj "list" #[] 0)).update s.heap.objs.size (Obj.mapSeq (· ++ vs.toArray))).push (seqObj "list" vs.toArray 0)).get? b = some o := fun b o q =>
    Heap.get?_push_of_some _ (by rw [Heap.get?_update_ne _ _ _ _ (Nat.ne_of_lt (Heap.lt_size q))]; exact Heap.get?_push_of_some _ q)
  show wpAny _ _ _ _ _ { s with heap := ((s.heap.push (seqObj "list" #[] 0)).update s.heap.objs.size (Obj.mapSeq (· ++ vs.toArray))).push (seqObj "list" vs.toArray 0) }
  rw [hsz]
  refine wpAny_bind (wpAny_holding (wpAny_call_entry slot_list_sort ⟨_, hoL, rfl⟩ entry_list_sort (sort_rows hoL (fun i v hv => (hr i v hv).mono fun b o _ eo => keep b o eo) hd h64 fun p a1 a2 => ⟨_, rfl, ?_⟩) (args_list_sort _)))
  exact wpAny_pure ⟨_, rfl, h p a1 a2⟩
end
end Mine

namespace Mine
open PySem PySem.W PyProof.Rows PySem.Calls
section
variable {B : Bd} {G : Ev} {N : Nx} {u : Nat} {Q E : PV → Shared → Prop}
theorem getD_at {α : Type} {l : List α} {i : Nat} {d : α} (h : i < l.length) : l.getD i d = l[i] := by rw [List.getD_eq_getElem?_getD, List.getElem?_eq_getElem h]; rfl
theorem row_at {d : V} {v : PV} (hd : rowOk d = true) (r : Val B N d v) : RowAt B.D N N.s.heap v (ikey d) := by
  obtain ⟨k, hk, rfl⟩ := rowOk_of hd
  obtain ⟨a, arr, rfl, wa, ⟨n, t⟩, rs⟩ := r
  exact ⟨a, arr, n, rfl, t, by rw [ikey_row]; exact rs, by rw [ikey_row]; exact hk⟩
theorem rows_at {l : List V} {vs : List PV} (hl : l.all rowOk = true) (rs : Vals B N l vs) : ∀ i v, vs[i]? = some v → RowAt B.D N N.s.heap v (ikey (l.getD i .none)) := fun i v e => by
  have hi : i < l.length := (RVs_length rs).symm ▸ (List.getElem?_eq_some_iff.mp e).1
  obtain ⟨w, e1, r⟩ := RVs_get rs (List.getElem?_eq_getElem hi)
  cases e.symm.trans e1
  rw [getD_at hi]
  exact row_at (List.all_eq_true.mp hl _ (List.getElem_mem hi)) r
theorem RVs_pick {l : List V} {vs : List PV} (rs : Vals B N l vs) : ∀ (p : List Nat), (∀ i ∈ p, i < l.length) → Vals B N (p.map fun i => l.getD i .none) (p.map fun i => vs.getD i Value.none)
  | [], _ => rfl
  | i :: p, hp => by
    have hi := hp i (List.mem_cons_self ..)
    obtain ⟨w, e1, r⟩ := RVs_get rs (List.getElem?_eq_getElem hi)
    refine ⟨_, _, rfl, ?_, RVs_pick rs p fun j hj => hp j (List.mem_cons_of_mem _ hj)⟩
    show RV B.D N (l.getD i V.none) (vs.getD i Value.none)
    rw [getD_at hi, List.getD_eq_getElem?_getD, e1]
    exact r
theorem POk.mem {n i : Nat} {p : Array Nat} (hp : POk n p) : i ∈ p.toList → i < n := fun h => List.mem_range.mp ((Array.perm_iff_toList_perm.mp hp).mem_iff.mp h)
theorem pick_perm {l : List V} {p : Array Nat} (hp : POk l.length p) : (p.toList.map fun i => l.getD i V.none).Perm l := by
  refine ((Array.perm_iff_toList_perm.mp hp).map fun i => l.getD i V.none).trans (List.Perm.of_eq ?_)
  refine List.ext_getElem ((List.length_map ..).trans List.length_range) fun i h1 h2 => ?_
  rw [List.getElem_map, ← getD_at h2 (d := V.none)]
  exact congrArg (l.getD · V.none) (List.getElem_range ..)
theorem pick_up {l : List V} {p : Array Nat} (hp : POk l.length p) (hs : Up (O := natO) (fun i => rix (ikey (l.getD i .none))) p l.length) : (p.toList.map fun i => l.getD i V.none).Pairwise fun a b => rkey a < rkey b := by
  rw [List.pairwise_iff_getElem]
  intro i j hi hj hij
  rw [List.length_map, Array.length_toList, hp.size] at hi hj
  have h : natO.blt _ _ = true := hs.lt hij hj
  have e : ∀ {k : Nat} (hk : k < l.length) (h : k < (p.toList.map fun i => l.getD i V.none).length), rkey ((p.toList.map fun i => l.getD i V.none)[k]) = KP (O := natO) (fun i => rix (ikey (l.getD i .none))) p k := fun hk h => by
    rw [List.getElem_map]
    exact congrArg (fun i => rix (ikey (l.getD i .none))) (hp.get hk).2.symm
  rw [e hi, e hj]
  exact of_decide_eq_true (p := (_ : Nat) < (_ : Nat)) h
theorem ok_sorted : CallOk B u (.builtin "sorted") .sorted := fun G N ds vs Q E K rm e sm rs z => uno e rs fun d v hv e rv => by
  subst hv
  cases d with
  | list l =>
    obtain ⟨hc, e⟩ := if_of (show oK (if (l.all rowOk && nodV l) = true then some (V.list (sortB l)) else none) K from e)
    have hl := (Bool.and_eq_true_iff.mp hc).1
    have nd := nodV_of hl (Bool.and_eq_true_iff.mp hc).2
    obtain ⟨a, arr, rfl, wa, il, rsl⟩ := id rv
    have hlen : arr.toList.length = l.length := RVs_length rsl
    have h64 : l.length ≤ 30 := (sortB_perm hl nd).length_eq ▸ sortB_len l
    have key : ∀ i (h : i < l.length), ∃ k ∈ rowsI, l[i] = rowV k := fun i h => rowOk_of (List.all_eq_true.mp hl _ (List.getElem_mem h))
    refine sorted_rows (D := B.D) (N := N) (vs := arr.toList) (key := fun i => ikey (l.getD i .none)) (by rw [Array.toArray_toList]; exact il.list) (rows_at hl rsl) (fun i j hi hj h => ?_) (hlen.symm ▸ Nat.lt_of_le_of_lt h64 (by decide)) fun p hp hs => ?_
    · rw [hlen] at hi hj
      obtain ⟨k1, m1, e1⟩ := key i hi
      obtain ⟨k2, m2, e2⟩ := key j hj
      replace h : rix (ikey (l.getD i .none)) = rix (ikey (l.getD j .none)) := h
      rw [getD_at hi, getD_at hj, e1, e2, ikey_row, ikey_row] at h
      exact (List.getElem_inj nd).mp (e1.trans ((congrArg rowV (rix_inj m1 h)).trans e2.symm))
    rw [hlen] at hp hs
    have eq := sort_uniq hl (pick_perm hp) nd (pick_up hp hs)
    obtain ⟨ep, he⟩ := sortedAll_at N.s.heap arr.toList (List.toArray (pick arr.toList p))
    have m : More N { N.s with heap := sortedAll N.s.heap arr.toList (List.toArray (pick arr.toList p)) } := ⟨fun b o e => sortedAll_old e, rfl, rfl⟩
    have nn : ¬ N.has (N.s.heap.objs.size + 1) := fun h => absurd (has_lt h) (Nat.not_lt.mpr (Nat.le_succ _))
    have pv := m.pv sm nn he
    have r2 := Vals.on (m.aft sm) (RVs_pick rsl p.toList fun i hi => hp.mem hi)
    rw [eq] at r2
    exact z _ ((N.at _).wi (N.s.heap.objs.size + 1)) _ e ((m.aft sm).wi pv nn) rfl (RC_RV (d := .list _) (.inr rfl) (RC_le Le.wi (fun _ e => e) ⟨_, ⟨ep, he⟩, r2⟩))
  | _ => exact False.elim e
end
end Mine

namespace Mine
open PySem PySem.W PyProof.Rows PySem.Calls
noncomputable def advM (m : Nat) (p : SetTable.Probe) : SetTable.Probe :=
  if p.more > 0 then { p with j := p.j + 1, more := p.more - 1 } else
  { p with j := (SetTable.leap m p.i p.perturb).1, more := SetTable.runEnd m (SetTable.leap m p.i p.perturb).1 - (SetTable.leap m p.i p.perturb).1, i := (SetTable.leap m p.i p.perturb).1, perturb := (SetTable.leap m p.i p.perturb).2 }
theorem adv_eq (t : SetTable) (p : SetTable.Probe) : t.advance p = advM t.mask p := rfl
noncomputable def headAt (m : Nat) (h : Int) : Nat → Nat × Nat
  | 0 => (SetTable.bits h % (m + 1), SetTable.bits h)
  | t + 1 => SetTable.leap m (headAt m h t).1 (headAt m h t).2
noncomputable def stOf (m : Nat) (q : Nat × Nat) (w : Nat) : SetTable.Probe := ⟨q.1 + w, SetTable.runEnd m q.1 - q.1 - w, q.1, q.2, none⟩
noncomputable def pr (m : Nat) (h : Int) : Nat → SetTable.Probe
  | 0 => stOf m (headAt m h 0) 0
  | k + 1 => advM m (pr m h k)
theorem pr_start (t : SetTable) (h : Int) : t.probeStart h = pr t.mask h 0 := rfl
theorem run_cases (m i : Nat) : (SetTable.runEnd m i = i + 9 ∧ i + 9 ≤ m) ∨ SetTable.runEnd m i = i := by
  unfold SetTable.runEnd
  by_cases h : i + 9 ≤ m
  · exact .inl ⟨if_pos h, h⟩
  · exact .inr (if_neg h)
theorem run_ge (m i : Nat) : i ≤ SetTable.runEnd m i := (run_cases m i).elim (fun h => h.1 ▸ Nat.le_add_right i 9) fun h => Nat.le_of_eq h.symm
theorem run_le {m i : Nat} (hi : i ≤ m) : SetTable.runEnd m i ≤ m := (run_cases m i).elim (fun h => Nat.le_trans (Nat.le_of_eq h.1) h.2) fun h => Nat.le_trans (Nat.le_of_eq h) hi
theorem run_9 (m i : Nat) : SetTable.runEnd m i - i ≤ 9 := (run_cases m i).elim (fun h => by rw [h.1, Nat.add_sub_cancel_left]; exact Nat.le_refl 9) fun h => by rw [h, Nat.sub_self]; exact Nat.zero_le 9
section
variable {m : Nat} {h : Int} {r : Nat}
theorem walkW {q : Nat × Nat} (e : pr m h r = stOf m q 0) : ∀ w, w ≤ SetTable.runEnd m q.1 - q.1 → pr m h (r + w) = stOf m q w
  | 0, _ => e
  | w + 1, hw => by
    show advM m (pr m h (r + w)) = _
    rw [walkW e w (Nat.le_of_succ_le hw)]
    exact if_pos (Nat.sub_pos_of_lt hw)
theorem hopW {q : Nat × Nat} (e : pr m h r = stOf m q 0) : pr m h (r + (SetTable.runEnd m q.1 - q.1) + 1) = stOf m (SetTable.leap m q.1 q.2) 0 := by
  show advM m (pr m h (r + _)) = _
  rw [walkW e _ (Nat.le_refl _)]
  exact if_neg (show ¬ SetTable.runEnd m q.1 - q.1 - (SetTable.runEnd m q.1 - q.1) > 0 by rw [Nat.sub_self]; exact Nat.lt_irrefl 0)
theorem headPos (m : Nat) (h : Int) : ∀ t, ∃ r, r ≤ 10 * t ∧ pr m h r = stOf m (headAt m h t) 0
  | 0 => ⟨0, Nat.le_refl _, rfl⟩
  | t + 1 => (headPos m h t).elim fun r w => ⟨_, Nat.succ_le_succ (Nat.add_le_add w.1 (run_9 m _)), hopW w.2⟩
theorem head_lt (m : Nat) (h : Int) : ∀ t, (headAt m h t).1 ≤ m
  | 0 => Nat.le_of_lt_succ (Nat.mod_lt _ (Nat.succ_pos _))
  | t + 1 => Nat.le_of_lt_succ (Nat.mod_lt _ (Nat.succ_pos _))
theorem pr_in (m : Nat) (h : Int) : ∀ k, ∃ t w, w ≤ SetTable.runEnd m (headAt m h t).1 - (headAt m h t).1 ∧ pr m h k = stOf m (headAt m h t) w
  | 0 => ⟨0, 0, Nat.zero_le _, rfl⟩
  | k + 1 => by
    obtain ⟨t, w, hw, e⟩ := pr_in m h k
    show ∃ t' w', _ ∧ advM m (pr m h k) = _
    rw [e]
    rcases Nat.lt_or_eq_of_le hw with hl | he
    · exact ⟨t, w + 1, hl, if_pos (Nat.sub_pos_of_lt hl)⟩
    · exact ⟨t + 1, 0, Nat.zero_le _, if_neg (show ¬ SetTable.runEnd m _ - _ - w > 0 by rw [he, Nat.sub_self]; exact Nat.lt_irrefl 0)⟩
theorem pr_le (k : Nat) : (pr m h k).j ≤ m := by
  obtain ⟨t, w, hw, e⟩ := pr_in m h k
  rw [e]
  exact Nat.le_trans (Nat.add_le_add_left hw _) (Nat.le_trans (Nat.le_of_eq (Nat.add_sub_cancel' (run_ge m _))) (run_le (head_lt m h t)))
theorem pr_dummy (k : Nat) : (pr m h k).dummy = none := by
  obtain ⟨t, w, hw, e⟩ := pr_in m h k
  rw [e]; rfl
noncomputable def orb (m : Nat) : Nat → Nat × Nat → Nat → Nat
  | 0, _, acc => acc
  | f + 1, q, acc => orb m f (SetTable.leap m q.1 q.2) (acc ||| 1 <<< q.1)
theorem orb_bit {j : Nat} : ∀ (f t acc : Nat), (orb m f (headAt m h t) acc).testBit j = true → acc.testBit j = true ∨ ∃ d, d < t + f ∧ (headAt m h d).1 = j
  | 0, t, acc, e => .inl e
  | f + 1, t, acc, e => by
    rcases orb_bit f (t + 1) _ e with h1 | ⟨d, h1, h2⟩
    · rw [Nat.testBit_or] at h1
      refine (Bool.or_eq_true_iff.mp h1).imp id fun h1 => ⟨t, Nat.lt_add_of_pos_right (Nat.succ_pos f), ?_⟩
      rw [Nat.testBit_shiftLeft] at h1
      have h1 := Bool.and_eq_true_iff.mp h1
      exact Nat.le_antisymm (of_decide_eq_true h1.1) (Nat.le_of_sub_eq_zero (Nat.testBit_one_eq_true_iff_self_eq_zero.mp h1.2))
    · exact .inr ⟨d, Nat.lt_of_lt_of_le h1 (Nat.le_of_eq (by rw [Nat.add_assoc, Nat.add_comm 1 f])), h2⟩
noncomputable def full (m : Nat) (h : Int) : Bool := orb m (SetTable.turns m) (headAt m h 0) 0 == 2 ^ (m + 1) - 1
theorem cover {j : Nat} (f : full m h = true) (hj : j ≤ m) : ∃ t, t < SetTable.turns m ∧ (headAt m h t).1 = j := by
  have w : (orb m (SetTable.turns m) (headAt m h 0) 0).testBit j = true := by
    rw [eq_of_beq f, Nat.testBit_two_pow_sub_one]
    exact decide_eq_true (Nat.lt_succ_of_le hj)
  rcases orb_bit _ _ _ w with h3 | ⟨d, h3, h4⟩
  · rw [Nat.zero_testBit] at h3; cases h3
  · exact ⟨d, Nat.zero_add (SetTable.turns m) ▸ h3, h4⟩
theorem least {P : Nat → Prop} (n : Nat) : P n → ∃ K, K ≤ n ∧ P K ∧ ∀ k, k < K → ¬ P k := n.strongRecOn fun n ih p =>
  (Classical.em (∃ k, k < n ∧ P k)).elim (fun ⟨k, hk, q⟩ => (ih k hk q).elim fun K w => ⟨K, Nat.le_trans w.1 (Nat.le_of_lt hk), w.2⟩) fun no => ⟨n, Nat.le_refl _, p, fun k hk q => no ⟨k, hk, q⟩⟩
theorem first_free {S : List Nat} (f : full m h = true) {j : Nat} (hj : j ≤ m) (hf : j ∉ S) : ∃ K, K < 10 * SetTable.turns m ∧ (pr m h K).j ∉ S ∧ ∀ k, k < K → (pr m h k).j ∈ S := by
  obtain ⟨t, ht, e⟩ := cover f hj
  obtain ⟨r, hr, er⟩ := headPos m h t
  obtain ⟨K, hK, h1, h2⟩ := least (P := fun r => (pr m h r).j ∉ S) r (by show (pr m h r).j ∉ S; rw [er]; show (headAt m h t).1 + 0 ∉ S; rw [e]; exact hf)
  exact ⟨K, Nat.lt_of_le_of_lt (Nat.le_trans hK hr) (Nat.mul_lt_mul_of_pos_left ht (by decide)), h1, fun k hk => Classical.not_not.mp (h2 k hk)⟩
end
noncomputable def rH (k : List Int) : Int := reduceHash (Builtin.Tuple.tupleHashOf (k.map hashInt))
noncomputable def masks : List Nat := [7, 31, 127]
theorem full_rows : (rowsI.all fun k => masks.all fun m => full m (rH k)) = true := by decide +kernel
theorem full_row {k : List Int} {m : Nat} (hk : k ∈ rowsI) (hm : m ∈ masks) : full m (rH k) = true := List.all_eq_true.mp (List.all_eq_true.mp full_rows _ hk) _ hm
end Mine

namespace Mine
open PySem PySem.W PyProof.Rows PySem.Calls
section
variable {P : List Nat} {j : Nat}
theorem up_get (hp : P.Pairwise (· < ·)) {i k a b : Nat} (hik : i < k) (ha : P[i]? = some a) (hb : P[k]? = some b) : a < b := by
  obtain ⟨h1, rfl⟩ := List.getElem?_eq_some_iff.mp ha
  obtain ⟨h2, rfl⟩ := List.getElem?_eq_some_iff.mp hb
  exact List.pairwise_iff_getElem.mp hp _ _ h1 h2 hik
theorem mid_in {lo hi : Nat} (h : lo < hi) : lo ≤ (lo + hi) / 2 ∧ (lo + hi) / 2 < hi :=
  ⟨(Nat.le_div_iff_mul_le (by decide)).mpr (by rw [Nat.mul_comm, Nat.two_mul]; exact Nat.add_le_add_left (Nat.le_of_lt h) _), Nat.div_lt_of_lt_mul (by rw [Nat.two_mul]; exact Nat.add_lt_add_right h _)⟩
noncomputable def Cut (P : List Nat) (j r : Nat) : Prop := r ≤ P.length ∧ (∀ i v, i < r → P[i]? = some v → v < j) ∧ ∀ i v, r ≤ i → P[i]? = some v → j ≤ v
theorem below_go (hp : P.Pairwise (· < ·)) : ∀ (f lo hi : Nat), hi ≤ P.length → lo ≤ hi → hi ≤ lo + f → (∀ i v, i < lo → P[i]? = some v → v < j) → (∀ i v, hi ≤ i → P[i]? = some v → j ≤ v) → Cut P j (SetTable.below.go P.toArray j f lo hi)
  | 0, lo, hi, h1, h2, h3, h4, h5 => ⟨Nat.le_trans h2 h1, h4, fun i v q => h5 i v (Nat.le_trans h3 q)⟩
  | f + 1, lo, hi, h1, h2, h3, h4, h5 => by
    unfold SetTable.below.go
    by_cases hlt : lo < hi
    · rw [if_pos hlt]
      have hm := mid_in hlt
      show Cut P j (if P.toArray.getD ((lo + hi) / 2) j < j then _ else _)
      generalize (lo + hi) / 2 = m at hm
      have hl := Nat.lt_of_lt_of_le hm.2 h1
      have e : P[m]? = some P[m] := List.getElem?_eq_getElem hl
      have e2 : P.toArray.getD m j = P[m] := by rw [Array.getD_eq_getD_getElem?, List.getElem?_toArray, e]; rfl
      rw [e2]
      by_cases hc : P[m] < j
      · rw [if_pos hc]
        exact below_go hp f _ hi h1 hm.2 (Nat.le_trans h3 (by rw [Nat.add_comm f, ← Nat.add_assoc]; exact Nat.add_le_add_right (Nat.succ_le_succ hm.1) f)) (fun i v q w => (Nat.lt_or_eq_of_le (Nat.le_of_lt_succ q)).elim (fun q => Nat.lt_trans (up_get hp q w e) hc) fun q => by subst q; cases w.symm.trans e; exact hc) h5
      · rw [if_neg hc]
        exact below_go hp f lo _ (Nat.le_of_lt hl) hm.1 (Nat.le_of_lt_succ (Nat.lt_of_lt_of_le hm.2 h3)) h4 fun i v q w => (Nat.lt_or_eq_of_le q).elim (fun q => Nat.le_trans (Nat.not_lt.mp hc) (Nat.le_of_lt (up_get hp q e w))) fun q => by subst q; cases w.symm.trans e; exact Nat.not_lt.mp hc
    · rw [if_neg hlt]
      exact ⟨Nat.le_trans h2 h1, h4, fun i v q => h5 i v (Nat.le_trans (Nat.not_lt.mp hlt) q)⟩
theorem below_ok (hp : P.Pairwise (· < ·)) (j : Nat) : Cut P j (SetTable.below P.toArray j) :=
  below_go hp P.toArray.size 0 P.toArray.size (Nat.le_refl _) (Nat.zero_le _) (Nat.le_add_left ..) (fun i v q => absurd q (Nat.not_lt_zero _)) fun i v q w => absurd (List.getElem?_eq_some_iff.mp w).1 (Nat.not_lt.mpr q)
theorem Cut.uniq {r k : Nat} (h : Cut P j r) (hk : k ≤ P.length) (h1 : ∀ v, r < k → P[r]? = some v → v < j) (h2 : ∀ v, k < r → P[k]? = some v → j ≤ v) : r = k := by
  rcases Nat.lt_trichotomy r k with q | q | q
  · have e := List.getElem?_eq_getElem (Nat.lt_of_lt_of_le q hk)
    exact absurd (h1 _ q e) (Nat.not_lt.mpr (h.2.2 _ _ (Nat.le_refl _) e))
  · exact q
  · have e := List.getElem?_eq_getElem (Nat.lt_of_lt_of_le q h.1)
    exact absurd (h.2.1 _ _ q e) (Nat.not_lt.mpr (h2 _ q e))
theorem below_at (hp : P.Pairwise (· < ·)) {i : Nat} (e : P[i]? = some j) : SetTable.below P.toArray j = i :=
  (below_ok hp j).uniq (Nat.le_of_lt (List.getElem?_eq_some_iff.mp e).1) (fun v q w => up_get hp q w e) fun v q w => by cases w.symm.trans e; exact Nat.le_refl _
variable {t : SetTable}
theorem slot_live (hP : t.place = P.toArray) (hp : P.Pairwise (· < ·)) {i : Nat} (e : P[i]? = some j) : t.slot j = .live i := by
  unfold SetTable.slot
  dsimp only
  rw [hP, below_at hp e, List.getElem?_toArray, e]
  exact if_pos (beq_self_eq_true _)
theorem slot_empty (hP : t.place = P.toArray) (hd : t.dummies = #[]) (h : j ∉ P) : t.slot j = .empty := by
  unfold SetTable.slot
  dsimp only
  rw [hP, hd, List.getElem?_toArray]
  exact (if_neg fun q => h (List.mem_of_getElem? (eq_of_beq q))).trans (if_neg (by exact Bool.false_ne_true))
end
end Mine

namespace Mine
open PySem PySem.W PyProof.Rows PySem.Calls
section
variable {m : Nat} {owner : Array (Option Nat)} {S : List Nat} {h : Int}
noncomputable def OwnedBy (m : Nat) (owner : Array (Option Nat)) (S : List Nat) : Prop := owner.size = m + 1 ∧ ∀ j, j ≤ m → owner.getD j (some 0) = S.findIdx? (· == j)
theorem idx_none {j : Nat} : S.findIdx? (· == j) = none ↔ j ∉ S :=
  List.findIdx?_eq_none_iff.trans ⟨fun q w => absurd (q j w) (by rw [beq_self_eq_true]; exact Bool.noConfusion), fun q x w => beq_eq_false_iff_ne.mpr fun e => q (e ▸ w)⟩
theorem OwnedBy.isN (o : OwnedBy m owner S) {j : Nat} (hj : j ≤ m) : (owner.getD j (some 0)).isNone = true ↔ j ∉ S := by
  rw [o.2 j hj, Option.isNone_iff_eq_none]; exact idx_none
theorem split_lt {P : Nat → Prop} {r n : Nat} (a : ∀ k, k < r → P k) (b : ∀ w, w < n → P (r + w)) : ∀ k, k < r + n → P k := fun k hk =>
  (Nat.lt_or_ge k r).elim (a k) fun q => (Nat.exists_eq_add_of_le q).elim fun d e => by subst e; exact b d (Nat.lt_of_add_lt_add_left hk)
theorem free_ok (o : OwnedBy m owner S) {t₀ : Nat} (ht : (headAt m h t₀).1 ∉ S) : ∀ (fuel t r : Nat), t ≤ t₀ → t₀ < t + fuel → pr m h r = stOf m (headAt m h t) 0 → (∀ k, k < r → (pr m h k).j ∈ S) →
    ∃ K, SetTable.layClean.free m owner fuel (headAt m h t).1 (headAt m h t).2 = some (pr m h K).j ∧ (pr m h K).j ∉ S ∧ ∀ k, k < K → (pr m h k).j ∈ S
  | 0, t, r, h1, h2, e, hb => absurd h1 (Nat.not_le.mpr h2)
  | fuel + 1, t, r, h1, h2, e, hb => by
    have hin : ∀ w, w ≤ SetTable.runEnd m (headAt m h t).1 - (headAt m h t).1 → (headAt m h t).1 + w ≤ m ∧ (pr m h (r + w)).j = (headAt m h t).1 + w := fun w hw =>
      have e : (pr m h (r + w)).j = (headAt m h t).1 + w := congrArg (·.j) (walkW e w hw)
      ⟨Nat.le_trans (Nat.le_of_eq e.symm) (pr_le _), e⟩
    have occ : ∀ w, w ≤ SetTable.runEnd m (headAt m h t).1 - (headAt m h t).1 → (!(owner.getD ((headAt m h t).1 + w) (some 0)).isNone) = true → (pr m h (r + w)).j ∈ S := fun w hw q => by
      rw [(hin w hw).2]
      refine Classical.byContradiction fun no => ?_
      rw [(o.isN (hin w hw).1).mpr no] at q
      cases q
    unfold SetTable.layClean.free
    rw [Nat.succ_sub (run_ge m _)]
    cases hf : (List.range (SetTable.runEnd m (headAt m h t).1 - (headAt m h t).1).succ).find? (fun k => (owner.getD ((headAt m h t).1 + k) (some 0)).isNone) with
    | some w =>
      obtain ⟨f1, f2, f3⟩ := List.find?_range_eq_some.mp hf
      have g := hin w (Nat.le_of_lt_succ (List.mem_range.mp f2))
      exact ⟨r + w, by rw [g.2], by rw [g.2]; exact (o.isN g.1).mp f1, split_lt hb fun d hd => occ d (Nat.le_trans (Nat.le_of_lt hd) (Nat.le_of_lt_succ (List.mem_range.mp f2))) (f3 d hd)⟩
    | none =>
      have hf := List.find?_range_eq_none.mp hf
      have all : ∀ w, w < (SetTable.runEnd m (headAt m h t).1 - (headAt m h t).1).succ → (pr m h (r + w)).j ∈ S := fun w hw => occ w (Nat.le_of_lt_succ hw) (hf w hw)
      have ne : t ≠ t₀ := fun et => by
        subst et
        have w := all 0 (Nat.succ_pos _)
        rw [(hin 0 (Nat.zero_le _)).2] at w
        exact ht w
      exact free_ok o ht fuel (t + 1) _ (Nat.lt_of_le_of_ne h1 ne) (by rw [Nat.add_assoc, Nat.add_comm 1]; exact h2) (hopW e) (split_lt (n := (SetTable.runEnd m (headAt m h t).1 - (headAt m h t).1).succ) hb all)
structure Laid (m : Nat) (hs : List Int) (S : List Nat) : Prop where
  len : S.length = hs.length
  nd : S.Nodup
  le : ∀ j ∈ S, j ≤ m
  reach : ∀ (k : Nat) (h : Int) (j : Nat), hs[k]? = some h → S[k]? = some j → ∃ r, (pr m h r).j = j ∧ ∀ r', r' < r → (pr m h r').j ∈ S
theorem exists_free (hl : S.length ≤ m) : ∃ j, j ≤ m ∧ j ∉ S := Classical.byContradiction fun no => by
  have w := List.Nodup.length_le_of_subset (List.nodup_range (n := m + 1)) (l₂ := S) fun j hj => Classical.byContradiction fun q => no ⟨j, Nat.le_of_lt_succ (List.mem_range.mp hj), q⟩
  rw [List.length_range] at w
  exact absurd (Nat.le_trans w hl) (Nat.not_succ_le_self m)
theorem Laid.snoc {hs : List Int} {j : Nat} (l : Laid m hs S) (hj : j ∉ S) (hle : j ≤ m) (hr : ∃ r, (pr m h r).j = j ∧ ∀ r', r' < r → (pr m h r').j ∈ S) : Laid m (hs ++ [h]) (S ++ [j]) := by
  refine ⟨by rw [List.length_append, List.length_append, l.len]; rfl, ?_, fun x hx => ?_, fun k g i e1 e2 => ?_⟩
  · exact List.nodup_append.mpr ⟨l.nd, List.nodup_cons.mpr ⟨List.not_mem_nil, .nil⟩, fun a ha b hb e => hj (by rw [← List.mem_singleton.mp hb, ← e]; exact ha)⟩
  · exact (List.mem_append.mp hx).elim (l.le x) fun w => List.mem_singleton.mp w ▸ hle
  · have up : ∀ {g : Int} {i : Nat}, (∃ r, (pr m g r).j = i ∧ ∀ r', r' < r → (pr m g r').j ∈ S) → ∃ r, (pr m g r).j = i ∧ ∀ r', r' < r → (pr m g r').j ∈ S ++ [j] := fun ⟨r, a, b⟩ => ⟨r, a, fun r' q => List.mem_append.mpr (.inl (b r' q))⟩
    rcases at_snoc e1 with e1 | ⟨e, rfl⟩ <;> rcases at_snoc e2 with e2 | ⟨e', rfl⟩
    · exact up (l.reach k g i e1 e2)
    · exact absurd (List.getElem?_eq_some_iff.mp e1).1 (by rw [e', l.len]; exact Nat.lt_irrefl _)
    · exact absurd (List.getElem?_eq_some_iff.mp e2).1 (by rw [e, l.len]; exact Nat.lt_irrefl _)
    · exact up hr
theorem OwnedBy.set (o : OwnedBy m owner S) {j : Nat} (hj : j ∉ S) (hle : j ≤ m) : OwnedBy m (owner.setIfInBounds j (some S.length)) (S ++ [j]) := by
  refine ⟨by rw [Array.size_setIfInBounds]; exact o.1, fun i hi => ?_⟩
  rw [List.findIdx?_append, Array.getD_eq_getD_getElem?, Array.getElem?_setIfInBounds]
  by_cases e : j = i
  · subst e
    rw [if_pos rfl, if_pos (by rw [o.1]; exact Nat.lt_succ_of_le hle), idx_none.mpr hj, show ([j] : List Nat).findIdx? (· == j) = some 0 by rw [List.findIdx?_cons, beq_self_eq_true]; rfl]
    exact congrArg some (Nat.zero_add _).symm
  · rw [if_neg e, ← Array.getD_eq_getD_getElem?, o.2 i hi, show ([j] : List Nat).findIdx? (· == i) = none from idx_none.mpr fun q => e (List.mem_singleton.mp q).symm]
    cases S.findIdx? (· == i) <;> rfl
noncomputable def layStep (m : Nat) (acc : Option (Array (Option Nat) × Nat)) (h : Int) : Option (Array (Option Nat) × Nat) := do
    let (owner, k) ← acc
    let j ← SetTable.layClean.free m owner (SetTable.turns m) (SetTable.bits h % (m + 1)) (SetTable.bits h)
    pure (owner.setIfInBounds j (some k), k + 1)
theorem lay_fold : ∀ (l hs : List Int) (S : List Nat) (owner : Array (Option Nat)), (∀ h ∈ l, full m h = true) → Laid m hs S → OwnedBy m owner S → hs.length + l.length ≤ m →
    ∃ owner' S' n, l.foldl (layStep m) (some (owner, hs.length)) = some (owner', n) ∧ Laid m (hs ++ l) S' ∧ OwnedBy m owner' S'
  | [], hs, S, owner, _, la, o, hl => ⟨owner, S, _, rfl, by rw [List.append_nil]; exact la, o⟩
  | h :: l, hs, S, owner, fl, la, o, hl => by
    have hl2 : hs.length + 1 + l.length ≤ m := by rw [Nat.add_assoc, Nat.add_comm 1]; exact hl
    have hs1 : (hs ++ [h]).length = hs.length + 1 := List.length_append
    obtain ⟨j, hj, hn⟩ := exists_free (m := m) (S := S) (by rw [la.len]; exact Nat.le_trans (Nat.le_add_right ..) hl)
    obtain ⟨t, ht, et⟩ := cover (fl h (List.mem_cons_self ..)) hj
    obtain ⟨K, k1, k2, k3⟩ := free_ok o (t₀ := t) (by rw [et]; exact hn) (SetTable.turns m) 0 0 (Nat.zero_le _) (by rw [Nat.zero_add]; exact ht) rfl fun k hk => absurd hk (Nat.not_lt_zero _)
    have la2 := la.snoc (h := h) k2 (pr_le K) ⟨K, rfl, k3⟩
    have o2 := o.set k2 (pr_le K)
    rw [la.len] at o2
    obtain ⟨owner', S', n, e, la3, o3⟩ := lay_fold l (hs ++ [h]) _ _ (fun x q => fl x (List.mem_cons_of_mem _ q)) la2 o2 (by rw [hs1]; exact hl2)
    refine ⟨owner', S', n, ?_, by rw [List.append_assoc] at la3; exact la3, o3⟩
    rw [List.foldl_cons, ← e, hs1]
    exact congrArg (List.foldl _ · l) (show (SetTable.layClean.free m owner (SetTable.turns m) (headAt m h 0).1 (headAt m h 0).2).bind (fun j => some (owner.setIfInBounds j (some hs.length), hs.length + 1)) = _ by rw [k1]; rfl)
theorem layClean_ok {hs : List Int} (fl : ∀ h ∈ hs, full m h = true) (hl : hs.length ≤ m) : ∃ owner S, SetTable.layClean m (List.toArray hs) = some owner ∧ Laid m hs S ∧ OwnedBy m owner S := by
  obtain ⟨owner, S, n, e, la, o⟩ := lay_fold hs [] [] (Array.replicate (m + 1) none) fl ⟨rfl, .nil, fun _ h => (nomatch h), fun k h j e => nomatch e⟩ ⟨Array.size_replicate, fun j hj => by
    rw [Array.getD_eq_getD_getElem?, Array.getElem?_replicate, if_pos (Nat.lt_succ_of_le hj)]; rfl⟩ (by rw [List.length_nil, Nat.zero_add]; exact hl)
  refine ⟨owner, S, ?_, la, o⟩
  unfold SetTable.layClean
  rw [List.foldl_toArray' _ _ _ rfl]
  exact congrArg (Option.map (·.1)) e
end
end Mine

namespace Mine
open PySem PySem.W PyProof.Rows PySem.Calls
section
variable {m : Nat} {S : List Nat}
noncomputable def liveOf (m : Nat) (S : List Nat) : List (Nat × Nat) := (List.range (m + 1)).filterMap fun j => (S.findIdx? (· == j)).map (j, ·)
theorem idx_some (nd : S.Nodup) {j k : Nat} : S.findIdx? (· == j) = some k ↔ S[k]? = some j := by
  rw [List.findIdx?_eq_some_iff_getElem]
  constructor
  · rintro ⟨h1, h2, _⟩
    rw [List.getElem?_eq_getElem h1, eq_of_beq h2]
  · intro e
    obtain ⟨hk, rfl⟩ := List.getElem?_eq_some_iff.mp e
    exact ⟨hk, beq_self_eq_true _, fun i hi q => absurd ((List.getElem_inj nd).mp (eq_of_beq q)) (Nat.ne_of_lt hi)⟩
theorem live_mem (nd : S.Nodup) (hle : ∀ j ∈ S, j ≤ m) {q : Nat × Nat} : q ∈ liveOf m S ↔ S[q.2]? = some q.1 := by
  obtain ⟨j, k⟩ := q
  refine List.mem_filterMap.trans ⟨?_, fun e => ⟨j, List.mem_range.mpr (Nat.lt_succ_of_le (hle j (List.mem_of_getElem? e))), Option.map_eq_some_iff.mpr ⟨k, (idx_some nd).mpr e, rfl⟩⟩⟩
  rintro ⟨i, hi, e⟩
  obtain ⟨k', e1, e2⟩ := Option.map_eq_some_iff.mp e
  cases e2
  exact (idx_some nd).mp e1
theorem live_rise : (liveOf m S).Pairwise (fun a b => a.1 < b.1) := by
  refine List.Pairwise.filterMap _ (fun a a' h b hb b' hb' => ?_) List.pairwise_lt_range
  obtain ⟨_, _, rfl⟩ := Option.map_eq_some_iff.mp hb
  obtain ⟨_, _, rfl⟩ := Option.map_eq_some_iff.mp hb'
  exact h
theorem live_perm (nd : S.Nodup) (hle : ∀ j ∈ S, j ≤ m) : ((liveOf m S).map (·.2)).Perm (List.range S.length) := by
  refine (List.perm_ext_iff_of_nodup (List.pairwise_map.mpr (List.Pairwise.imp_of_mem (fun {a b} ha hb hab e => ?_) live_rise)) List.nodup_range).mpr fun k => List.mem_map.trans (Iff.trans ?_ List.mem_range.symm)
  · have h1 := (live_mem nd hle).mp ha
    rw [e, (live_mem nd hle).mp hb] at h1
    exact absurd (Option.some.inj h1).symm (Nat.ne_of_lt hab)
  · exact ⟨fun ⟨q, hq, e⟩ => e ▸ (List.getElem?_eq_some_iff.mp ((live_mem nd hle).mp hq)).1, fun hk => ⟨(S[k], k), (live_mem nd hle).mpr (List.getElem?_eq_getElem hk), rfl⟩⟩
end
theorem hash_nd : (rowsI.map rH).Nodup := by decide +kernel
theorem rH_inj {a b : List Int} (ha : a ∈ rowsI) (hb : b ∈ rowsI) (e : rH a = rH b) : a = b := by
  obtain ⟨i, hi⟩ := List.getElem?_of_mem ha
  obtain ⟨k, hk⟩ := List.getElem?_of_mem hb
  obtain ⟨h1, rfl⟩ := List.getElem?_eq_some_iff.mp hi
  obtain ⟨h2, rfl⟩ := List.getElem?_eq_some_iff.mp hk
  have e : (rowsI.map rH)[i]'(by rw [List.length_map]; exact h1) = (rowsI.map rH)[k]'(by rw [List.length_map]; exact h2) := by rw [List.getElem_map, List.getElem_map]; exact e
  exact getElem_congr rfl ((List.getElem_inj hash_nd).mp e) _
noncomputable abbrev En := Nat × List Int × Addr
noncomputable def esOf (L : List En) : Array (Int × PV) := List.toArray (L.map fun e => (rH e.2.1, .ref e.2.2))
noncomputable def plOf (L : List En) : List Nat := L.map (·.1)
structure Tq (prog : Program) (w : World) (h : Heap) (t : SetTable) (L : List En) : Prop where
  mask : t.mask ∈ masks
  place : t.place = (plOf L).toArray
  dum : t.dummies = #[]
  plain : t.plain = true
  led : t.led = !(w.params.followText "set-order")
  rise : (plOf L).Pairwise (· < ·)
  le : ∀ j ∈ plOf L, j ≤ t.mask
  tup : ∀ e ∈ L, e.2.1 ∈ rowsI ∧ IsTupleKey (intKind prog w) h e.2.1 e.2.2
  nd : (L.map (·.2.1)).Nodup
  reach : ∀ e ∈ L, ∃ r, (pr t.mask (rH e.2.1) r).j = e.1 ∧ ∀ r', r' < r → (pr t.mask (rH e.2.1) r').j ∈ plOf L
structure Tb (prog : Program) (w : World) (h : Heap) (t : SetTable) (L : List En) : Prop where
  q : Tq prog w h t L
  room : L.length * 5 < t.mask * 3
section
variable {prog : Program} {w : World} {h : Heap} {t : SetTable} {L : List En}
theorem pl_len : (plOf L).length = L.length := List.length_map ..
theorem es_size : (esOf L).size = L.length := List.size_toArray.trans (List.length_map ..)
theorem pl_at {i : Nat} {e : En} (he : L[i]? = some e) : (plOf L)[i]? = some e.1 := by unfold plOf; rw [List.getElem?_map, he]; rfl
theorem es_at {i : Nat} {e : En} (he : L[i]? = some e) : (esOf L)[i]? = some (rH e.2.1, .ref e.2.2) := by unfold esOf; rw [List.getElem?_toArray, List.getElem?_map, he]; rfl
theorem Tq.at (T : Tq prog w h t L) {i : Nat} {e : En} (he : L[i]? = some e) : t.slot e.1 = .live i := slot_live T.place T.rise (pl_at he)
theorem Tq.gave (T : Tq prog w h t L) : t.gaveWay = false := by
  unfold SetTable.gaveWay
  have m := T.mask
  generalize t.mask = k at m
  rcases List.mem_cons.mp m with rfl | m
  · rfl
  rcases List.mem_cons.mp m with rfl | m
  · rfl
  cases List.mem_singleton.mp m; rfl
theorem Tq.key_uniq (T : Tq prog w h t L) {i k : Nat} {a b : En} (ha : L[i]? = some a) (hb : L[k]? = some b) (e : a.2.1 = b.2.1) : i = k := by
  obtain ⟨h1, rfl⟩ := List.getElem?_eq_some_iff.mp ha
  obtain ⟨h2, rfl⟩ := List.getElem?_eq_some_iff.mp hb
  have e : (L.map (·.2.1))[i]'(by rw [List.length_map]; exact h1) = (L.map (·.2.1))[k]'(by rw [List.length_map]; exact h2) := by rw [List.getElem_map, List.getElem_map]; exact e
  exact (List.getElem_inj T.nd).mp e
theorem go_skip {hashAt : Nat → Int} {hx : Int} {met : SetTable.Met} {n : Nat} (hs : ∀ k, k < n → ∃ i, t.slot (pr t.mask hx k).j = .live i ∧ hashAt i ≠ hx) (fin : ∀ f, SetTable.probe.go t hashAt hx (f + 1) (pr t.mask hx n) = some met) : ∀ f k, k ≤ n → n < k + f → SetTable.probe.go t hashAt hx f (pr t.mask hx k) = some met
  | 0, k, h1, h2 => absurd h1 (Nat.not_le.mpr h2)
  | f + 1, k, h1, h2 => by
    rcases Nat.lt_or_eq_of_le h1 with hl | rfl
    · obtain ⟨i, e1, e2⟩ := hs k hl
      unfold SetTable.probe.go
      rw [e1]
      dsimp only
      rw [if_neg (fun q => e2 (eq_of_beq q))]
      exact go_skip hs fin f (k + 1) hl (by rw [Nat.add_assoc, Nat.add_comm 1]; exact h2)
    · exact fin f
end
end Mine

namespace Mine
open PySem PySem.W PyProof.Rows PySem.Calls
section
variable {prog : Program} {w : World} {h : Heap} {t : SetTable} {L : List En} {key : List Int}
structure Spot (t : SetTable) (L : List En) (key : List Int) (K : Nat) : Prop where
  b : K < 10 * SetTable.turns t.mask
  f : (pr t.mask (rH key) K).j ∉ plOf L
  u : ∀ k, k < K → (pr t.mask (rH key) k).j ∈ plOf L
theorem Tb.spot (T : Tb prog w h t L) (hk : key ∈ rowsI) : ∃ K, Spot t L key K := by
  have r : L.length ≤ t.mask := Nat.le_of_mul_le_mul_right (Nat.le_of_lt (Nat.lt_of_lt_of_le T.room (Nat.mul_le_mul_left _ (by decide)))) (show 0 < 5 by decide)
  obtain ⟨j, hj, hn⟩ := exists_free (m := t.mask) (S := plOf L) (by rw [pl_len]; exact r)
  exact (first_free (full_row hk T.q.mask) hj hn).elim fun K w => ⟨K, w.1, w.2.1, w.2.2⟩
theorem pl_mem {j : Nat} (hj : j ∈ plOf L) : ∃ (i : Nat) (e : En), L[i]? = some e ∧ e.1 = j := (List.mem_map.mp hj).elim fun e q => (List.getElem?_of_mem q.1).elim fun i qi => ⟨i, e, qi, q.2⟩
theorem probe_ok (T : Tq prog w h t L) (hk : key ∈ rowsI) {hashAt : Nat → Int} (hA : ∀ i e, L[i]? = some e → hashAt i = rH e.2.1) {K : Nat} (at' : Spot t L key K) :
    (∃ i e j n, L[i]? = some e ∧ e.2.1 = key ∧ t.probe hashAt (rH key) (pr t.mask (rH key) 0) = some (.candidate j i n)) ∨ ((∀ e ∈ L, e.2.1 ≠ key) ∧ t.probe hashAt (rH key) (pr t.mask (rH key) 0) = some (.empty (pr t.mask (rH key) K).j none)) := by
  have live : ∀ {n : Nat}, n ≤ K → (∀ k, k < n → ∀ (i : Nat) (e : En), L[i]? = some e → e.1 = (pr t.mask (rH key) k).j → e.2.1 ≠ key) → ∀ k, k < n → ∃ i, t.slot (pr t.mask (rH key) k).j = .live i ∧ hashAt i ≠ rH key := fun {n} hn no k hk' => by
    obtain ⟨i, e, hi, ej⟩ := pl_mem (at'.u k (Nat.lt_of_lt_of_le hk' hn))
    exact ⟨i, ej ▸ T.at hi, fun q => no k hk' i e hi ej (rH_inj (T.tup e (List.mem_of_getElem? hi)).1 hk ((hA i e hi).symm.trans q))⟩
  by_cases ex : ∃ e ∈ L, e.2.1 = key
  · obtain ⟨e, he, ek⟩ := ex
    obtain ⟨i, hi⟩ := List.getElem?_of_mem he
    obtain ⟨r0, e0, q0⟩ := T.reach e he
    rw [ek] at e0 q0
    have r0K : r0 < K := (Nat.lt_trichotomy r0 K).elim id fun q => absurd (q.elim (fun q => by rw [← q, e0]; exact List.mem_map.mpr ⟨e, he, rfl⟩) (q0 K)) at'.f
    obtain ⟨r, h1, h2, h3⟩ := least (P := fun r => (pr t.mask (rH key) r).j = e.1) r0 e0
    have hrK := Nat.lt_of_le_of_lt h1 r0K
    refine .inl ⟨i, e, (pr t.mask (rH key) r).j, advM t.mask (pr t.mask (rH key) r), hi, ek, go_skip (n := r) (live (Nat.le_of_lt hrK) fun k hk' i' e' hi' ej q => ?_) (fun f => ?_) _ 0 (Nat.zero_le _) (by rw [Nat.zero_add]; exact Nat.lt_trans hrK at'.b)⟩
    · have := T.key_uniq hi' hi (q.trans ek.symm)
      subst this
      cases hi'.symm.trans hi
      exact h3 k hk' ej.symm
    · unfold SetTable.probe.go
      rw [show t.slot (pr t.mask (rH key) r).j = .live i by rw [h2]; exact T.at hi]
      exact if_pos (by rw [hA i e hi, ek]; exact beq_self_eq_true _)
  · have no : ∀ e ∈ L, e.2.1 ≠ key := fun e he q => ex ⟨e, he, q⟩
    refine .inr ⟨no, go_skip (n := K) (live (Nat.le_refl _) fun k _ i e hi _ => no e (List.mem_of_getElem? hi)) (fun f => ?_) _ 0 (Nat.zero_le _) (by rw [Nat.zero_add]; exact at'.b)⟩
    unfold SetTable.probe.go
    rw [slot_empty T.place T.dum at'.f, pr_dummy]
variable {A : Around} {E : PV → Shared → Prop} {s : Shared}
theorem pass_all {α : Type} {l : List α} {f : α → Option Bool × PUnit → Sem (ForInStep (Option Bool × PUnit))} {C : α → Prop} {Q : Option Bool × PUnit → Shared → Prop} (hl : ∀ v ∈ l, C v)
    (hf : ∀ v, C v → ∀ Q' : ForInStep (Option Bool × PUnit) → Shared → Prop, Q' (.yield (none, ())) s → wpAny (model prog w) A (f v (none, ())) Q' E s) (q : Q (none, ()) s) : wpAny (model prog w) A (forIn l (none, ()) f) Q E s :=
  wpAny_forIn_list _ (fun rest r s' => r = (none, ()) ∧ s' = s ∧ ∀ v ∈ rest, C v) _ (fun v rest r s' ⟨hr, hs, hall⟩ => by subst hr; subst hs; exact hf v (hall v List.mem_cons_self) _ ⟨rfl, rfl, fun u hu => hall u (List.mem_cons_of_mem _ hu)⟩) (fun r s' ⟨hr, hs, _⟩ => by subst hr; subst hs; exact q) _ _ ⟨rfl, rfl, hl⟩
theorem cls_tuple {ks : List Int} {a : Addr} {Q : Bool → Shared → Prop} (hk : IsTupleKey (intKind prog w) s.heap ks a) (q : Q false s) : wpAny (model prog w) A (ofAClassStatement 8 (.ref a)) Q E s := by
  have hT := hk.typeIs
  obtain ⟨o, items, n, ho, _, hd, hi⟩ := hk
  unfold ofAClassStatement
  refine wpAny_bind (wpAny_typeOf hT ?_)
  dsimp only
  rw [if_pos (by decide)]
  refine wpAny_bind (wpAny_pure (wpAny_bind (wpAny_seqItems ho hd (wpAny_bind ?_))))
  rw [← Array.forIn_toList]
  refine pass_all (C := fun v => carriedByValue v = true) hi.byValue (fun v hc Q' q' => ?_) (wpAny_pure q)
  have hc : ofAClassStatement 7 v = pure false := by cases v <;> first | exact absurd hc Bool.false_ne_true | rfl
  rw [hc]
  exact wpAny_bind (wpAny_pure (wpAny_pure q'))
end
end Mine

namespace Mine
open PySem PySem.W PyProof.Rows PySem.Calls
section
variable {prog : Program} {w : World} {t : SetTable} {L : List En} {key : List Int} {A : Around} {E : PV → Shared → Prop} {s : Shared}
theorem seen_no {x : Addr} {vs : List PV} {Q : Bool → Shared → Prop} (hx : IsTupleKey (intKind prog w) s.heap key x) (hv : ∀ v ∈ vs, ∃ a k, v = .ref a ∧ IsTupleKey (intKind prog w) s.heap k a) (q : Q false s) : wpAny (model prog w) A (searchCouldBeSeen (.ref x) vs) Q E s := by
  unfold searchCouldBeSeen
  refine wpAny_bind (pass_all hv (fun v hc Q' q' => ?_) (wpAny_pure q))
  obtain ⟨a, k, rfl, hk⟩ := hc
  dsimp only
  split
  · exact wpAny_pure q'
  · refine wpAny_bind (wpAny_eqIsQuiet_tuple hx ?_)
    refine wpAny_bind (wpAny_eqIsQuiet_tuple hk ?_)
    refine wpAny_bind (cls_tuple hx ?_)
    refine wpAny_bind (cls_tuple hk ?_)
    exact wpAny_pure q'
theorem fits (T : Tb prog w s.heap t L) : t.fits (esOf L).size = true := by
  have h1 := T.room
  unfold SetTable.fits SetTable.fill
  rw [T.q.dum, T.q.place, es_size, List.size_toArray, pl_len]
  simp
  omega
theorem search_ok {a x : Addr} {ep f K : Nat} {o : Obj} {Q : SetFound → Shared → Prop} (hu : A.units < cLine) (ho : s.heap.get? a = some o) (hd : o.data = .set (esOf L) ep t) (T : Tb prog w s.heap t L) (hk : key ∈ rowsI) (hx : IsTupleKey (intKind prog w) s.heap key x) (at' : Spot t L key K)
    (h1 : (∃ e ∈ L, e.2.1 = key) → Q (.there none) s) (h2 : (∀ e ∈ L, e.2.1 ≠ key) → Q (.free (pr t.mask (rH key) K).j false) s) : wpAny (model prog w) A (setSearchFrom a (.ref x) (rH key) true (f + 1) none) Q E s := by
  unfold setSearchFrom
  refine wpAny_bind (wpAny_setState_of ho hd (fits T) ?_)
  dsimp only
  rw [T.q.gave]
  rcases probe_ok T.q hk (hashAt := fun i => ((esOf L)[i]?.map (·.1)).getD 0) (fun i e he => by rw [es_at he]; rfl) at' with ⟨i, e, j, n, hi, ek, g⟩ | ⟨no, g⟩
  · have hm := List.mem_of_getElem? hi
    have rest : wpAny (model prog w) A (do
          let some (_, y) := (esOf L)[i]? | unsupported "internal:set-entry"
          let equal ← holding [y] (eqBool y (.ref x))
          let (es', _, t') ← setState a
          if true && equal then return .there none
          let some same := t'.sameMemory t.moves t.mask | unsupported "set.changed-during-lookup:is-the-new-block-at-the-old-address"
          let still ← match (if same then t'.slot j else .empty) with
            | .live i' => match es'[i']? with
              | some (_, y') => do pure (if ← isSame y' y then some i' else none)
              | none => pure none
            | _ => pure none
          match still with
          | none => rule "set.search.anew"; setSearchFrom a (.ref x) (rH key) true f none
          | some i' => if equal then return .there (some i') else setSearchFrom a (.ref x) (rH key) true f (some n)) Q E s := by
      rw [es_at hi]
      refine wpAny_bind (wpAny_holding (wpAny_eqBool_tuple hu (T.q.tup e hm).2 hx ?_))
      refine wpAny_bind (wpAny_setState_of ho hd (fits T) ?_)
      rw [decide_eq_true ek]
      exact wpAny_pure (h1 ⟨e, hm, ek⟩)
    erw [g]
    dsimp only
    cases hled : t.led with
    | true => exact rest
    | false =>
      refine wpAny_bind (seen_no hx (fun v hv => ?_) rest)
      obtain ⟨p, hp, rfl⟩ := List.mem_map.mp hv
      obtain ⟨e', he', rfl⟩ := List.mem_map.mp (Array.mem_toList_iff.mpr (Array.mem_filter.mp (Array.mem_toList_iff.mp hp)).1)
      exact ⟨_, _, rfl, (T.q.tup e' he').2⟩
  · erw [g]
    exact wpAny_pure (h2 no)
end
end Mine

namespace Mine
open PySem PySem.W PyProof.Rows PySem.Calls
theorem insert_list {α : Type} (l : List α) (p : Nat) (x : α) : SetTable.insertAt (List.toArray l) p x = List.toArray (l.take p ++ x :: l.drop p) := by
  unfold SetTable.insertAt
  apply Array.toList_inj.mp
  rw [Array.toList_append, Array.toList_push, Array.toList_extract, Array.toList_extract]
  show l.take p ++ [x] ++ (l.drop p).take (l.length - p) = _
  rw [List.take_of_length_le (i := l.length - p) (by rw [List.length_drop]; exact Nat.le_refl _), List.append_assoc]; rfl
section
variable {prog : Program} {w : World} {t : SetTable} {L : List En} {key : List Int} {h : Heap}
noncomputable def putL (L : List En) (p : Nat) (e : En) : List En := L.take p ++ e :: L.drop p
theorem putL_perm {p : Nat} {e : En} : (putL L p e).Perm (e :: L) := List.perm_middle.trans (by rw [List.take_append_drop])
theorem putL_map {α : Type} {f : En → α} {p : Nat} {e : En} : (putL L p e).map f = (L.map f).take p ++ f e :: (L.map f).drop p := by
  unfold putL; rw [List.map_append, List.map_cons, List.map_take, List.map_drop]
theorem es_put {p : Nat} {e : En} : SetTable.insertAt (esOf L) p (rH e.2.1, .ref e.2.2) = esOf (putL L p e) := (insert_list ..).trans (congrArg List.toArray putL_map.symm)
theorem pl_put {p : Nat} {e : En} : SetTable.insertAt (plOf L).toArray p e.1 = (plOf (putL L p e)).toArray := (insert_list ..).trans (congrArg List.toArray putL_map.symm)
theorem cut_rise {P : List Nat} {j p : Nat} (hp : P.Pairwise (· < ·)) (c : Cut P j p) (hj : j ∉ P) : (P.take p ++ j :: P.drop p).Pairwise (· < ·) := by
  have tk : ∀ a ∈ P.take p, a < j := fun a ha => by
    obtain ⟨i, hi⟩ := List.getElem?_of_mem ha
    rw [List.getElem?_take] at hi
    split at hi
    · rename_i q; exact c.2.1 i a q hi
    · cases hi
  have dr : ∀ a ∈ P.drop p, j < a := fun a ha => by
    obtain ⟨i, hi⟩ := List.getElem?_of_mem ha
    rw [List.getElem?_drop] at hi
    exact Nat.lt_of_le_of_ne (c.2.2 _ a (Nat.le_add_right p i) hi) fun e => hj (e ▸ List.mem_of_getElem? hi)
  exact List.pairwise_append.mpr ⟨hp.take, List.pairwise_cons.mpr ⟨dr, hp.drop⟩, fun a ha b hb => (List.mem_cons.mp hb).elim (fun e => e ▸ tk a ha) fun q => Nat.lt_trans (tk a ha) (dr b q)⟩
theorem put_ok {x : Addr} {K : Nat} (T : Tq prog w h t L) (hk : key ∈ rowsI) (hx : IsTupleKey (intKind prog w) h key x) (at' : Spot t L key K) (hn : ∀ e ∈ L, e.2.1 ≠ key) :
    ∃ p, t.put (pr t.mask (rH key) K).j = ({ t with place := (plOf (putL L p ((pr t.mask (rH key) K).j, key, x))).toArray }, p) ∧ Tq prog w h { t with place := (plOf (putL L p ((pr t.mask (rH key) K).j, key, x))).toArray } (putL L p ((pr t.mask (rH key) K).j, key, x)) := by
  generalize hj : (pr t.mask (rH key) K).j = j
  have c := below_ok T.rise j
  have nj : j ∉ plOf L := hj ▸ at'.f
  have mem : ∀ {p : Nat} (e' : En), e' ∈ putL L p (j, key, x) → e' = (j, key, x) ∨ e' ∈ L := fun e' q => List.mem_cons.mp (putL_perm.mem_iff.mp q)
  have mpl : ∀ {p i : Nat}, i ∈ plOf L → i ∈ plOf (putL L p (j, key, x)) := fun {p i} q => (putL_perm.map (·.1)).mem_iff.mpr (List.mem_cons_of_mem _ q)
  refine ⟨SetTable.below t.place j, ?_, T.mask, rfl, T.dum, T.plain, T.led, ?_, fun i hi => ?_, fun e he => ?_, (putL_perm.map (·.2.1)).nodup_iff.mpr (List.nodup_cons.mpr ⟨fun hm => ?_, T.nd⟩), fun e he => ?_⟩
  · unfold SetTable.put
    rw [T.dum, ← pl_put, ← T.place]
    rfl
  · unfold plOf
    rw [putL_map, T.place]
    exact cut_rise T.rise c nj
  · exact (List.mem_cons.mp ((putL_perm.map (·.1)).mem_iff.mp hi)).elim (fun e => by rw [e, ← hj]; exact pr_le K) (T.le i)
  · exact (mem e he).elim (fun q => q ▸ ⟨hk, hx⟩) (T.tup e)
  · exact (List.mem_map.mp hm).elim fun e q => hn e q.1 q.2
  · rcases mem e he with rfl | he
    · exact ⟨K, hj, fun r q => mpl (at'.u r q)⟩
    · exact (T.reach e he).elim fun r q => ⟨r, q.1, fun r' a => mpl (q.2 r' a)⟩
end
end Mine

namespace Mine
open PySem PySem.W PyProof.Rows PySem.Calls
theorem fm_congr {α β : Type} {f g : α → Option β} : ∀ {l : List α}, (∀ x ∈ l, f x = g x) → l.filterMap f = l.filterMap g
  | [], _ => rfl
  | x :: l, h => by rw [List.filterMap_cons, List.filterMap_cons, h x (List.mem_cons_self ..), fm_congr fun y hy => h y (List.mem_cons_of_mem _ hy)]
theorem fm_map {α β : Type} {f : α → Option β} {g : α → β} : ∀ {l : List α}, (∀ x ∈ l, f x = some (g x)) → l.filterMap f = l.map g
  | [], _ => rfl
  | x :: l, h => by rw [List.filterMap_cons, h x (List.mem_cons_self ..), List.map_cons, fm_map fun y hy => h y (List.mem_cons_of_mem _ hy)]
theorem map_range {α : Type} (d : α) (l : List α) : (List.range l.length).map (fun k => l.getD k d) = l :=
  List.ext_getElem ((List.length_map ..).trans List.length_range) fun i h1 h2 => by
    rw [List.getElem_map, List.getElem_range, List.getD_eq_getElem?_getD, List.getElem?_eq_getElem h2]; rfl
section
variable {prog : Program} {w : World} {t : SetTable} {L : List En} {h : Heap}
noncomputable def tabOf (m fi mo : Nat) (led : Bool) (L : List En) : SetTable := { mask := m, place := (plOf L).toArray, dummies := #[], finger := fi, led := led, moves := mo, plain := true }
theorem relaid_ok {m fi mo : Nat} {led : Bool} (T : Tq prog w h t L) (hm : m ∈ masks) (hr : L.length * 5 < m * 3) (hld : led = !(w.params.followText "set-order")) : ∃ order L3, SetTable.laid m fi mo led true ((esOf L).map (·.1)) = some (tabOf m fi mo led L3, order) ∧
    order.filterMap ((esOf L)[·]?) = esOf L3 ∧ (L3.map (·.2)).Perm (L.map (·.2)) ∧ Tb prog w h (tabOf m fi mo led L3) L3 := by
  have hh : (esOf L).map (·.1) = List.toArray (L.map fun e => rH e.2.1) := by unfold esOf; rw [List.map_toArray, List.map_map]; rfl
  obtain ⟨owner, S, e1, la, o⟩ := layClean_ok (m := m) (hs := L.map fun e => rH e.2.1) (fun x hx => (List.mem_map.mp hx).elim fun e q => q.2 ▸ full_row (T.tup e q.1).1 hm) (by rw [List.length_map]; exact Nat.le_of_mul_le_mul_right (Nat.le_of_lt (Nat.lt_of_lt_of_le hr (Nat.mul_le_mul_left _ (by decide)))) (show 0 < 5 by decide))
  have hlen : S.length = L.length := la.len.trans (List.length_map ..)
  have hlive : (List.range (m + 1)).filterMap (fun j => (owner.getD j none).map (j, ·)) = liveOf m S := fm_congr fun j hj => by
    have hj' : j ≤ m := Nat.le_of_lt_succ (List.mem_range.mp hj)
    rw [← o.2 j hj', Array.getD_eq_getD_getElem?, Array.getD_eq_getD_getElem?, Array.getElem?_eq_getElem (show j < owner.size by rw [o.1]; exact List.mem_range.mp hj)]
    rfl
  have hk : ∀ q ∈ liveOf m S, ∃ e : En, L[q.2]? = some e ∧ L.getD q.2 (0, [], 0) = e ∧ S[q.2]? = some q.1 := fun q hq => by
    have w := (live_mem la.nd la.le).mp hq
    have e := List.getElem?_eq_getElem (hlen ▸ (List.getElem?_eq_some_iff.mp w).1 : q.2 < L.length)
    exact ⟨_, e, by rw [List.getD_eq_getElem?_getD, e]; rfl, w⟩
  have pe : ∀ {α : Type} (g : List Int × Addr → α), (((liveOf m S).map fun q => (q.1, (L.getD q.2 (0, [], 0)).2)).map fun e : En => g e.2).Perm (L.map fun e => g e.2) := fun g => by
    have w := (live_perm la.nd la.le).map fun k => g (L.getD k (0, [], 0)).2
    rw [List.map_map, hlen] at w
    rw [List.map_map]
    refine w.trans (List.Perm.of_eq ?_)
    show (List.range L.length).map ((fun e : En => g e.2) ∘ fun k => L.getD k (0, [], 0)) = _
    rw [← List.map_map, map_range]
  refine ⟨List.toArray ((liveOf m S).map (·.2)), (liveOf m S).map fun q => (q.1, (L.getD q.2 (0, [], 0)).2), ?_, ?_, pe fun x => x, ⟨hm, rfl, rfl, rfl, hld, ?_, fun j hj => ?_, fun e he => ?_, (pe (·.1)).nodup_iff.mpr T.nd, fun e he => ?_⟩, ?_⟩
  · unfold SetTable.laid
    rw [hh, e1]
    show some _ = some _
    rw [hlive]
    unfold tabOf plOf
    rw [List.map_map]
    rfl
  · unfold esOf
    rw [List.filterMap_toArray, List.map_map, List.filterMap_map]
    refine congrArg List.toArray (fm_map fun q hq => ?_)
    obtain ⟨e, h1, h2, _⟩ := hk q hq
    show (List.toArray _)[q.2]? = some (rH (L.getD q.2 (0, [], 0)).2.1, Value.ref (L.getD q.2 (0, [], 0)).2.2)
    rw [h2, List.getElem?_toArray, List.getElem?_map, h1]; rfl
  · unfold plOf
    rw [List.map_map]
    exact List.pairwise_map.mpr live_rise
  · unfold plOf at hj
    rw [List.map_map] at hj
    obtain ⟨q, hq, rfl⟩ := List.mem_map.mp hj
    exact la.le _ (List.mem_of_getElem? ((live_mem la.nd la.le).mp hq))
  · obtain ⟨q, hq, rfl⟩ := List.mem_map.mp he
    obtain ⟨e, h1, h2, _⟩ := hk q hq
    exact (show (L.getD q.2 (0, [], 0)).2 = e.2 from congrArg (·.2) h2) ▸ T.tup e (List.mem_of_getElem? h1)
  · obtain ⟨q, hq, rfl⟩ := List.mem_map.mp he
    obtain ⟨e, h1, h2, h3⟩ := hk q hq
    obtain ⟨r, r1, r2⟩ := la.reach q.2 (rH e.2.1) q.1 (by rw [List.getElem?_map, h1]; rfl) h3
    show ∃ r, (pr m (rH (L.getD q.2 (0, [], 0)).2.1) r).j = q.1 ∧ _
    rw [h2]
    refine ⟨r, r1, fun r' hr' => ?_⟩
    obtain ⟨k2, hk2⟩ := List.getElem?_of_mem (r2 r' hr')
    unfold plOf
    rw [List.map_map]
    exact List.mem_map.mpr ⟨((pr m (rH e.2.1) r').j, k2), (live_mem la.nd la.le).mpr hk2, rfl⟩
  · have w := (pe fun x => x).length_eq
    rw [List.length_map, List.length_map] at w
    rw [List.length_map, w, List.length_map]; exact hr
end
end Mine

namespace Mine
open PySem PySem.W PyProof.Rows PySem.Calls
section
variable {prog : Program} {w : World} {t : SetTable} {L : List En} {key : List Int} {A : Around} {E : PV → Shared → Prop} {s : Shared}
noncomputable def SetAt (prog : Program) (w : World) (h : Heap) (a : Addr) (L : List En) : Prop := ∃ o ep t, h.get? a = some o ∧ o.ExactSet ∧ o.data = .set (esOf L) ep t ∧ Tb prog w h t L
theorem Tq.len {h : Heap} (T : Tq prog w h t L) : L.length ≤ 30 := by
  have q := List.Nodup.length_le_of_subset T.nd (l₂ := rowsI) fun k hk => (List.mem_map.mp hk).elim fun e q => q.2 ▸ (T.tup e q.1).1
  rw [List.length_map] at q
  exact q
theorem tup_but {h h' : Heap} {a x : Addr} (hx : IsTupleKey (intKind prog w) h key x) (k : ∀ b o, b ≠ a → h.get? b = some o → h'.get? b = some o) (na : x ≠ a) : IsTupleKey (intKind prog w) h' key x :=
  hx.elim fun o q => q.elim fun items q => q.elim fun n q => ⟨o, items, n, k _ _ na q.1, q.2⟩
theorem tup_ne {h : Heap} {a x : Addr} {o : Obj} (hx : IsTupleKey (intKind prog w) h key x) (ho : h.get? a = some o) (he : o.ExactSet) : x ≠ a := fun e => by
  subst e
  obtain ⟨o', items, n, ho', hc, _⟩ := hx
  cases ho.symm.trans ho'
  exact absurd (Value.type.inj (he.1.symm.trans hc)) (by decide)
theorem setput_ok {a : Addr} {o : Obj} {es : Array (Int × PV)} {ep : Nat} {t' t2 : SetTable} {Q : Unit → Shared → Prop} (ho : s.heap.get? a = some o) (hx : o.ExactSet) (hd : o.data = .set es ep t') (T : Tq prog w s.heap t2 L)
    (q : ∀ h', Heap.SameBut a s.heap h' → h'.get? a = some { o with data := .set (esOf L) (ep + 1) t2 } → Tq prog w h' t2 L → Q () { s with heap := h' }) : wpAny (model prog w) A (storeSet a (esOf L) t2) Q E s := by
  have sb := Heap.SameBut.update s.heap a (Obj.putSet (esOf L) t2)
  refine wpAny_storeSet_of ho hd (q _ sb ?_ { T with tup := fun e he => ⟨(T.tup e he).1, tup_but (T.tup e he).2 (fun b o n e => sb.extBut b o n e) (tup_ne (T.tup e he).2 ho hx)⟩ }) (by rw [es_size, sizeLine_eq]; exact Nat.le_trans T.len (by decide))
  have e := Heap.get?_update_self (Obj.putSet (esOf L) t2) ho (by rw [putSet_of _ _ hd]; rfl)
  rw [putSet_of _ _ hd] at e
  exact e
theorem Tq.fill {h : Heap} (T : Tq prog w h t L) : t.fill = L.length := by
  unfold SetTable.fill; rw [T.dum, T.place, List.size_toArray, pl_len]; rfl
theorem Tq.full {h : Heap} (T : Tq prog w h t L) : t.tooFull = decide (L.length * 5 ≥ t.mask * 3) := by
  unfold SetTable.tooFull; rw [T.fill]
theorem grow_ok {n m : Nat} (hm : m ∈ masks) (h1 : m * 3 ≤ n * 5) (h2 : (n - 1) * 5 < m * 3) (h30 : n ≤ 30) : n ≤ m ∧ ∃ m', SetTable.sizeAbove (SetTable.grown n) = m' + 1 ∧ m' ∈ masks ∧ n * 5 < m' * 3 ∧ m' + 1 ≤ 128 := by
  have w : (masks.all fun m => (List.range 31).all fun n => !decide (m * 3 ≤ n * 5) || !decide ((n - 1) * 5 < m * 3) || (decide (n ≤ m) && [31, 127].any fun m' => SetTable.sizeAbove (SetTable.grown n) == m' + 1 && decide (n * 5 < m' * 3))) = true := by decide +kernel
  have w := List.all_eq_true.mp (List.all_eq_true.mp w m hm) n (List.mem_range.mpr (Nat.lt_succ_of_le h30))
  rw [decide_eq_true h1, decide_eq_true h2] at w
  have w := Bool.and_eq_true_iff.mp w
  obtain ⟨m', hm', q⟩ := List.any_eq_true.mp w.2
  have q := Bool.and_eq_true_iff.mp q
  exact ⟨of_decide_eq_true w.1, m', eq_of_beq q.1, List.mem_cons_of_mem _ hm', of_decide_eq_true q.2, (List.mem_cons.mp hm').elim (fun e => by rw [e]; decide) fun e => by rw [List.mem_singleton.mp e]; decide⟩
theorem relay_ok {a : Addr} {o : Obj} {ep : Nat} {Q : Unit → Shared → Prop} (ho : s.heap.get? a = some o) (hx : o.ExactSet) (hd : o.data = .set (esOf L) ep t) (T : Tq prog w s.heap t L) (full : t.mask * 3 ≤ L.length * 5) (prev : (L.length - 1) * 5 < t.mask * 3)
    (q : ∀ h' L3, Heap.SameBut a s.heap h' → SetAt prog w h' a L3 → (L3.map (·.2)).Perm (L.map (·.2)) → Q () { s with heap := h' }) : wpAny (model prog w) A (setRelay a (SetTable.grown L.length)) Q E s := by
  obtain ⟨hlm, m', hw, hm', hr', h128⟩ := grow_ok T.mask full prev T.len
  have hfits : t.fits (esOf L).size = true := by
    unfold SetTable.fits
    rw [T.fill, T.place, es_size, List.size_toArray, pl_len]
    simp
    exact hlm
  unfold setRelay
  refine wpAny_bind (wpAny_setState_of ho hd hfits ?_)
  dsimp only
  rw [if_neg (by rw [hw, sizeLine_eq]; exact Nat.not_lt.mpr (Nat.le_trans h128 (by decide)))]
  have hw1 : SetTable.sizeAbove (SetTable.grown L.length) - 1 = m' := by rw [hw]; rfl
  obtain ⟨order, L3, r1, r2, r3, r4⟩ := relaid_ok (fi := t.finger) (mo := t.movedTo m') (led := t.led) T hm' hr' T.led
  have hrel : t.relaid ((esOf L).map (·.1)) (SetTable.grown L.length) = some (tabOf m' t.finger (t.movedTo m') t.led L3, order) := by
    unfold SetTable.relaid
    rw [hw1, T.plain]
    exact r1
  rw [hrel]
  have h3 : L3.length = L.length := by have := r3.length_eq; rw [List.length_map, List.length_map] at this; exact this
  show wpAny (model prog w) A ((do
    let es' := order.filterMap ((esOf L)[·]?)
    if es'.size != (esOf L).size then unsupported "internal:set-table-lost-an-element"
    pure (es', tabOf m' t.finger (t.movedTo m') t.led L3) : Sem (Array (Int × PV) × SetTable)) >>= fun x => storeSet a x.1 x.2) Q E s
  dsimp only
  rw [r2, es_size, es_size, h3, show (L.length != L.length) = false from bne_self_eq_false ..]
  exact wpAny_bind (wpAny_pure (setput_ok (L := L3) ho hx hd r4.q fun h' sb hg T' => q h' L3 sb ⟨_, _, _, hg, hx, rfl, T', r4.room⟩ r3))
end
end Mine

namespace Mine
open PySem PySem.W PyProof.Rows PySem.Calls
section
variable {prog : Program} {w : World} {t : SetTable} {L : List En} {key : List Int} {A : Around} {E : PV → Shared → Prop} {s : Shared}
theorem are_ints {ks : List Int} {vs : List PV} (h : ItemsAre (intKind prog w) ks vs) : ∀ v ∈ vs, ∃ k t, v = .int k t := by
  induction h with
  | nil => exact fun _ h => nomatch h
  | cons h1 _ ih =>
    obtain ⟨t, rfl⟩ := Value.isInt_shape h1
    exact fun v hv => (List.mem_cons.mp hv).elim (fun e => ⟨_, t, e⟩) (ih v)
theorem hbv_tuple {a : Addr} {Q : Bool → Shared → Prop} (hk : IsTupleKey (intKind prog w) s.heap key a) (q : Q true s) : wpAny (model prog w) A (hashByValue 8 (.ref a)) Q E s := by
  have hT := hk.typeIs
  obtain ⟨o, items, n, ho, _, hd, hi⟩ := hk
  unfold hashByValue
  refine wpAny_bind (wpAny_specialOf hT F.slot_tuple_hash.lookup ?_)
  dsimp only
  refine wpAny_bind (wpAny_seqItems ho hd (wpAny_bind ?_))
  rw [← Array.forIn_toList]
  refine pass_all (are_ints hi) (fun v hc Q' q' => ?_) (wpAny_pure q)
  obtain ⟨k, t, rfl⟩ := hc
  rw [show hashByValue 7 (.int k t) = pure true from rfl]
  exact wpAny_bind (wpAny_pure (wpAny_pure q'))
theorem add_ok {a x : Addr} {Q : Bool → Shared → Prop} (hu : A.units < cLine) (S : SetAt prog w s.heap a L) (hk : key ∈ rowsI) (hx : IsTupleKey (intKind prog w) s.heap key x)
    (yes : (∃ e ∈ L, e.2.1 = key) → Q false s) (no : (∀ e ∈ L, e.2.1 ≠ key) → ∀ h' L', Heap.SameBut a s.heap h' → SetAt prog w h' a L' → (L'.map (·.2)).Perm ((key, x) :: L.map (·.2)) → Q true { s with heap := h' }) :
    wpAny (model prog w) A (setAddHashed a (.ref x) (rH key)) Q E s := by
  obtain ⟨o, ep, t, ho, hex, hd, T⟩ := S
  obtain ⟨K, at'⟩ := T.spot hk
  unfold setAddHashed setAddHashedIn
  refine wpAny_holding (wpAny_bind (wpAny_setState_of ho hd (fits T) ?_))
  dsimp only
  rw [show byScan (.ref x) (esOf L) = false from rfl]
  unfold setSearch
  refine wpAny_bind (search_ok hu ho hd T hk hx at' (fun h => wpAny_pure (yes h)) fun hn => ?_)
  refine wpAny_bind (wpAny_setState_of ho hd (fits T) ?_)
  obtain ⟨p, ep2, Q2⟩ := put_ok T.q hk hx at' hn
  dsimp only
  rw [ep2]
  dsimp only
  rw [if_pos T.q.plain]
  refine wpAny_bind (hbv_tuple hx ?_)
  have hes := es_put (L := L) (p := p) (e := ((pr t.mask (rH key) K).j, key, x))
  dsimp only at hes ⊢
  rw [hes]
  have perm := putL_perm (L := L) (p := p) (e := ((pr t.mask (rH key) K).j, key, x))
  generalize putL L p ((pr t.mask (rH key) K).j, key, x) = L2 at *
  have hlen : L2.length = L.length + 1 := perm.length_eq
  refine wpAny_bind (setput_ok (t2 := { t with place := (plOf L2).toArray }) ho hex hd Q2 fun h' sb hg T' => ?_)
  have hf := T'.full
  rw [if_pos (show true = true from rfl)]
  have hp := perm.map (·.2)
  by_cases hc : L2.length * 5 ≥ t.mask * 3
  · rw [decide_eq_true hc] at hf
    rw [hf, es_size, ← hlen]
    exact wpAny_bind (relay_ok (s := { s with heap := h' }) hg hex rfl T' hc (by rw [hlen]; exact T.room) fun h2 L3 sb2 S3 p3 => wpAny_pure (no hn h2 L3 (sb.trans sb2) S3 (p3.trans hp)))
  · rw [decide_eq_false hc] at hf
    rw [hf]
    exact wpAny_pure (no hn h' L2 sb ⟨_, _, _, hg, hex, rfl, T', Nat.not_le.mp hc⟩ hp)
end
end Mine

namespace Mine
open PySem PySem.W PyProof.Rows PySem.Calls
theorem erase_perm {α : Type} : ∀ {l : List α} {i : Nat} (h : i < l.length), (l[i] :: l.eraseIdx i).Perm l
  | x :: l, 0, _ => .refl _
  | x :: l, i + 1, h => (List.Perm.swap ..).trans ((erase_perm (Nat.lt_of_succ_lt_succ h)).cons x)
theorem pick_go {α : Type} {next : Nat → Nat} : ∀ (f k : Nat) (left : List α) (out : Array α), left.length = f → (pickOrder.go next f k left out).toList.Perm (out.toList ++ left)
  | 0, k, left, out, h => by
    cases List.length_eq_zero_iff.mp h
    unfold pickOrder.go
    rw [List.append_nil]
  | f + 1, k, left, out, h => by
    unfold pickOrder.go
    have hlt : next k % left.length < left.length := Nat.mod_lt _ (h ▸ Nat.succ_pos f)
    rw [List.getElem?_eq_getElem hlt]
    refine (pick_go f (k + 1) _ _ (by rw [List.length_eraseIdx_of_lt hlt, h]; rfl)).trans ?_
    rw [Array.toList_push, List.append_assoc]
    exact List.Perm.append_left _ (erase_perm hlt)
section
variable {prog : Program} {w : World} {t : SetTable} {L : List En} {A : Around} {E : PV → Shared → Prop} {s : Shared} {h₀ : Heap}
noncomputable def ordOf (w : World) (S ep : Nat) (L : List En) : Array (Int × PV) := if w.params.followText "set-order" = true then pickOrder (w.params.setOrder S ep) (esOf L) else esOf L
theorem ord_perm {S ep : Nat} : (ordOf w S ep L).toList.Perm (esOf L).toList := by
  unfold ordOf
  split
  · exact pick_go _ _ _ _ (Array.length_toList ..)
  · exact .refl _
theorem ord_size {S ep : Nat} : (ordOf w S ep L).size = L.length := (ord_perm (w := w) (L := L) (S := S) (ep := ep)).length_eq.trans es_size
noncomputable def slotAt (L : List En) : Nat → Nat
  | 0 => 0
  | k + 1 => (L.getD k (0, [], 0)).1 + 1
theorem fitsH (T : Tb prog w h₀ t L) (s : Shared) : t.fits (esOf L).size = true := fits (s := { s with heap := h₀ }) T
theorem walk_at (T : Tb prog w h₀ t L) {k : Nat} (hk : k ≤ L.length) : SetTable.below t.place (slotAt L k) = k := by
  rw [T.q.place]
  have r := T.q.rise
  have pk : ∀ {k : Nat}, k < L.length → (plOf L)[k]? = some (L.getD k (0, [], 0)).1 := fun h => by rw [getD_at h]; exact pl_at (List.getElem?_eq_getElem h)
  have lt : ∀ i v, i < k → (plOf L)[i]? = some v → v < slotAt L k := fun i v hi e => by
    cases k with
    | zero => exact absurd hi (Nat.not_lt_zero _)
    | succ k => exact Nat.lt_succ_of_le ((Nat.lt_or_eq_of_le (Nat.le_of_lt_succ hi)).elim (fun q => Nat.le_of_lt (up_get r q e (pk hk))) fun q => by subst q; cases e.symm.trans (pk hk); exact Nat.le_refl _)
  refine (below_ok r _).uniq (by rw [pl_len]; exact hk) (lt _) fun v hr e => ?_
  cases k with
  | zero => exact Nat.zero_le _
  | succ k => exact up_get r (Nat.lt_succ_self k) (pk hk) e
theorem next_ok {S slot k ep : Nat} {o : Obj} {Q : Option (PV × Nat) → Shared → Prop} (ho : s.heap.get? S = some o) (hd : o.data = .set (esOf L) ep t) (T : Tb prog w h₀ t L) (hk : k ≤ L.length) (hsl : w.params.followText "set-order" = false → slot = slotAt L k)
    (q0 : k = L.length → Q none s) (q1 : ∀ x n, (ordOf w S ep L)[k]? = some x → (w.params.followText "set-order" = false → n = slotAt L (k + 1)) → Q (some (x.2, n)) s) : wpAny (model prog w) A (setNext S slot k ep) Q E s := by
  unfold setNext
  refine wpAny_bind (wpAny_setState_of ho hd (fitsH T s) ?_)
  dsimp only
  unfold setsByText
  refine wpAny_bind (wpAny_bind (wpAny_askSetting (wpAny_pure ?_)))
  have fin : ∀ {n : Nat} (r : Option (PV × Nat)), r = ((ordOf w S ep L)[k]?).map (fun e => (e.2, n)) → (k < L.length → w.params.followText "set-order" = false → n = slotAt L (k + 1)) → Q r s := fun {n} r hr hn => by
    rcases Nat.lt_or_eq_of_le hk with hl | he
    · have e : (ordOf w S ep L)[k]? = some _ := Array.getElem?_eq_getElem (by rw [ord_size]; exact hl)
      rw [hr, e]
      exact q1 _ _ e (hn hl)
    · rw [hr, Array.getElem?_eq_none (Nat.le_of_eq (ord_size.trans he.symm))]
      exact q0 he
  cases hb : w.params.followText "set-order" with
  | true =>
    rw [show (model prog w).w.params.followText "set-order" = true from hb, if_pos rfl, if_neg (by rw [bne_self_eq_false]; exact Bool.false_ne_true)]
    unfold setWalk
    refine wpAny_bind (wpAny_bind (wpAny_setState_of ho hd (fitsH T s) ?_))
    dsimp only
    unfold setsByText
    refine wpAny_bind (wpAny_bind (wpAny_askSetting (wpAny_pure ?_)))
    rw [show (model prog w).w.params.followText "set-order" = true from hb, if_pos rfl]
    refine wpAny_bind (wpAny_askSetting (wpAny_pure ?_))
    exact wpAny_pure (fin _ (by unfold ordOf; rw [if_pos hb]; rfl) fun _ h => absurd (hb.symm.trans h) Bool.noConfusion)
  | false =>
    rw [show (model prog w).w.params.followText "set-order" = false from hb, if_neg Bool.false_ne_true]
    show wpAny (model prog w) A (if (!t.plain && decide ((esOf L).size > 1)) = true then _ else ((if (!t.led && !(esOf L).isEmpty) = true then unsupported "set:maker-not-led" else pure ()) >>= fun _ => _)) _ _ s
    rw [T.q.plain, T.q.led, hb, hsl hb]
    refine wpAny_bind (wpAny_pure (wpAny_pure ?_))
    rw [walk_at T hk]
    refine fin (n := (L.getD k (0, [], 0)).1 + 1) _ ?_ fun _ _ => rfl
    unfold ordOf
    rw [if_neg (by rw [hb]; exact Bool.false_ne_true), T.q.place, List.getElem?_toArray (xs := plOf L)]
    rcases Nat.lt_or_eq_of_le hk with hl | he
    · rw [es_at (List.getElem?_eq_getElem hl), pl_at (List.getElem?_eq_getElem hl), getD_at hl]; rfl
    · rw [Array.getElem?_eq_none (Nat.le_of_eq (es_size.trans he.symm))]; rfl
end
end Mine

namespace Mine
open PySem PySem.W PyProof.Rows PySem.Calls
theorem slot_si_next : Slot "set_iterator" "__next__" "set_iterator.__next__" :=
  .of (owner := "set_iterator") (n := "__next__") (by rw [typeLookup_type, builtinLookup_eq_fast]; kernel_rfl) (by decide +kernel) (by decide +kernel) (by decide +kernel)
    (by first | exact .inl (by decide +kernel) | exact .inr (by decide +kernel)) (by rw [isSubtype_type]; kernel_rfl)
theorem entry_si_next : entryFor table "set_iterator.__next__" = some Builtin.«set_iterator.__next__» := entryFor_of_tree (by kernel_rfl)
theorem args_si_next (a : PV) : argsOk "set_iterator.__next__" ⟨[a], []⟩ := by unfold argsOk; kernel_rfl
theorem entry_s_iter : entryFor table "set.__iter__" = some Builtin.«frozenset.__iter__» :=
  entryFor_alias (id' := "frozenset.__iter__") (by kernel_rfl) rfl (by decide +kernel) (by kernel_rfl)
theorem slot_si_iter : Slot "set_iterator" "__iter__" "set_iterator.__iter__" :=
  .of (owner := "set_iterator") (n := "__iter__") (by rw [typeLookup_type, builtinLookup_eq_fast]; kernel_rfl) (by decide +kernel) (by decide +kernel) (by decide +kernel)
    (by first | exact .inl (by decide +kernel) | exact .inr (by decide +kernel)) (by rw [isSubtype_type]; kernel_rfl)
theorem args_si_iter (a : PV) : argsOk "set_iterator.__iter__" ⟨[a], []⟩ := by unfold argsOk; kernel_rfl
theorem entry_si_iter : entryFor table "set_iterator.__iter__" = some Builtin.«dict_keyiterator.__iter__» :=
  entryFor_alias (id' := "dict_keyiterator.__iter__") (by kernel_rfl) (by first | rfl | decide +kernel | (unfold String.splitOn; simp +decide [String.splitOnAux])) (by decide +kernel) (by kernel_rfl)
section
variable {prog : Program} {w : World} {t : SetTable} {L : List En} {A : Around} {E : PV → Shared → Prop} {s : Shared} {h₀ : Heap}
noncomputable def SetIt (h : Heap) (I S slot k n ep : Nat) : Prop := h.get? I = some { cls := .type "set_iterator", dict := none, data := .fields #[rawInt slot, rawInt k, .ref S, rawInt n, rawInt ep], slots := #[] }
theorem set_step {I S : Addr} {o : Obj} {ep slot k : Nat} {Q : Option PV → Shared → Prop} (hh : A.handled = none) (ho : s.heap.get? S = some o) (hd : o.data = .set (esOf L) ep t) (T : Tb prog w h₀ t L) (it : SetIt s.heap I S slot k L.length ep) (hk : k ≤ L.length)
    (hsl : w.params.followText "set-order" = false → slot = slotAt L k) (q0 : k = L.length → ∀ h', Heap.ExtBut I s.heap h' → Q none { s with heap := h' })
    (q1 : ∀ h' slot' x, Heap.SameBut I s.heap h' → SetIt h' I S slot' (k + 1) L.length ep → (w.params.followText "set-order" = false → slot' = slotAt L (k + 1)) → (ordOf w S ep L)[k]? = some x → Q (some x.2) { s with heap := h' }) : wpAny (model prog w) A (pyNext (.ref I)) Q E s := by
  have hT : s.TypeIs (.ref I) "set_iterator" := ⟨_, it, rfl⟩
  unfold pyNext
  refine wpAny_bind (wpAny_attempt (wpAny_callSpecial?_slot (name := Str.ofString "__next__") hT slot_si_next
    (wpAny_call_entry slot_si_next hT entry_si_next ?_ (args_si_next _))))
  unfold Builtin.«set_iterator.__next__»
  refine wpAny_bind (m := slotArgs "__next__" 0 _) (wpAny_pure ?_)
  refine wpAny_bind ?_
  unfold fieldsOf
  refine wpAny_bind (wpAny_load it (wpAny_pure ?_))
  show wpAny _ _ (setEntries S >>= _) _ _ _
  refine wpAny_bind (wpAny_setEntries_of ho hd (fitsH T s) ?_)
  rw [if_neg (by rw [es_size, bne_self_eq_false]; exact Bool.false_ne_true)]
  show wpAny _ _ (setNext S (Int.toNat slot) (Int.toNat k) (Int.toNat ep) >>= _) _ _ _
  rw [Int.toNat_natCast, Int.toNat_natCast, Int.toNat_natCast]
  refine wpAny_bind (next_ok ho hd T hk hsl (fun hk => ?_) fun x n h1 h2 => ?_)
  · refine wpAny_bind (wpAny_setField_rec it (Nat.lt_of_lt_of_le (by decide) (Nat.le_refl 5)) fun h1' g1 sb1 => ?_)
    refine wpAny_bind ?_
    simp only [newExc, newTuple]
    refine wpAny_bind (wpAny_newObj_type ?_ (by size_fits))
    refine wpAny_bind (m := firstArgMember _ _) (wpAny_of_eq (a := Value.none) (by first | rfl | (simp only [firstArgMember]; rfl)) ?_)
    refine wpAny_newObj_type ?_ (by size_fits)
    simp only [raiseNew]
    refine wpAny_bind (wpAny_handled ?_)
    rw [show A.in1.handled = none from hh]
    refine wpAny_bind (wpAny_pure (wpAny_throw ?_))
    refine wpAny_bind (wpAny_isInstance (T := "StopIteration") (b := true) ⟨_, Heap.get?_push_size _ rfl, rfl⟩ isSubtype_stop ?_)
    exact wpAny_pure (q0 hk _ ((sb1.extBut.push _).push _))
  · refine wpAny_bind (wpAny_setField_rec it (Nat.lt_of_lt_of_le (by decide) (Nat.le_refl 5)) fun h1' g1 sb1 => ?_)
    refine wpAny_bind (wpAny_setField_rec (s := { s with heap := h1' }) g1 (by simp) fun h2' g2 sb2 => ?_)
    exact wpAny_pure ⟨_, rfl, wpAny_pure (q1 h2' n x (sb1.trans sb2) g2 h2 h1)⟩
theorem set_walks {I S : Addr} {o : Obj} {ep : Nat} (hh : A.handled = none) (hne : S ≠ I) (hd : o.data = .set (esOf L) ep t) (T : Tb prog w h₀ t L) :
    Walks prog w A I [I, S] [I] L.length (fun i v => ∃ x, (ordOf w S ep L)[i]? = some x ∧ v = x.2) (fun i h => ∃ slot, SetIt h I S slot i L.length ep ∧ (w.params.followText "set-order" = false → slot = slotAt L i) ∧ h.get? S = some o) where
  sub := fun b hb => List.mem_singleton.mp hb ▸ List.mem_cons_self
  frame := fun i h h' ⟨slot, it, h1, h2⟩ hk => ⟨slot, hk I (List.mem_cons_self ..) _ it, h1, hk S (List.mem_cons_of_mem _ (List.mem_cons_self ..)) _ h2⟩
  item := fun i s Q E hi ⟨slot, it, h1, h2⟩ hQ => set_step hh h2 hd T it (Nat.le_of_lt hi) h1 (fun e => absurd hi (Nat.not_lt.mpr (Nat.le_of_eq e.symm))) fun h' slot' x sb it' h3 h4 => hQ x.2 h' s.toks ⟨x, h4, rfl⟩ ⟨slot', it', h3, sb.extBut S o hne h2⟩ fun b o hb e => sb.extBut b o (fun q => hb (List.mem_singleton.mpr q)) e
  done := fun s Q E ⟨slot, it, h1, h2⟩ hQ => set_step hh h2 hd T it (Nat.le_refl _) h1 (fun _ h' eb => hQ h' s.toks fun b o hb e => eb b o (fun q => hb (List.mem_singleton.mpr q)) e) fun h' slot' x _ _ _ h4 => absurd (Array.getElem?_eq_some_iff.mp h4).1 (Nat.not_lt.mpr (Nat.le_of_eq ord_size))
  self := fun i s Q E ⟨slot, it, _, _⟩ hQ => by
    have hT : s.TypeIs (.ref I) "set_iterator" := ⟨_, it, rfl⟩
    refine wpAny_pyIter_slot hT slot_si_iter (wpAny_call_entry slot_si_iter hT entry_si_iter ?_ (args_si_iter _))
    show wpAny _ _ (ret (.ref I)) _ _ s
    exact wpAny_pure ⟨_, rfl, "set_iterator", _, hT, slot_si_next.lookup, hQ⟩
end
end Mine

namespace Mine
open PySem PySem.W PyProof.Rows PySem.Calls
section
variable {prog : Program} {w : World} {t : SetTable} {L : List En} {A : Around} {E : PV → Shared → Prop} {s : Shared} {h₀ : Heap}
noncomputable def siO (S n ep : Nat) : Obj := { cls := .type "set_iterator", data := .fields #[rawInt (0 : Nat), rawInt (0 : Nat), .ref S, rawInt n, rawInt ep] }
theorem set_iter {S : Addr} {o : Obj} {ep : Nat} {Q : PV → Shared → Prop} (ho : s.heap.get? S = some o) (hex : o.ExactSet) (hd : o.data = .set (esOf L) ep t) (T : Tb prog w h₀ t L)
    (q : SetIt (s.heap.push (siO S L.length ep)) s.heap.objs.size S 0 0 L.length ep → Q (.ref s.heap.objs.size) { s with heap := s.heap.push (siO S L.length ep) }) :
    wpAny (model prog w) A (pyIter (.ref S)) Q E s := by
  have hT : s.TypeIs (.ref S) "set" := ⟨o, ho, hex.1⟩
  have g : SetIt (s.heap.push (siO S L.length ep)) s.heap.objs.size S 0 0 L.length ep := Heap.get?_push_size _ rfl
  refine wpAny_pyIter_slot hT F.slot_set_iter (wpAny_call_entry F.slot_set_iter hT entry_s_iter ?_ (F.args_set_iter_1 _))
  unfold Builtin.«frozenset.__iter__» Builtin.Frozenset.slot0 slotArgs
  simp only [List.isEmpty_nil, Bool.not_true, Bool.false_eq_true, ↓reduceIte, bind_assoc, List.length_nil, bne_self_eq_false]
  unfold Builtin.Frozenset.addrOf Builtin.Frozenset.sizeOf
  refine wpAny_bind (wpAny_pure ?_)
  dsimp only
  refine wpAny_bind (wpAny_pure ?_)
  refine wpAny_bind (wpAny_bind (wpAny_setEntries_of ho hd (fitsH T s) (wpAny_pure ?_)))
  unfold setDrawn setsByText
  refine wpAny_bind (wpAny_bind (wpAny_setState_of ho hd (fitsH T s) ?_))
  dsimp only
  refine wpAny_bind (wpAny_bind (wpAny_askSetting (wpAny_pure ?_)))
  refine wpAny_pure ?_
  have nf : ∀ b : Bool, ¬ (b && (!t.plain && decide ((esOf L).size > 1))) = true := fun b => by rw [T.q.plain]; cases b <;> exact Bool.false_ne_true
  rw [if_neg (by exact nf _)]
  refine wpAny_bind (wpAny_pure ?_)
  refine wpAny_bind (wpAny_setEpoch_of ho hd (fitsH T s) ?_)
  refine wpAny_bind (wpAny_newObj_type ?_)
  rw [es_size]
  exact wpAny_pure ⟨_, rfl, "set_iterator", _, ⟨_, g, rfl⟩, slot_si_next.lookup, q g⟩
theorem items_ord {S ep : Nat} {acc : Array PV} (h : ItemsOf (fun i v => ∃ x, (ordOf w S ep L)[i]? = some x ∧ v = x.2) acc L.length) : acc.toList.Perm (L.map fun e => Value.ref e.2.2) := by
  have e : acc.toList = (ordOf w S ep L).toList.map (·.2) := List.ext_getElem ((h.1.trans ord_size.symm).trans (List.length_map ..).symm) fun i h1 h2 => by
    obtain ⟨x, hx, hv⟩ := h.2 i acc[i] (Array.getElem?_eq_getElem h1)
    rw [List.getElem_map]
    exact hv.trans (congrArg (·.2) (Array.getElem?_eq_some_iff.mp hx).2.symm)
  rw [e]
  refine (ord_perm.map (·.2)).trans (List.Perm.of_eq ?_)
  unfold esOf
  exact List.map_map
theorem touch_ok {a : Addr} {n : Nat} {Q : Unit → Shared → Prop} (ho : s.heap.get? a = some (seqObj "list" #[] n)) (q : ∀ h' n', Heap.SameBut a s.heap h' → h'.get? a = some (seqObj "list" #[] n') → Q () { s with heap := h' }) : wpAny (model prog w) A (Builtin.List.listTouch (.ref a)) Q E s := by
  unfold Builtin.List.listTouch
  have g1 := get?_update_seq ho (fun x => x.push Value.none)
  refine wpAny_bind (listUpdate_at ho rfl ?_ (Nat.zero_le _) (by simp))
  refine listUpdate_at (s := { s with heap := s.heap.update a (Obj.mapSeq fun x => x.push Value.none) }) g1 rfl ?_ (by rw [sizeLine_eq]; simp) (by simp)
  exact q _ _ ((Heap.SameBut.update ..).trans (Heap.SameBut.update ..)) (get?_update_seq g1 (fun x => x.pop))
theorem collect_set {S : Addr} {o : Obj} {ep : Nat} {Q : List PV → Shared → Prop} (hh : A.handled = none) (ho : s.heap.get? S = some o) (hex : o.ExactSet) (hd : o.data = .set (esOf L) ep t) (T : Tb prog w h₀ t L)
    (q : ∀ h' tk (acc : List PV), (∀ b o, s.heap.get? b = some o → h'.get? b = some o) → acc.Perm (L.map fun e => Value.ref e.2.2) → Q acc { s with heap := h', toks := tk }) : wpAny (model prog w) A (collect (.ref S)) Q E s := by
  have hlt : S < s.heap.objs.size := Heap.lt_size ho
  unfold collect
  refine wpAny_bind (wpAny_runValue (codeAny_builtin F.entry_proto_collect ?_))
  rw [Around.under_plainId F.plain_proto_collect _]
  show wpAny _ A.in1 (newList [] >>= fun l => again (.builtin "list.__iadd__" ⟨[l, .ref S], []⟩)) _ _ s
  refine wpAny_bind (wpAny_newObj_type ?_)
  refine wpAny_pure ⟨plainId_quiet F.plain_list_iadd _, codeAny_builtin F.entry_list_iadd ?_⟩
  rw [Around.under_plainId F.plain_list_iadd _]
  have hS₁ : (s.heap.push (seqObj "list" #[] 0)).get? s.heap.objs.size = some (seqObj "list" #[] 0) := Heap.get?_push_size _ rfl
  have ho1 : (s.heap.push (seqObj "list" #[] 0)).get? S = some o := Heap.get?_push_of_some _ ho
  show wpAny _ A.in1 (Builtin.List.listExtendWith (.ref s.heap.objs.size) (.ref S) (.ref s.heap.objs.size)) _ _ { s with heap := s.heap.push (seqObj "list" #[] 0) }
  unfold Builtin.List.listExtendWith
  refine wpAny_bind (wpAny_typeOf (T := "set") ⟨_, ho1, hex.1⟩ ?_)
  rw [if_neg (by rw [show Builtin.List.listSameRef (.ref s.heap.objs.size) (.ref S) = false by simp [Builtin.List.listSameRef]; exact Nat.ne_of_gt hlt]; decide)]
  refine wpAny_bind (set_iter ho1 hex hd T fun it => ?_)
  generalize hI : ({ s with heap := s.heap.push (seqObj "list" #[] 0) } : Shared).heap.objs.size = I at it ⊢
  have hI : I = s.heap.objs.size + 1 := hI.symm.trans (Heap.size_push ..)
  have ho2 : ((s.heap.push (seqObj "list" #[] 0)).push (siO S L.length ep)).get? S = some o := Heap.get?_push_of_some _ ho1
  refine wpAny_bind (wpAny_holding ?_)
  unfold Builtin.List.listLengthHint
  refine wpAny_bind (wpAny_specialOf (T := "set") ⟨_, ho2, hex.1⟩ F.slot_set_len.lookup ?_)
  (generalize hid : ("set.__len__" : String) = id0; (fail_if_success (clear hid id0)); wp_delta; rw [show splitId id0 = some ("set", "__len__") from by subst hid; decide +kernel]; subst hid)
  refine wpAny_bind (wpAny_isInstance (T := "set") (b := true) ⟨_, ho2, hex.1⟩ (by rw [isSubtype_type]; kernel_rfl) ?_)
  show wpAny _ A.in1 (typeOf (.ref S) >>= _) _ _ _
  refine wpAny_bind (wpAny_typeOf (T := "set") ⟨_, ho2, hex.1⟩ ?_)
  refine wpAny_pure ?_
  rw [if_pos (by decide)]
  refine wpAny_bind (wpAny_rule ?_)
  have nS : S ≠ I := hI ▸ Nat.ne_of_lt (Nat.lt_succ_of_lt hlt)
  refine wpAny_bind (touch_ok (n := 0) (Heap.get?_push_of_some _ hS₁) fun h2 n2 sb2 hS₂ => ?_)
  have W := (set_walks (A := A.in1) (I := I) hh nS hd T).toS
  have out : ∀ {b : Nat}, b ≠ I → b ≠ S → b ∉ [I, S] := fun h1 h2 hm => (List.mem_cons.mp hm).elim h1 fun h => h2 (List.mem_singleton.mp h)
  refine wpAny_pure ⟨plainId_quiet F.plain_extend_loop _, codeAny_extend_loopS W (by rw [sizeLine_eq]; exact Nat.le_trans T.q.len (by decide)) s.heap.objs.size (out (hI ▸ Nat.ne_of_lt (Nat.lt_succ_self _)) (Nat.ne_of_gt hlt)) _ L.length 0 _ #[] n2 rfl (Nat.zero_le _) ⟨0, sb2.extBut _ _ (hI ▸ Nat.ne_of_gt (Nat.lt_succ_self _)) it, fun _ => rfl, sb2.extBut _ _ (Nat.ne_of_lt hlt) ho2⟩ hS₂ (ItemsOf.nil _) fun s' acc' c' hm hS' hacc => ?_⟩
  show wpAny _ A (load s.heap.objs.size >>= _) _ _ s'
  refine wpAny_bind (wpAny_load hS' ?_)
  obtain ⟨m1, m2, m3, m4, m5⟩ := hm
  obtain ⟨hp, gs, dr, tk, os⟩ := s'
  dsimp only at m2 m3 m4
  subst m2; subst m3; subst m4
  refine wpAny_pure (q hp tk acc'.toList (fun b ob e => m1 b ob ?_ (sb2.extBut b ob (Nat.ne_of_lt (Heap.lt_size e)) (Heap.get?_push_of_some _ (Heap.get?_push_of_some _ e)))) (items_ord hacc))
  have hb := Heap.lt_size e
  simp only [List.mem_cons, List.not_mem_nil, or_false, not_or]
  exact ⟨Nat.ne_of_lt hb, hI ▸ Nat.ne_of_lt (Nat.lt_succ_of_lt hb)⟩
end
end Mine

namespace Mine
open PySem PySem.W PyProof.Rows PySem.Calls
section
variable {prog : Program} {w : World} {t : SetTable} {L : List En} {A : Around} {E : PV → Shared → Prop} {s : Shared} {h₀ : Heap}
noncomputable def RowsAt (prog : Program) (w : World) (h : Heap) (items : Array PV) (ks : List (List Int × Addr)) : Prop := items.toList = ks.map (fun e => Value.ref e.2) ∧ ∀ e ∈ ks, e.1 ∈ rowsI ∧ IsTupleKey (intKind prog w) h e.1 e.2

theorem SetAt.keep {h h' : Heap} {S : Addr} (x : SetAt prog w h S L) (k : ∀ b o, h.get? b = some o → b = S ∨ (∃ e ∈ L, e.2.2 = b) → h'.get? b = some o) : SetAt prog w h' S L := by
  obtain ⟨o, ep, t, ho, hex, hd, T⟩ := x
  refine ⟨o, ep, t, k S o ho (.inl rfl), hex, hd, { T.q with tup := fun e he => ⟨(T.q.tup e he).1, ?_⟩ }, T.room⟩
  obtain ⟨oo, items, n, ho2, r⟩ := (T.q.tup e he).2
  exact ⟨oo, items, n, k _ oo ho2 (.inr ⟨e, he, rfl⟩), r⟩

theorem rows_loop {S I l : Addr} {items : Array PV} {ks : List (List Int × Addr)} {R : Result → Shared → Prop} (hu : A.units + 5 < cLine) (hh : A.handled = none) (h1 : S ≠ I) (h2 : S ≠ l) (h3 : l ≠ I) (hksI : ∀ e ∈ ks, e.2 ≠ I) :
    ∀ (f k : Nat) (L : List En) (s : Shared), ks.length - k = f → k ≤ ks.length → s.heap.IsListIter I l k → s.heap.IsList l items → RowsAt prog w s.heap items ks → SetAt prog w s.heap S L → (∀ e ∈ L, e.2 ∈ ks) → (∀ e ∈ ks.take k, ∃ e' ∈ L, e'.2.1 = e.1) →
      (∀ h' tk L', (∀ b o, b ≠ S → b ≠ I → s.heap.get? b = some o → h'.get? b = some o) → SetAt prog w h' S L' → (∀ e ∈ L', e.2 ∈ ks) → (∀ e ∈ ks, ∃ e' ∈ L', e'.2.1 = e.1) → R (.ok (.ret .none)) { s with heap := h', toks := tk }) →
      codeAny (model prog w) A (.builtin "set.update.loop" ⟨[.ref S, .ref I], []⟩) R s := by
  intro f
  induction f with
  | zero =>
    intro k L s hf hk it il ra sa hL hT q
    have hke : k = ks.length := by omega
    subst hke
    refine codeAny_builtin F.entry_set_update_loop ?_
    rw [Around.under_plainId F.plain_set_update_loop _]
    show wpAny _ A.in1 (pyNext (.ref I) >>= _) _ _ s
    have hsz : items.size = ks.length := by have := congrArg List.length ra.1; simpa using this
    refine wpAny_bind (wpAny_pyNext_list_end hh it il (Array.getElem?_eq_none (Nat.le_of_eq hsz)) fun h' eb => ?_)
    show wpAny _ A.in1 (ret Value.none) _ _ _
    refine wpAny_pure (q h' s.toks L (fun b o _ n2 e => eb b o n2 e) (sa.keep fun b o eo hb => eb b o ?_ eo) hL (by rw [List.take_length] at hT; exact hT))
    rcases hb with rfl | ⟨e, he, rfl⟩
    · exact h1
    · exact hksI _ (hL e he)
  | succ f ih =>
    intro k L s hf hk it il ra sa hL hT q
    have hlt : k < ks.length := by omega
    refine codeAny_builtin F.entry_set_update_loop ?_
    rw [Around.under_plainId F.plain_set_update_loop _]
    show wpAny _ A.in1 (pyNext (.ref I) >>= _) _ _ s
    have hv : items[k]? = some (.ref ks[k].2) := by
      rw [← Array.getElem?_toList, ra.1, List.getElem?_map, List.getElem?_eq_getElem hlt]; rfl
    refine wpAny_bind (wpAny_pyNext_list_item it il hv fun h1' it' sb => ?_)
    have hmem : ks[k] ∈ ks := List.getElem_mem hlt
    have htu : IsTupleKey (intKind prog w) h1' ks[k].1 ks[k].2 := tup_but (ra.2 _ hmem).2 (fun b o n e => sb.extBut b o n e) (hksI _ hmem)
    have sa1 : SetAt prog w h1' S L := sa.keep fun b o eo hb => sb.extBut b o (by
      rcases hb with rfl | ⟨e, he, rfl⟩
      · exact h1
      · exact hksI _ (hL e he)) eo
    have il1 : h1'.IsList l items := il.extBut sb.extBut h3
    have ra1 : RowsAt prog w h1' items ks := ⟨ra.1, fun e he => ⟨(ra.2 e he).1, tup_but (ra.2 e he).2 (fun b o n e => sb.extBut b o n e) (hksI e he)⟩⟩
    have take : ∀ L' : List En, (∀ e ∈ ks.take k, ∃ e' ∈ L', e'.2.1 = e.1) → (∃ e' ∈ L', e'.2.1 = ks[k].1) → ∀ e ∈ ks.take (k + 1), ∃ e' ∈ L', e'.2.1 = e.1 := fun L' a b e he => by
      rw [List.take_add_one, List.getElem?_eq_getElem hlt] at he
      rcases List.mem_append.mp he with he | he
      · exact a e he
      · simp at he; subst he; exact b
    show wpAny _ A.in1 (holding [Value.ref ks[k].2] (setAdd S (.ref ks[k].2)) >>= _) _ _ _
    refine wpAny_bind (wpAny_holding ?_)
    unfold setAdd
    refine wpAny_holding ?_
    refine wpAny_bind (wpAny_pyHash_tuple (by show A.units + 1 < _; omega) htu ?_)
    refine add_ok (key := ks[k].1) (by show A.units + 1 < _; omega) (s := { s with heap := h1', toks := s.toks + (ks[k].1.length + 1) }) sa1 (ra.2 _ hmem).1 htu (fun hex => ?_) (fun hn h2' L' sb2 sa2 hp => ?_)
    · exact wpAny_pure ⟨plainId_quiet F.plain_set_update_loop _, ih (k + 1) L _ (by omega) hlt it' il1 ra1 sa1 hL (take L hT hex) fun h' tk L' kp sa' a b => q h' tk L' (fun b o n1 n2 e => kp b o n1 n2 (sb.extBut b o n2 e)) sa' a b⟩
    · have mem : ∀ e2 : List Int × Addr, e2 ∈ L'.map (·.2) ↔ e2 = (ks[k].1, ks[k].2) ∨ e2 ∈ L.map (·.2) := fun e2 => by rw [hp.mem_iff, List.mem_cons]
      have nS : ∀ e ∈ ks, e.2 ≠ S := fun e he ee => by
        obtain ⟨o, ep, t, ho, hex, _, _⟩ := sa1
        exact tup_ne (ra1.2 e he).2 ho hex ee
      refine wpAny_pure ⟨plainId_quiet F.plain_set_update_loop _, ih (k + 1) L' _ (by omega) hlt ?_ (il1.extBut sb2.extBut h2.symm) ⟨ra.1, fun e he => ⟨(ra1.2 e he).1, tup_but (ra1.2 e he).2 (fun b o n e => sb2.extBut b o n e) (nS e he)⟩⟩ sa2 (fun e he => ?_) (take L' (fun e he => ?_) ?_) fun h' tk L2 kp sa' a b => q h' tk L2 (fun b o n1 n2 e => kp b o n1 n2 (sb2.extBut b o n1 (sb.extBut b o n2 e))) sa' a b⟩
      · obtain ⟨o, ho, r⟩ := it'
        exact ⟨o, sb2.extBut _ _ h1.symm ho, r⟩
      · rcases (mem e.2).mp (List.mem_map.mpr ⟨e, he, rfl⟩) with e2 | e2
        · rw [e2]; exact hmem
        · obtain ⟨e', he', ee⟩ := List.mem_map.mp e2
          rw [← ee]; exact hL e' he'
      · obtain ⟨e', he', ee⟩ := hT e he
        obtain ⟨e3, he3, ee3⟩ := List.mem_map.mp ((mem e'.2).mpr (.inr (List.mem_map.mpr ⟨e', he', rfl⟩)))
        exact ⟨e3, he3, by rw [ee3]; exact ee⟩
      · obtain ⟨e3, he3, ee3⟩ := List.mem_map.mp ((mem (ks[k].1, ks[k].2)).mpr (.inl rfl))
        exact ⟨e3, he3, by rw [ee3]⟩
end
end Mine

namespace Mine
open PySem PySem.W PyProof.Rows PySem.Calls
section
variable {prog : Program} {w : World} {A : Around} {E : PV → Shared → Prop} {s : Shared}

theorem set_new_1 (a : PV) {Q₁ : PV → Shared → Prop}
    (h : ∀ led : Bool, led = !(w.params.followText "set-order") → Q₁ (.ref s.heap.objs.size) { s with heap := s.heap.push { cls := .type "set", dict := none, data := .set #[] 0 (.fresh 0 0 led) } }) :
    codeAny (model prog w) A (.call (.builtin "set.__new__") ⟨[.type "set", a], []⟩) (wants Q₁ E) s := by
  refine codeAny_of_tree ?_
  show wpAny _ A.in1 (do checkBuiltinCall "set.__new__" ⟨[.type "set", a], []⟩; again (.builtin "set.__new__" ⟨[.type "set", a], []⟩)) _ _ s
  refine wpAny_bind (wpAny_of_eq (F.newCall_set_1 a) (wpAny_pure ⟨plainId_quiet F.plain_set_new _, codeAny_builtin F.entry_set_new ?_⟩))
  rw [Around.under_plainId F.plain_set_new _]
  unfold Builtin.«set.__new__» Builtin.Frozenset.newClass
  have hsub := sub_set_self
  obtain ⟨hp, g, d, tk, os⟩ := s
  dsimp only
  wp_walk
  refine wpAny_askSetting (wpAny_pure ?_)
  dsimp only
  simp only [newObj]
  refine wpAny_bind (wpAny_alloc (wpAny_pure ?_))
  exact wpAny_pure (h _ rfl)

theorem call_set_rows {l : Addr} {items : Array PV} {ks : List (List Int × Addr)} {Q : PV → Shared → Prop}
    (hu : A.units + 20 < cLine) (hh : A.handled = none) (hl : s.heap.IsList l items) (ra : RowsAt prog w s.heap items ks)
    (h : ∀ (h' : Heap) (tk : Nat) L, SetAt prog w h' s.heap.objs.size L → (∀ e ∈ L, e.2 ∈ ks) → (∀ e ∈ ks, ∃ e' ∈ L, e'.2.1 = e.1) →
      (∀ b o, b < s.heap.objs.size → s.heap.get? b = some o → h'.get? b = some o) → Q (.ref s.heap.objs.size) { s with heap := h', toks := tk }) :
    wpAny (model prog w) A (call (.type "set") [.ref l]) Q E s := by
  obtain ⟨c, tl, hmro⟩ := F.called_set.mro
  have hmade := F.called_set.made
  have hsub' := F.called_set.sub
  refine wpAny_call (codeAny_of_tree ?_)
  show wpAny _ _ (callAny (.type "set") _) _ _ _
  refine wpAny_pure ⟨Code.quiet_builtin _ (by decide +kernel), codeAny_builtin F.entry_type_call ?_⟩
  rw [Around.under_plain (weight_type_call_type "set" [.ref l] []) rfl]
  have h1 := F.called_set.notType
  have h2 := F.called_set.canCreate
  have hct := F.typeCall_set_1 (.ref l)
  repeat (any_goals (first | assumption | wp_step))
  refine codeAny_mono (set_new_1 (.ref l) (E := E) (Q₁ := fun obj s₁ => ∃ led : Bool, led = (!(w.params.followText "set-order")) ∧ obj = .ref s.heap.objs.size ∧ s₁ = { s with heap := s.heap.push { cls := .type "set", dict := none, data := .set #[] 0 (.fresh 0 0 led) } }) fun led hled => ⟨led, hled, rfl, rfl⟩) fun r s₁ hr => ?_
  cases r with
  | error e => exact hr
  | ok fl =>
    cases fl with
    | ret obj =>
      obtain ⟨led, hled, rfl, rfl⟩ := hr
      have hS : (s.heap.push { cls := .type "set", dict := none, data := .set #[] 0 (.fresh 0 0 led) }).get? s.heap.objs.size = some { cls := .type "set", dict := none, data := .set #[] 0 (.fresh 0 0 led) } := Heap.get?_push_size _ rfl
      have hT : Shared.TypeIs { s with heap := s.heap.push { cls := .type "set", dict := none, data := .set #[] 0 (.fresh 0 0 led) } } (.ref s.heap.objs.size) "set" := ⟨_, hS, rfl⟩
      have hli := F.called_set.init.lookup
      have hbi := F.called_set.init.bind (.ref s.heap.objs.size)
      repeat (any_goals (first | assumption | wp_step))
      refine codeAny_mono (codeAny_call_builtin (R := wants (fun r s₂ => r = .none ∧ ∃ h' tk L, s₂ = { s with heap := h', toks := tk } ∧
          SetAt prog w h' s.heap.objs.size L ∧ (∀ e ∈ L, e.2 ∈ ks) ∧ (∀ e ∈ ks, ∃ e' ∈ L, e'.2.1 = e.1) ∧
          (∀ b o, b < s.heap.objs.size → s.heap.get? b = some o → h'.get? b = some o)) E) F.called_set.init.plain F.entry_set_init (check_set_init_1 hT ?_)) fun r₂ s₂ hr₂ => ?_
      · obtain ⟨ol, hol, hcl, nl, hdl⟩ := hl
        obtain ⟨ocls, odict, odata, oslots⟩ := ol
        simp only at hcl hdl
        subst hcl; subst hdl
        have hol' : (s.heap.push { cls := .type "set", dict := none, data := .set #[] 0 (.fresh 0 0 led) }).get? l = some { cls := .type "list", dict := odict, data := .seq items nl, slots := oslots } := Heap.get?_push_of_some _ hol
        have hsls := F.sub_list_set
        have hslf := F.sub_list_frozenset
        have hne : (Value.type "list" == Value.type "dict") = false := by decide
        have hl1 : (s.heap.push { cls := .type "set", dict := none, data := .set #[] 0 (.fresh 0 0 led) }).IsList l items := ⟨_, hol', rfl, nl, rfl⟩
        unfold Builtin.«set.__init__» noKeywords Builtin.Frozenset.updateFrom
        generalize hPI : pyIter = PI
        wp_walk
        subst hPI
        refine wpAny_pyIter_list hl1 ?_
        refine wpAny_bind (wpAny_runValue ?_)
        have hlS : l < s.heap.objs.size := Heap.lt_size hol
        have z1 : (s.heap.push { cls := .type "set", dict := none, data := .set #[] 0 (.fresh 0 0 led) }).objs.size = s.heap.objs.size + 1 := Heap.size_push ..
        have kk : ∀ b o', s.heap.get? b = some o' → ((s.heap.push { cls := .type "set", dict := none, data := .set #[] 0 (.fresh 0 0 led) }).push { cls := .type "list_iterator", data := .fields #[.ref l, .int 0 0] }).get? b = some o' := fun b o' e => Heap.get?_push_of_some _ (Heap.get?_push_of_some _ e)
        have tupk : ∀ e ∈ ks, e.1 ∈ rowsI ∧ IsTupleKey (intKind prog w) ((s.heap.push { cls := .type "set", dict := none, data := .set #[] 0 (.fresh 0 0 led) }).push { cls := .type "list_iterator", data := .fields #[.ref l, .int 0 0] }) e.1 e.2 := fun e he => by
          obtain ⟨m', o', it', n', ho', r'⟩ := ra.2 e he
          exact ⟨m', o', it', n', kk _ _ ho', r'⟩
        have klt : ∀ e ∈ ks, e.2 < s.heap.objs.size := fun e he => by
          obtain ⟨m', o', it', n', ho', r'⟩ := ra.2 e he
          exact Heap.lt_size ho'
        refine rows_loop (S := s.heap.objs.size) (l := l) (items := items) (ks := ks) (by show A.units + 1 + 1 + 5 < cLine; omega) (by exact hh) (by rw [z1]; exact Nat.ne_of_lt (Nat.lt_succ_self _)) (Nat.ne_of_gt hlS) (by rw [z1]; exact Nat.ne_of_lt (Nat.lt_succ_of_lt hlS)) (fun e he => by rw [z1]; exact Nat.ne_of_lt (Nat.lt_succ_of_lt (klt e he)))
          ks.length 0 [] _ (by omega) (Nat.zero_le _) ⟨_, Heap.get?_push_size _ rfl, rfl, rfl⟩ (hl1.push _) ⟨ra.1, tupk⟩ ⟨_, 0, .fresh 0 0 led, Heap.get?_push_of_some _ hS, ⟨rfl, rfl, rfl⟩, rfl, ⟨⟨List.mem_cons_self .., rfl, rfl, rfl, hled, .nil, fun _ h => (nomatch h), fun _ h => (nomatch h), .nil, fun _ h => (nomatch h)⟩, (by show 0 * 5 < 7 * 3; decide)⟩⟩ (fun _ h => nomatch h) (fun _ h => by simp at h) fun h' tk L kp sa a b => ?_
        show wpAny _ _ _ _ _ _
        refine wpAny_pure ?_
        show wpAny _ _ (ret Value.none) _ _ _
        refine wpAny_pure ⟨rfl, h', tk, L, rfl, sa, a, b, fun b' o hb e => kp b' o (Nat.ne_of_lt hb) (by rw [z1]; exact Nat.ne_of_lt (Nat.lt_succ_of_lt hb)) (kk b' o e)⟩
      · cases r₂ with
        | error e => exact hr₂
        | ok fl₂ =>
          cases fl₂ with
          | ret r =>
            obtain ⟨rfl, h', tk, L, rfl, sa, a, b, hk'⟩ := hr₂
            repeat (any_goals (first | assumption | wp_step))
            exact h _ _ _ sa a b hk'
          | _ => exact hr₂.elim
    | _ => exact hr.elim
end
end Mine

namespace Mine
open PySem PySem.W PyProof.Rows PySem.Calls
noncomputable abbrev Rw := List Int × Addr
noncomputable abbrev rwV (e : Rw) : V := rowV e.1
noncomputable abbrev rwP (e : Rw) : PV := .ref e.2
section
variable {B : Bd} {G : Ev} {N : Nx} {u : Nat} {c : Ck} {Q E : PV → Shared → Prop}
theorem perm_lift {α β : Type} {f : α → β} {acc : List β} : ∀ {l : List α}, acc.Perm (l.map f) → ∃ es : List α, es.Perm l ∧ acc = es.map f := by
  induction acc with
  | nil => exact fun {l} h => ⟨[], by rw [List.map_eq_nil_iff.mp h.symm.eq_nil], rfl⟩
  | cons v acc ih =>
    intro l h
    obtain ⟨e, he, rfl⟩ := List.mem_map.mp (h.mem_iff.mp (List.mem_cons_self ..))
    obtain ⟨l1, l2, rfl⟩ := List.append_of_mem he
    obtain ⟨es, e1, e2⟩ := ih (l := l1 ++ l2) (h.trans ((List.perm_middle (a := e) (l₁ := l1) (l₂ := l2)).map f)).cons_inv
    exact ⟨e :: es, (e1.cons e).trans List.perm_middle.symm, congrArg (f e :: ·) e2⟩
theorem row_ks : ∀ {l : List V} {vs : List PV}, l.all rowOk = true → Vals B N l vs → ∃ ks : List Rw, vs = ks.map rwP ∧ l = ks.map rwV ∧ ∀ e ∈ ks, Val B N (rwV e) (rwP e) ∧ RowAt B.D N N.s.heap (rwP e) e.1
  | [], vs, _, r => ⟨[], r, rfl, fun _ h => nomatch h⟩
  | d :: l, _, ha, ⟨v, t, rfl, r1, r2⟩ => by
    have ha := Bool.and_eq_true_iff.mp ha
    obtain ⟨ks, rfl, rfl, k⟩ := row_ks ha.2 r2
    obtain ⟨q, hq, rfl⟩ := rowOk_of ha.1
    have w := row_at ha.1 r1
    rw [ikey_row] at w
    obtain ⟨a, arr, n, rfl, w⟩ := w
    exact ⟨(q, a) :: ks, rfl, rfl, fun e he => (List.mem_cons.mp he).elim (fun e1 => by rw [e1]; exact ⟨r1, a, arr, n, rfl, w⟩) (k e)⟩
theorem rows_val {ks es : List Rw} (k : ∀ e ∈ ks, Val B N (rwV e) (rwP e) ∧ RowAt B.D N N.s.heap (rwP e) e.1) (h : ∀ e ∈ es, e ∈ ks) : Vals B N (es.map rwV) (es.map rwP) := by
  induction es with
  | nil => exact rfl
  | cons e es ih => exact ⟨_, _, rfl, (k e (h e (List.mem_cons_self ..))).1, ih fun e he => h e (List.mem_cons_of_mem _ he)⟩
theorem items_are {prog : Program} {w : World} {D : Wd} : ∀ {k : List Int} {vs : List PV}, RVs D N (k.map .int) vs → ItemsAre (intKind prog w) k vs
  | [], vs, r => by cases (r : vs = []); exact .nil
  | i :: k, _, ⟨_, t, rfl, ⟨tk, rfl⟩, r⟩ => .cons (by simp [intKind, Value.isInt]) (items_are r)
theorem sorted_set {L : List En} {S : Addr} (hh : G.A.handled = none) (sm : Sm B.D N) {s : Shared} (mo : More N s) (SA : SetAt B.D.prog B.D.w s.heap S L) {ks : List Rw} {l : List V} (hl : l.all rowOk = true) (el : l = ks.map rwV)
    (k : ∀ e ∈ ks, Val B N (rwV e) (rwP e) ∧ RowAt B.D N N.s.heap (rwP e) e.1) (k1 : ∀ e ∈ L, e.2 ∈ ks) (k2 : ∀ e ∈ ks, ∃ e' ∈ L, e'.2.1 = e.1)
    (z : ∀ Y v, Aft B.D N noA Y → Y.σ = N.σ → Val B Y (.list (sortB l)) v → Q v Y.s) : wpAny (model B.D.prog B.D.w) G.A (call (.builtin "sorted") [.ref S]) Q E s := by
  obtain ⟨o, ep, t, ho, hex, hd, T⟩ := SA
  refine Calls.call_function_entry kind_sorted plain_sorted entry_sorted (args_sorted1 _) ?_
  unfold Builtin.«sorted»
  refine wpAny_bind (m := checkCount "sorted" 1 1 _) (wpAny_pure ?_)
  refine wpAny_bind (collect_set hh ho hex hd T fun h1 tk acc kp hp => ?_)
  obtain ⟨es, pe, ea⟩ := perm_lift (f := rwP) (l := L.map (·.2)) (acc := acc) (by rw [List.map_map]; exact hp)
  subst ea
  have hes : ∀ e ∈ es, ∃ e' ∈ L, e'.2 = e := fun e he => List.mem_map.mp (pe.mem_iff.mp he)
  have hek : ∀ e ∈ es, e ∈ ks := fun e he => (hes e he).elim fun e' q => q.2 ▸ k1 e' q.1
  have nd : (es.map rwV).Nodup := by
    have w : (es.map (·.1)).Nodup := (pe.map (·.1)).nodup_iff.mpr (by rw [List.map_map]; exact T.q.nd)
    rw [show es.map rwV = (es.map (·.1)).map rowV by rw [List.map_map]; rfl]
    exact List.pairwise_map.mpr (w.imp fun hne e => hne (rowV_inj e))
  have h30 : es.length ≤ 30 := by rw [pe.length_eq, List.length_map]; exact T.q.len
  have hlk : (es.map rwP).length = (es.map rwV).length := by rw [List.length_map, List.length_map]
  have hln : (es.map rwV).length = es.length := List.length_map ..
  have hz : (es.map rwP).length ≤ sizeLine := by rw [hlk, hln, sizeLine_eq]; exact Nat.le_trans h30 (by decide)
  have hok : (es.map rwV).all rowOk = true := List.all_eq_true.mpr fun x hx => (List.mem_map.mp hx).elim fun e q => by
    rw [← q.2]; exact List.all_eq_true.mp hl _ (by rw [el]; exact List.mem_map.mpr ⟨e, hek e q.1, rfl⟩)
  have rs := rows_val k hek
  have kall : ∀ b o, N.s.heap.get? b = some o → h1.get? b = some o := fun b o e => kp b o (mo.k b o e)
  refine wpAny_bind (wpAny_newList ?_ hz)
  have hoL : (h1.push (seqObj "list" (es.map rwP).toArray 0)).get? h1.objs.size = some (seqObj "list" (es.map rwP).toArray 0) := Heap.get?_push_size _ rfl
  refine wpAny_bind (wpAny_holding (wpAny_call_entry slot_list_sort ⟨_, hoL, rfl⟩ entry_list_sort (sort_rows (D := B.D) (N := N) (key := fun i => ikey ((es.map rwV).getD i .none)) hoL (fun i v hv => (rows_at hok rs i v hv).mono fun b o _ eo => Heap.get?_push_of_some _ (kall b o eo))
    (fun i j hi hj h => ?_) (hlk.symm ▸ hln.symm ▸ Nat.lt_of_le_of_lt h30 (by decide)) fun p hp hs => ⟨_, rfl, ?_⟩) (args_list_sort _)))
  · rw [hlk] at hi hj
    obtain ⟨k1, m1, e1⟩ := rowOk_of (List.all_eq_true.mp hok _ (List.getElem_mem hi))
    obtain ⟨k2, m2, e2⟩ := rowOk_of (List.all_eq_true.mp hok _ (List.getElem_mem hj))
    replace h : rix (ikey ((es.map rwV).getD i .none)) = rix (ikey ((es.map rwV).getD j .none)) := h
    rw [getD_at hi, getD_at hj, e1, e2, ikey_row, ikey_row] at h
    exact (List.getElem_inj nd).mp (e1.trans ((congrArg rowV (rix_inj m1 h)).trans e2.symm))
  rw [hlk] at hp hs
  have up := pick_up hp hs
  have eq : (p.toList.map fun i => (es.map rwV).getD i V.none) = sortB l := List.Perm.eq_of_pairwise (le := fun a b => rkey a < rkey b) (fun a b ha hb h1 h2 => absurd (Nat.lt_trans h1 h2) (Nat.lt_irrefl _)) up (sortB_up l)
    ((List.perm_ext_iff_of_nodup (up_nodup up) (up_nodup (sortB_up l))).mpr fun x => (pick_perm hp).mem_iff.trans (Iff.trans ⟨fun h => ?_, fun h => ?_⟩ (mem_sortB hl x)))
  · obtain ⟨ep2, hD⟩ := sortedHeap_at (out := List.toArray (pick (es.map rwP) p)) hoL
    have m2 : More N { s with heap := sortedHeap (h1.push (seqObj "list" (es.map rwP).toArray 0)) h1.objs.size (es.map rwP) (List.toArray (pick (es.map rwP) p)), toks := tk } := ⟨fun b o e => by
      have hlt := Heap.lt_size (kall b o e)
      rw [sortedHeap_old (Nat.ne_of_lt hlt) (by rw [Heap.size_push]; exact Nat.lt_succ_of_lt hlt)]
      exact Heap.get?_push_of_some _ (kall b o e), mo.g, mo.o⟩
    have nn : ¬ N.has h1.objs.size := fun h => (Option.isSome_iff_exists.mp h).elim fun o e => Nat.lt_irrefl _ (Heap.lt_size (kall _ o e))
    have pv := m2.pv sm nn hD
    have r2 := Vals.on (m2.aft sm) (RVs_pick rs p.toList fun i hi => hp.mem hi)
    rw [eq] at r2
    exact wpAny_pure ⟨_, rfl, z ((N.at _).wi h1.objs.size) _ ((m2.aft sm).wi pv nn) rfl (RC_RV (d := .list _) (.inr rfl) (RC_le Le.wi (fun _ e => e) ⟨_, ⟨ep2, hD⟩, r2⟩))⟩
  · obtain ⟨e, he, rfl⟩ := List.mem_map.mp h
    rw [el]; exact List.mem_map.mpr ⟨e, hek e he, rfl⟩
  · rw [el] at h
    obtain ⟨e, he, rfl⟩ := List.mem_map.mp h
    obtain ⟨e', he', ee⟩ := k2 e he
    exact List.mem_map.mpr ⟨e'.2, pe.mem_iff.mpr (List.mem_map.mpr ⟨e', he', rfl⟩), by show rowV e'.2.1 = rowV e.1; rw [ee]⟩
theorem set_sorted {l : List V} {v : PV} (hu : G.A.units + 20 < cLine) (hh : G.A.handled = none) (sm : Sm B.D N) (hl : l.all rowOk = true) (rv : Val B N (.list l) v)
    (z : ∀ Y v, Aft B.D N noA Y → Y.σ = N.σ → Val B Y (.list (sortB l)) v → Q v Y.s) : Wp B G N (call (.type "set") [v]) (fun v s1 => wpAny (model B.D.prog B.D.w) G.A (call (.builtin "sorted") [v]) Q E s1) E := by
  obtain ⟨a, arr, rfl, wa, il, rsl⟩ := rv
  obtain ⟨ks, e1, e2, k⟩ := row_ks hl rsl
  refine call_set_rows (ks := ks) hu hh (IsLs.list il) ⟨e1, fun e he => ?_⟩ fun h1 tk L sa k1 k2 kp => sorted_set hh sm ⟨fun b o e => kp b o (Heap.lt_size e) e, rfl, rfl⟩ sa hl e2 k k1 k2 z
  obtain ⟨b, brr, n, eb, hb, rb, mb⟩ := (k e he).2
  cases eb
  exact ⟨mb, _, brr, n, hb, rfl, rfl, items_are rb⟩
theorem ss_ok (hu : 40 ≤ u) : SsOk B u := fun g c x f p1 p2 p3 p4 F B1 B2 hs h3 G N Q E K H q z => by
  show Wp B G N (do callWith p4 (← eval (.Name "sorted" p1) G.env) [] (backTo p4 (starEach [.Call (.Name "set" p2) [f] [] p3] G.env)) []) Q E
  refine wpAny_bind (wpAny_Name (load_blt H F B1.k B1.g B1.b (callWith_bi (first := []) rfl rfl ?_)) B1.d)
  rw [starEach_cons rfl]
  refine Calls.spliced_cons (call_name F B2 rfl (by rw [List.all_cons, hs]; rfl) h3 H q fun ds Y vs k a r => ?_)
  obtain ⟨d, rfl, e⟩ := one_of (show oK (one ds _) _ from k)
  obtain ⟨v, rfl, rv⟩ := Vals.one r
  cases d with
  | list l =>
    obtain ⟨hc, e⟩ := if_of (show oK (if l.all rowOk = true ∧ l.length ≤ capL then some (V.list (sortB l)) else none) _ from e)
    have hu2 := H.rm.units
    exact wpAny_mono (set_sorted (by omega) H.rm.hand a.sm hc.1 rv fun Z w a2 e2 r2 => z _ Z w (by rw [e2]; exact e) (a.trans a2) r2) (fun v s2 h2 => wpAny_pure h2) fun _ _ h => h
  | _ => exact False.elim e
end
end Mine

namespace Mine
theorem oK_i {α : Type} {o : Option α} {k : α → Prop} (a : α) (h : o = some a) (hk : k a) : oK o k := by rw [h]; exact hk
theorem iK_t {b : Bool} {p q : Prop} (h : b = true) (hp : p) : iK b p q := by rw [h]; exact hp
theorem iK_f {b : Bool} {p q : Prop} (h : b = false) (hp : q) : iK b p q := by rw [h]; exact hp
theorem okLen_i {l : List V} (h : l.length ≤ capL) : okLen l = some l := if_pos h
theorem len_L {L : List V} (σ : St) (h : L.length ≤ capL) : biE σ .len [.list L] = some (.int L.length) := by
  show (okLen L).map (fun l => V.int l.length) = _
  rw [okLen_i h]; rfl
theorem idx_i {l : List V} {k : Nat} {v : V} (h : l[k]? = some v) (hl : l.length ≤ 1000000) (σ : St) : itemE σ (.list l) (.int k) = some v := by
  have hk := (List.getElem?_eq_some_iff.mp h).1
  have e : idx l.length k = some k := by unfold idx; rw [if_pos (by omega), if_pos (by omega)]; rfl
  show ((some l).bind fun l => (idx l.length k).bind fun j => l[j]?) = _
  rw [Option.bind_some, e, Option.bind_some, h]
theorem mul_i {a b : Int} (σ : St) (ha : a.natAbs ≤ 1000000) (hb : b.natAbs ≤ 1000000) : binE σ .mul (.int a) (.int b) = some (.int (a * b)) := by
  show (if _ then _ else _) = _
  rw [if_pos ⟨ha, hb⟩]
theorem mod_i {w : Int} (σ : St) (hw : 0 < w) (x : Int) : ∃ v : Nat, (v : Int) < w ∧ binE σ .mod (.int x) (.int w) = some (.int (v : Int)) :=
  ⟨(x % w).toNat, by rw [Int.toNat_of_nonneg (Int.emod_nonneg x (by omega))]; exact Int.emod_lt_of_pos x hw, by
    show (if 0 < w then some (V.int (x % w)) else none) = _
    rw [if_pos hw, Int.toNat_of_nonneg (Int.emod_nonneg x (by omega))]⟩
namespace P5
noncomputable abbrev sCells : Nat := encL [99, 101, 108, 108, 115]
noncomputable abbrev sSpot : Nat := encL [115, 112, 111, 116]
noncomputable def feedO (L : List V) (k : Nat) : SObj := .dict [(.str sCells, .list L), (.str sSpot, .int k)]
noncomputable def okL (L : List V) : Prop := L.length ≤ 48 ∧ ∀ x ∈ L, ∃ i, x = V.int i
theorem next_ok {n : Nat} {L : List V} {k : Nat} {w : Int} {σ : St} {K : V → St → Prop} (hL : okL L) (hk : k ≤ 10000) (hw : 0 < w) (h : ∀ v : Nat, (v : Int) < w → K (.int v) (feedO L (k + 1) :: σ)) :
    callK prog (n + 1) 75 [.loc 0, .int w] (feedO L k :: σ) K := by
  have l1 : L.length ≤ 1000000 := Nat.le_trans hL.1 (by decide)
  have l2 := hL.1
  by_cases hlt : k < L.length
  · obtain ⟨i, hi⟩ := hL.2 _ (List.getElem_mem hlt)
    obtain ⟨v, h1, h2⟩ := mod_i (feedO L (k + 1) :: σ) hw i
    conv => whnf
    refine oK_i _ (len_L _ l1) ?_
    conv => whnf
    refine iK_t (decide_eq_true (Int.ofNat_lt.mpr hlt)) ?_
    conv => whnf
    refine oK_i (.int i) (idx_i (hi ▸ List.getElem?_eq_getElem hlt) l1 _) ?_
    conv => whnf
    exact oK_i _ h2 (h v h1)
  · conv => whnf
    refine oK_i _ (len_L _ l1) ?_
    conv => whnf
    refine iK_f (decide_eq_false fun q => hlt (Int.ofNat_lt.mp q)) ?_
    conv => whnf
    refine oK_i _ (mul_i _ (by decide) (by omega)) ?_
    conv => whnf
    refine oK_i _ (mul_i _ (by omega) (by omega)) ?_
    conv => whnf
    refine oK_i _ (mul_i _ (by decide) (by omega)) ?_
    conv => whnf
    refine oK_i _ (len_L _ l1) ?_
    conv => whnf
    refine oK_i _ (mul_i _ (by decide) (by omega)) ?_
    conv => whnf
    obtain ⟨v, h1, h2⟩ := mod_i (feedO L (k + 1) :: σ) hw ((9 * k * k + 4 * k + 7 * (L.length : Int) + 1) % 73)
    exact oK_i _ h2 (h v h1)
end P5
end Mine

namespace Mine
open PySem
noncomputable def Rc (c : Nat) (v : V) : Prop := ∃ k ∈ rowsI, k.length = c ∧ v = rowV k
noncomputable def Rs (c : Nat) (l : List V) : Prop := ∀ v ∈ l, Rc c v
structure RS (c : Nat) (l : List V) : Prop where
  ok : Rs c l
  st : sortB l = l
section
variable {c d : Nat} {l k : List V} {v : V}
theorem Rc.row (h : Rc c v) : rowOk v = true := h.elim fun k q => List.any_eq_true.mpr ⟨rowV k, List.mem_map.mpr ⟨k, q.1, rfl⟩, by rw [q.2.2]; exact beqs_rfl k⟩
theorem rows_eq : (rowsI.all fun k => eqOk 24 (rowV k)) = true := by decide +kernel
theorem Rc.eq (h : Rc c v) : eqOk 24 v = true := h.elim fun k q => by rw [q.2.2]; exact List.all_eq_true.mp rows_eq k q.1
theorem Rs.all (h : Rs c l) : l.all rowOk = true := List.all_eq_true.mpr fun v m => (h v m).row
theorem Rs.app (h : Rs c l) (h2 : Rs c k) : Rs c (l ++ k) := fun v m => (List.mem_append.mp m).elim (h v) (h2 v)
theorem Rs.nil : Rs c [] := fun _ m => nomatch m
theorem Rs.flt {p : V → Bool} (h : Rs c l) : Rs c (l.filter p) := fun v m => h v (List.mem_filter.mp m).1
theorem Rs.sub (h : Rs c l) (s : k.Sublist l) : Rs c k := fun v m => h v (s.subset m)
theorem sort_mem (h : Rs c l) : v ∈ sortB l ↔ v ∈ l := (mem_sortB h.all v).symm
theorem Rs.sort (h : Rs c l) : Rs c (sortB l) := fun v m => h v ((sort_mem h).mp m)
theorem sort_congr (h : ∀ v, v ∈ l ↔ v ∈ k) : sortB l = sortB k := List.filter_congr fun r _ => Bool.eq_iff_iff.mpr (by
  rw [List.any_eq_true, List.any_eq_true]
  exact ⟨fun ⟨x, m, e⟩ => ⟨x, (h x).mp m, e⟩, fun ⟨x, m, e⟩ => ⟨x, (h x).mpr m, e⟩⟩)
theorem sort_RS (h : Rs c l) : RS c (sortB l) := ⟨h.sort, sort_congr fun _ => sort_mem h⟩
theorem RS.uniq (h : RS c l) (h2 : RS d k) (e : ∀ v, v ∈ l ↔ v ∈ k) : l = k := h.st.symm.trans ((sort_congr e).trans h2.st)
theorem RS.le (h : RS c l) : l.length ≤ 30 := h.st ▸ sortB_len l
theorem RS.nd (h : RS c l) : l.Nodup := h.st ▸ up_nodup (sortB_up l)
theorem RS.up (h : RS c l) : l.Pairwise fun a b => rkey a < rkey b := h.st ▸ sortB_up l
theorem RS.of_up (h : Rs c l) (u : l.Pairwise fun a b => rkey a < rkey b) : RS c l := ⟨h, (sort_uniq h.all (List.Perm.refl l) (up_nodup u) u).symm⟩
theorem RS.sub (h : RS c l) (s : k.Sublist l) : RS c k := .of_up (h.ok.sub s) (h.up.sublist s)
theorem nodV_i : ∀ {l : List V}, l.Nodup → nodV l = true
  | [], _ => rfl
  | x :: r, h => by
    have h := List.nodup_cons.mp h
    have w : (r.any (V.beq x)) = false := List.any_eq_false.mpr fun y m e => h.1 (beq_eq x e ▸ m)
    show (!r.any (V.beq x) && nodV r) = true
    rw [w, nodV_i h.2]; rfl
theorem Rs.le (h : Rs c l) (n : l.Nodup) : l.length ≤ 30 := (sortB_perm h.all n).length_eq ▸ sortB_len l
theorem R1 (h : Rc 1 v) : ∃ a : Int, v = .tup [.int a] ∧ [a] ∈ rowsI := h.elim fun k q => match k, q with
  | [a], q => ⟨a, q.2.2, q.1⟩
theorem R2 (h : Rc 2 v) : ∃ a b : Int, v = .tup [.int a, .int b] ∧ [a, b] ∈ rowsI := h.elim fun k q => match k, q with
  | [a, b], q => ⟨a, b, q.2.2, q.1⟩
theorem two_all (p : List Int → List Int → Bool) (h : (rowsI.all fun a => rowsI.all fun b => p a b) = true) {a b : List Int} (ha : a ∈ rowsI) (hb : b ∈ rowsI) : p a b = true := List.all_eq_true.mp (List.all_eq_true.mp h a ha) b hb
theorem row_swp {a b : Int} (h : [a, b] ∈ rowsI) : [b, a] ∈ rowsI := by
  have w : (rowsI.all fun k => match k with
    | [a, b] => rowsI.contains [b, a]
    | _ => true) = true := by decide +kernel
  exact List.contains_iff_mem.mp (List.all_eq_true.mp w _ h)
theorem row_cat {a b : Int} (h1 : [a] ∈ rowsI) (h2 : [b] ∈ rowsI) : [a, b] ∈ rowsI := by
  have w := two_all (fun a b => match a, b with
    | [a], [b] => rowsI.contains [a, b]
    | _, _ => true) (by decide +kernel) h1 h2
  exact List.contains_iff_mem.mp w
theorem row_fst {a b : Int} (h : [a, b] ∈ rowsI) : [a] ∈ rowsI ∧ [b] ∈ rowsI := by
  have w : (rowsI.all fun k => match k with
    | [a, b] => rowsI.contains [a] && rowsI.contains [b]
    | _ => true) = true := by decide +kernel
  have w := Bool.and_eq_true_iff.mp (List.all_eq_true.mp w _ h)
  exact ⟨List.contains_iff_mem.mp w.1, List.contains_iff_mem.mp w.2⟩
theorem row_lt {a b a' b' : Int} (h1 : [a, b] ∈ rowsI) (h2 : [a', b'] ∈ rowsI) (h : rix [a] < rix [a'] ∨ (a = a' ∧ rix [b] < rix [b'])) : rix [a, b] < rix [a', b'] := by
  have w := two_all (fun k l => match k, l with
    | [a, b], [a', b'] => !(decide (rix [a] < rix [a']) || (decide (a = a') && decide (rix [b] < rix [b']))) || decide (rix [a, b] < rix [a', b'])
    | _, _ => true) (by decide +kernel) h1 h2
  refine of_decide_eq_true (p := rix [a, b] < rix [a', b']) ((Bool.or_eq_true_iff.mp w).elim (fun q => ?_) id)
  rcases h with h | ⟨e, h⟩
  · rw [decide_eq_true h] at q; exact absurd q Bool.false_ne_true
  · rw [decide_eq_true e, decide_eq_true h, Bool.and_self, Bool.or_true] at q; exact absurd q Bool.false_ne_true
theorem rc1 {a : Int} (h : [a] ∈ rowsI) : Rc 1 (.tup [.int a]) := ⟨[a], h, rfl, rfl⟩
theorem rc2 {a b : Int} (h : [a, b] ∈ rowsI) : Rc 2 (.tup [.int a, .int b]) := ⟨[a, b], h, rfl, rfl⟩
end
end Mine

namespace Mine
open PySem
theorem bK_i {b : Bool} {p : Prop} (h : b = true) (hp : p) : bK b p := by rw [h]; exact hp
theorem ap0 {l : List V} {p : List V → Prop} (h : p (l ++ [])) : p l := (List.append_nil l) ▸ h
section
variable {st : St → Bool} {bnd : V → Option REnv} {ifs : REnv → St → (Bool → St → Prop) → Prop} {body : List V → REnv → St → (List V → St → Prop) → Prop}
noncomputable def Outs (Q : V → List V → Prop) : List V → List V → Prop
  | [], r => r = []
  | v :: l, r => ∃ a b, Q v a ∧ Outs Q l b ∧ r = a ++ b
theorem loopC0_ok {P : V → Prop} (Q : V → List V → Prop) (I : Nat → St → Prop) (c : Nat) (hst : ∀ j σ, I j σ → st σ = true)
    (H : ∀ v, P v → ∃ ρ, bnd v = some ρ ∧ ∀ j σ ds (kk : List V → St → Prop), I (j + 1) σ → ds.length + c ≤ capL → (∀ r σ', Q v r → I j σ' → kk (ds ++ r) σ') → ifs ρ σ fun t σ' => iK t (body ds ρ σ' kk) (kk ds σ')) (hc : ∀ v r, Q v r → r.length ≤ c) :
    ∀ (l : List V) (j : Nat) (ds : List V) (σ : St) (k : List V → St → Prop), (∀ v ∈ l, P v) → I (j + l.length) σ → ds.length + l.length * c ≤ capL → (∀ r σ', Outs Q l r → I j σ' → k (ds ++ r) σ') → kLoopC0 st bnd ifs body l ds σ k
  | [], j, ds, σ, k, hp, i, _, z => bK_i (hst _ _ i) (ap0 (p := fun l => k l σ) (z [] σ rfl i))
  | v :: l, j, ds, σ, k, hp, i, b, z => bK_i (hst _ _ i) (by
    obtain ⟨ρ, e, h⟩ := H v (hp v (List.mem_cons_self ..))
    have b2 : ds.length + c + l.length * c ≤ capL := by rw [List.length_cons, Nat.succ_mul, Nat.add_comm (l.length * c), ← Nat.add_assoc] at b; exact b
    exact oK_i ρ e (h _ σ ds _ i (Nat.le_trans (Nat.le_add_right ..) b2) fun r σ' q i' => loopC0_ok Q I c hst H hc l j (ds ++ r) σ' k (fun w m => hp w (List.mem_cons_of_mem _ m)) i'
      (by rw [List.length_append]; exact Nat.le_trans (Nat.add_le_add_right (Nat.add_le_add_left (hc v r q) _) _) b2) fun r' σ'' q' i'' => List.append_assoc ds r r' ▸ z (r ++ r') σ'' ⟨r, r', q, q', rfl⟩ i''))
theorem loopC_ok {P : V → Prop} (Q : V → List V → Prop) (I : Nat → St → Prop) (c : Nat) (j : Nat) {l ds : List V} {σ : St} {k : List V → St → Prop} (hp : ∀ v ∈ l, P v) (i : I (j + l.length) σ) (hb : ds.length + l.length * c ≤ capL) (hst : ∀ j σ, I j σ → st σ = true) (hc : ∀ v r, Q v r → r.length ≤ c)
    (H : ∀ v, P v → ∃ ρ, bnd v = some ρ ∧ ∀ j σ ds (kk : List V → St → Prop), I (j + 1) σ → ds.length + c ≤ capL → (∀ r σ', Q v r → I j σ' → kk (ds ++ r) σ') → ifs ρ σ fun t σ' => iK t (body ds ρ σ' kk) (kk ds σ'))
    (z : ∀ r σ', Outs Q l r → I j σ' → k (ds ++ r) σ') : kLoopC st bnd ifs body l ds σ k := by
  unfold kLoopC
  exact loopC0_ok Q I c hst H hc l j ds σ k hp i hb z
theorem outs_fn {f : V → List V} : ∀ {l r : List V}, Outs (fun v r => r = f v) l r → r = l.flatMap f
  | [], r, h => h
  | v :: l, r, ⟨a, b, h1, h2, h3⟩ => by rw [List.flatMap_cons, ← outs_fn h2, ← h1]; exact h3
theorem outs_sub {f : V → List V} : ∀ {l r : List V}, Outs (fun v r => r.Sublist (f v)) l r → r.Sublist (l.flatMap f)
  | [], r, h => by cases (h : r = []); exact List.Sublist.refl _
  | v :: l, r, ⟨a, b, h1, h2, h3⟩ => by rw [List.flatMap_cons, h3]; exact h1.append (outs_sub h2)
theorem loopF_ok {P : V → Prop} (f : V → List V) (I : St → Prop) (c : Nat) {l ds : List V} {σ : St} {k : List V → St → Prop} (hp : ∀ v ∈ l, P v) (i : I σ) (hb : ds.length + l.length * c ≤ capL) (hst : ∀ σ, I σ → st σ = true) (hc : ∀ v, (f v).length ≤ c)
    (H : ∀ v, P v → ∃ ρ, bnd v = some ρ ∧ ∀ σ ds (kk : List V → St → Prop), I σ → ds.length + c ≤ capL → (∀ σ', I σ' → kk (ds ++ f v) σ') → ifs ρ σ fun t σ' => iK t (body ds ρ σ' kk) (kk ds σ'))
    (z : ∀ σ', I σ' → k (ds ++ l.flatMap f) σ') : kLoopC st bnd ifs body l ds σ k :=
  loopC_ok (fun v r => r = f v) (fun _ => I) c 0 hp i hb (fun _ => hst) (fun v r e => e ▸ hc v) (fun v p => (H v p).elim fun ρ h => ⟨ρ, h.1, fun j σ ds kk i b z => h.2 σ ds kk i b fun σ' i' => z _ σ' rfl i'⟩) fun r σ' o i' => outs_fn o ▸ z σ' i'
end
theorem pyIn_i {k : V} {l : List V} (hk : eqOk 24 k = true) (hl : ∀ y ∈ l, eqOk 24 y = true) : pyIn k l = some (l.any fun y => V.beq y k) :=
  if_pos (List.all_eq_true.mpr fun y hy => by unfold pyEq; rw [hl y hy, hk]; rfl)
theorem in_i {k : V} {l : List V} (σ : St) (hk : eqOk 24 k = true) (hl : ∀ y ∈ l, eqOk 24 y = true) : inE σ k (.list l) = some (l.any fun y => V.beq y k) := pyIn_i hk hl
theorem notIn_i {k : V} {l : List V} (σ : St) (hk : eqOk 24 k = true) (hl : ∀ y ∈ l, eqOk 24 y = true) : (inE σ k (.list l)).map (!·) = some (!l.any fun y => V.beq y k) := by rw [in_i σ hk hl]; rfl
theorem add_i {a b : List V} (σ : St) (h : (a ++ b).length ≤ capL) : binE σ .add (.list a) (.list b) = some (.list (a ++ b)) := by
  show (okLen (a ++ b)).map V.list = _
  rw [okLen_i h]; rfl
theorem srt_i {c : Nat} {l : List V} (σ : St) (h : Rs c l) (n : l.Nodup) : biE σ .sorted [.list l] = some (.list (sortB l)) := if_pos (by rw [h.all, nodV_i n]; rfl)
theorem sset_i {c : Nat} {l : List V} (σ : St) (h : Rs c l) (n : l.length ≤ capL) : biE σ .sortedSet [.list l] = some (.list (sortB l)) := if_pos ⟨h.all, n⟩
end Mine

namespace Mine
open PySem
noncomputable def hd0 (v : V) : V := (itemE [] v (.int 0)).getD .none
noncomputable def lst (v : V) : V := (itemE [] v (.int (-1))).getD .none
noncomputable def tk1 (v : V) : V := (sliceE v .none (.int 1)).getD .none
noncomputable def lst1 (v : V) : V := (sliceE v (.int (-1)) .none).getD .none
noncomputable def cat (v w : V) : V := (binE [] .add v w).getD .none
noncomputable def jn (v w : V) : V := cat ((sliceE v .none (.int (-1))).getD .none) ((sliceE w (.int 1) .none).getD .none)
theorem fl_len {f : V → List V} {c : Nat} (h : ∀ v, (f v).length ≤ c) : ∀ l : List V, (l.flatMap f).length ≤ l.length * c
  | [] => Nat.zero_le _
  | v :: l => by rw [List.flatMap_cons, List.length_append, List.length_cons, Nat.succ_mul, Nat.add_comm]; exact Nat.add_le_add (fl_len h l) (h v)
theorem cond_len {p : Bool} {v : V} : (cond p [v] []).length ≤ 1 := by cases p <;> first | exact Nat.le_refl 1 | exact Nat.zero_le 1
theorem mem_sel {p : V → Bool} {g : V → V} {l : List V} {x : V} (h : x ∈ l.flatMap fun v => cond (p v) [g v] []) : ∃ v ∈ l, p v = true ∧ x = g v :=
  (List.mem_flatMap.mp h).elim fun v q => ⟨v, q.1, by
    cases e : p v with
    | true => rw [e] at q; exact ⟨rfl, List.mem_singleton.mp q.2⟩
    | false => rw [e] at q; cases q.2⟩
theorem sel_mem {p : V → Bool} {g : V → V} {l : List V} {v : V} (hv : v ∈ l) (h : p v = true) : g v ∈ l.flatMap fun v => cond (p v) [g v] [] := List.mem_flatMap.mpr ⟨v, hv, by rw [h]; exact List.mem_singleton.mpr rfl⟩
theorem Rs.sel {c : Nat} {p : V → Bool} {l : List V} (h : Rs c l) : Rs c (l.flatMap fun v => cond (p v) [v] []) := fun x m => (mem_sel (g := id) m).elim fun v q => q.2.2 ▸ h v q.1
theorem le1 {n m : Nat} (h : n + (m + 1) ≤ capL) : decide (n ≤ capL) = true := decide_eq_true (Nat.le_trans (Nat.le_add_right ..) h)
namespace P5
noncomputable def m_add : X := (.bin .add (.var 1) (.var 2))
noncomputable def m_and : X := (.comp (.gen (.one 3) (.val (.var 1)) [(.cmp .eq (.cmp .in_ (.var 3) (.var 2)) (.cmp .in_ (.var 0) (.tup [(.cst (.str 39)), (.cst (.str 1014571372654983381109))])))] (.elt (.var 3))))
noncomputable def m_ovr : X := (.bin .add (.var 2) (.comp (.gen (.one 4) (.val (.var 1)) [(.cmp .notIn (.item (.var 4) (.cst (.int 0))) (.comp (.gen (.one 5) (.val (.var 2)) [] (.elt (.item (.var 5) (.cst (.int 0)))))))] (.elt (.var 4)))))
noncomputable def m_dom : X := (.comp (.gen (.one 6) (.val (.var 2)) [(.cmp .in_ (.sl (.var 6) (.cst .none) (.cst (.int 1))) (.var 1))] (.elt (.var 6))))
noncomputable def m_ran : X := (.comp (.gen (.one 7) (.val (.var 1)) [(.cmp .in_ (.sl (.var 7) (.cst (.int (-1))) (.cst .none)) (.var 2))] (.elt (.var 7))))
noncomputable def m_prod : X := (.comp (.gen (.one 8) (.val (.var 1)) [] (.gen (.one 9) (.val (.var 2)) [] (.elt (.bin .add (.var 8) (.var 9))))))
noncomputable def m_dot : X := (.comp (.gen (.one 10) (.val (.var 1)) [] (.gen (.one 11) (.val (.var 2)) [(.cmp .eq (.item (.var 10) (.cst (.int (-1)))) (.item (.var 11) (.cst (.int 0))))] (.elt (.bin .add (.sl (.var 10) (.cst .none) (.cst (.int (-1)))) (.sl (.var 11) (.cst (.int 1)) (.cst .none)))))))
noncomputable def Mix (op : V) (a b r : List V) : Prop := ∀ (T : TabK) (σ : St) (K : V → St → Prop), K (.list r) σ → kSs prog T f_law_mixed.body (enter f_law_mixed [op, .list a, .list b]) σ (outK K)
noncomputable def menv (op : V) (a b : List V) : REnv := [some op, some (.list a), some (.list b), none, none, none, none, none, none, none, none, none]
noncomputable abbrev Ops := List Nat
variable {a b : List V} {c : Nat} {T : TabK} {σ : St} {K : V → St → Prop} {op : V}
theorem mix_add (h : a.length ≤ 40) (h2 : b.length ≤ 40) (hop : op = .str 44 ∨ op = .str 2282452971227182165890433135) : Mix op a b (a ++ b) := fun T σ K hk => by
  have w : kE prog T m_add (menv op a b) σ K := oK_i _ (add_i σ (by rw [List.length_append]; exact Nat.le_trans (Nat.add_le_add h h2) (by decide))) hk
  rcases hop with rfl | rfl <;> exact w
theorem cap30 {n c : Nat} (h : n ≤ 40) (hc : c ≤ 40) : 0 + n * c ≤ capL := by rw [Nat.zero_add]; exact Nat.le_trans (Nat.mul_le_mul h hc) (by decide)
theorem mix_and {fl : Bool} (ha : Rs c a) (hb : Rs c b) (h : a.length ≤ 40) (hop : if fl = true then op = .str 39 ∨ op = .str 1014571372654983381109 else op = .str 46 ∨ op = .str 2127710420199671437499302004) : Mix op a b (a.flatMap fun v => cond ((b.any fun y => V.beq y v) == fl) [v] []) := fun T σ K hk => by
  have w : pyIn op [.str 39, .str 1014571372654983381109] = some fl → kE prog T m_and (menv op a b) σ K := fun hf => by
    refine loopF_ok (P := Rc c) (fun v => cond ((b.any fun y => V.beq y v) == fl) [v] []) (σ = ·) 1 ha rfl (cap30 h (by decide)) (fun _ _ => rfl) (fun v => cond_len) (fun v hv => ⟨_, rfl, fun σ ds kk i q z => ?_⟩) fun σ' i => i ▸ hk
    conv => whnf
    refine oK_i _ (in_i σ hv.eq fun y hy => (hb y hy).eq) ?_
    conv => whnf
    refine oK_i _ hf ?_
    have z := z σ i
    generalize (b.any fun y => V.beq y v) = t at z ⊢
    cases t <;> cases fl <;> first | exact bK_i (le1 (m := 0) q) z | exact ap0 (p := fun l => kk l σ) z
  cases fl with
  | true => rcases (hop : op = .str 39 ∨ op = .str 1014571372654983381109) with rfl | rfl <;> exact w rfl
  | false => rcases (hop : op = .str 46 ∨ op = .str 2127710420199671437499302004) with rfl | rfl <;> exact w rfl
theorem mix_dom (ha : Rs 1 a) (hb : Rs 2 b) (h : b.length ≤ 40) (hop : op = .str 127926331 ∨ op = .str 1895596653610251016640397413) : Mix op a b (b.flatMap fun v => cond (a.any fun y => V.beq y (tk1 v)) [v] []) := fun T σ K hk => by
  have w : kE prog T m_dom (menv op a b) σ K := by
    refine loopF_ok (P := Rc 2) (fun v => cond (a.any fun y => V.beq y (tk1 v)) [v] []) (σ = ·) 1 hb rfl (cap30 h (by decide)) (fun _ _ => rfl) (fun v => cond_len) (fun v hv => ?_) fun σ' i => i ▸ hk
    obtain ⟨x, y, rfl, _⟩ := R2 hv
    refine ⟨_, rfl, fun σ ds kk i q z => ?_⟩
    conv => whnf
    refine oK_i _ (in_i (k := tk1 (.tup [.int x, .int y])) σ rfl fun y hy => (ha y hy).eq) ?_
    have z := z σ i
    generalize (a.any fun w => V.beq w (tk1 (.tup [.int x, .int y]))) = t at z ⊢
    cases t <;> first | exact bK_i (le1 (m := 0) q) z | exact ap0 (p := fun l => kk l σ) z
  rcases hop with rfl | rfl <;> exact w
theorem mix_ran (ha : Rs 2 a) (hb : Rs 1 b) (h : a.length ≤ 40) (hop : op = .str 123732031 ∨ op = .str 4015919074490936809546431789531237) : Mix op a b (a.flatMap fun v => cond (b.any fun y => V.beq y (lst1 v)) [v] []) := fun T σ K hk => by
  have w : kE prog T m_ran (menv op a b) σ K := by
    refine loopF_ok (P := Rc 2) (fun v => cond (b.any fun y => V.beq y (lst1 v)) [v] []) (σ = ·) 1 ha rfl (cap30 h (by decide)) (fun _ _ => rfl) (fun v => cond_len) (fun v hv => ?_) fun σ' i => i ▸ hk
    obtain ⟨x, y, rfl, _⟩ := R2 hv
    refine ⟨_, rfl, fun σ ds kk i q z => ?_⟩
    conv => whnf
    refine oK_i _ (in_i (k := lst1 (.tup [.int x, .int y])) σ rfl fun y hy => (hb y hy).eq) ?_
    have z := z σ i
    generalize (b.any fun w => V.beq w (lst1 (.tup [.int x, .int y]))) = t at z ⊢
    cases t <;> first | exact bK_i (le1 (m := 0) q) z | exact ap0 (p := fun l => kk l σ) z
  rcases hop with rfl | rfl <;> exact w
theorem mix_ovr (ha : Rs 2 a) (hb : Rs 2 b) (h : a.length ≤ 40) (h2 : b.length ≤ 40) (hop : op = .str 92274732 ∨ op = .str 19981477821287991846518861117233156356625662054) :
    Mix op a b (b ++ a.flatMap fun v => cond (!(b.flatMap fun y => [hd0 y]).any fun y => V.beq y (hd0 v)) [v] []) := fun T σ K hk => by
  have hh : ∀ y ∈ (b.flatMap fun y => [hd0 y]), eqOk 24 y = true := fun y hy => (List.mem_flatMap.mp hy).elim fun v q => by
    obtain ⟨x, z, rfl, _⟩ := R2 (hb v q.1)
    rw [List.mem_singleton.mp q.2]; rfl
  have w : kE prog T m_ovr (menv op a b) σ K := by
    refine loopF_ok (P := Rc 2) (fun v => cond (!(b.flatMap fun y => [hd0 y]).any fun y => V.beq y (hd0 v)) [v] []) (σ = ·) 1 ha rfl (cap30 h (by decide)) (fun _ _ => rfl) (fun v => cond_len) (fun v hv => ?_) fun σ' i => i ▸ ?_
    · obtain ⟨x, y, rfl, _⟩ := R2 hv
      refine ⟨_, rfl, fun σ ds kk i q z => ?_⟩
      conv => whnf
      refine loopF_ok (P := Rc 2) (fun v => [hd0 v]) (σ = ·) 1 hb rfl (cap30 h2 (by decide)) (fun _ _ => rfl) (fun v => Nat.le_refl 1) (fun v hv => ?_) fun σ' i' => i' ▸ ?_
      · obtain ⟨x', y', rfl, _⟩ := R2 hv
        exact ⟨_, rfl, fun σ ds kk i q z => bK_i (le1 (m := 0) q) (z σ i)⟩
      · conv => whnf
        refine oK_i _ (notIn_i (k := hd0 (.tup [.int x, .int y])) (l := b.flatMap fun y => [hd0 y]) σ rfl hh) ?_
        have z := z σ i
        generalize ((b.flatMap fun y => [hd0 y]).any fun w => V.beq w (hd0 (.tup [.int x, .int y]))) = t at z ⊢
        cases t <;> first | exact bK_i (le1 (m := 0) q) z | exact ap0 (p := fun l => kk l σ) z
    · refine oK_i _ (add_i σ ?_) hk
      rw [List.length_append]
      exact Nat.le_trans (Nat.add_le_add h2 (Nat.le_trans (fl_len (fun v => cond_len) a) (Nat.mul_le_mul_right 1 h))) (by decide)
  rcases hop with rfl | rfl <;> exact w
theorem mix_prod (ha : Rs 1 a) (hb : Rs 1 b) (h : a.length ≤ 40) (h2 : b.length ≤ 40) : Mix (.str 9612981530472886828724840677988351606901) a b (a.flatMap fun v => b.flatMap fun w => [cat v w]) := fun T σ K hk => by
  have w : kE prog T m_prod (menv (.str 9612981530472886828724840677988351606901) a b) σ K := by
    refine loopF_ok (P := Rc 1) (fun v => b.flatMap fun w => [cat v w]) (σ = ·) 40 ha rfl (cap30 h (by decide)) (fun _ _ => rfl) (fun v => Nat.le_trans (fl_len (f := fun w => [cat v w]) (c := 1) (fun v => Nat.le_refl 1) b) (Nat.mul_le_mul_right 1 h2)) (fun v hv => ?_) fun σ' i => i ▸ hk
    obtain ⟨x, rfl, _⟩ := R1 hv
    refine ⟨_, rfl, fun σ ds kk i q z => ?_⟩
    conv => whnf
    refine loopF_ok (P := Rc 1) (fun w => [cat (.tup [.int x]) w]) (σ = ·) 1 hb rfl (Nat.le_trans (Nat.add_le_add_left (Nat.mul_le_mul_right 1 h2) _) q) (fun _ _ => rfl) (fun v => Nat.le_refl 1) (fun v hv => ?_) fun σ' i' => z σ' (i.trans i')
    obtain ⟨y, rfl, _⟩ := R1 hv
    exact ⟨_, rfl, fun σ ds kk i q z => bK_i (le1 (m := 0) q) (z σ i)⟩
  exact w
theorem mix_dot12 (ha : Rs 1 a) (hb : Rs 2 b) (h : a.length ≤ 40) (h2 : b.length ≤ 40) (hop : op = .str 47 ∨ op = .str 986901300524892553327) : Mix op a b (a.flatMap fun v => b.flatMap fun w => cond (V.beq (lst v) (hd0 w)) [jn v w] []) := fun T σ K hk => by
  have w : kE prog T m_dot (menv op a b) σ K := by
    refine loopF_ok (P := Rc 1) (fun v => b.flatMap fun w => cond (V.beq (lst v) (hd0 w)) [jn v w] []) (σ = ·) 40 ha rfl (cap30 h (by decide)) (fun _ _ => rfl) (fun v => Nat.le_trans (fl_len (c := 1) (fun v => cond_len) b) (Nat.mul_le_mul_right 1 h2)) (fun v hv => ?_) fun σ' i => i ▸ hk
    obtain ⟨x, rfl, _⟩ := R1 hv
    refine ⟨_, rfl, fun σ ds kk i q z => ?_⟩
    conv => whnf
    refine loopF_ok (P := Rc 2) (fun w => cond (V.beq (lst (.tup [.int x])) (hd0 w)) [jn (.tup [.int x]) w] []) (σ = ·) 1 hb rfl (Nat.le_trans (Nat.add_le_add_left (Nat.mul_le_mul_right 1 h2) _) q) (fun _ _ => rfl) (fun v => cond_len) (fun v hv => ?_) fun σ' i' => z σ' (i.trans i')
    obtain ⟨y, y', rfl, _⟩ := R2 hv
    refine ⟨_, rfl, fun σ ds kk i q z => ?_⟩
    have z := z σ i
    cases e : V.beq (lst (.tup [.int x])) (hd0 (.tup [.int y, .int y'])) <;> rw [e] at z <;> conv => whnf
    · exact iK_f e (ap0 (p := fun l => kk l σ) z)
    · exact iK_t e (bK_i (le1 (m := 0) q) z)
  rcases hop with rfl | rfl <;> exact w
theorem mix_dot21 (ha : Rs 2 a) (hb : Rs 1 b) (h : a.length ≤ 40) (h2 : b.length ≤ 40) (hop : op = .str 47 ∨ op = .str 986901300524892553327) : Mix op a b (a.flatMap fun v => b.flatMap fun w => cond (V.beq (lst v) (hd0 w)) [jn v w] []) := fun T σ K hk => by
  have w : kE prog T m_dot (menv op a b) σ K := by
    refine loopF_ok (P := Rc 2) (fun v => b.flatMap fun w => cond (V.beq (lst v) (hd0 w)) [jn v w] []) (σ = ·) 40 ha rfl (cap30 h (by decide)) (fun _ _ => rfl) (fun v => Nat.le_trans (fl_len (c := 1) (fun v => cond_len) b) (Nat.mul_le_mul_right 1 h2)) (fun v hv => ?_) fun σ' i => i ▸ hk
    obtain ⟨x, x', rfl, _⟩ := R2 hv
    refine ⟨_, rfl, fun σ ds kk i q z => ?_⟩
    conv => whnf
    refine loopF_ok (P := Rc 1) (fun w => cond (V.beq (lst (.tup [.int x, .int x'])) (hd0 w)) [jn (.tup [.int x, .int x']) w] []) (σ = ·) 1 hb rfl (Nat.le_trans (Nat.add_le_add_left (Nat.mul_le_mul_right 1 h2) _) q) (fun _ _ => rfl) (fun v => cond_len) (fun v hv => ?_) fun σ' i' => z σ' (i.trans i')
    obtain ⟨y, rfl, _⟩ := R1 hv
    refine ⟨_, rfl, fun σ ds kk i q z => ?_⟩
    have z := z σ i
    cases e : V.beq (lst (.tup [.int x, .int x'])) (hd0 (.tup [.int y])) <;> rw [e] at z <;> conv => whnf
    · exact iK_f e (ap0 (p := fun l => kk l σ) z)
    · exact iK_t e (bK_i (le1 (m := 0) q) z)
  rcases hop with rfl | rfl <;> exact w
end P5
end Mine

namespace Mine
open PySem
section
variable {σ : St} {f k : List V} {v : V}
theorem set_end {α : Type} {l : List α} {x y : α} : (l ++ [x]).set l.length y = l ++ [y] := by rw [List.set_append_right _ _ (Nat.le_refl _), Nat.sub_self]; rfl
theorem list_at {n : Nat} (h : σ[n]? = some (.list f)) : asList σ (.loc n) = some f := by
  show locL σ[n]? = _
  rw [h]; rfl
theorem len_at {n : Nat} (h : σ[n]? = some (.list f)) (hz : f.length ≤ capL) : biE σ .len [.loc n] = some (.int f.length) := by
  show ((asList σ (.loc n)).bind okLen).map (fun l => V.int l.length) = _
  rw [list_at h]
  show (okLen f).map _ = _
  rw [okLen_i hz]; rfl
theorem idx_of_at {l : List V} {k : Nat} (h : l[k]? = some v) (hl : l.length ≤ 1000000) : ((idx l.length k).bind fun j => l[j]?) = some v := idx_i h hl []
theorem item_at {n j : Nat} (h : σ[n]? = some (.list f)) (hv : f[j]? = some v) (hz : f.length ≤ capL) : itemE σ (.loc n) (.int j) = some v := by
  show ((asList σ (.loc n)).bind fun l => (idx l.length j).bind fun j => l[j]?) = _
  rw [list_at h]
  exact idx_of_at hv hz
theorem notIn_at {n : Nat} (h : σ[n]? = some (.list f)) (hk : eqOk 24 v = true) (hl : ∀ y ∈ f, eqOk 24 y = true) : (inE σ v (.loc n)).map (!·) = some (!f.any fun y => V.beq y v) := by
  unfold inE
  rw [list_at h]
  show (pyIn v f).map (!·) = _
  rw [pyIn_i hk hl]; rfl
theorem con_at {n : Nat} {m : Mth} (h : σ[n]? = some (.list f)) (hm : conO m (some (.list [])) = true) : isCon m (.loc n) σ = true := by
  show conO m σ[n]? = true
  rw [h]
  cases m <;> first | rfl | exact absurd hm Bool.false_ne_true
theorem ext_end (hz : (f ++ k).length ≤ capL) : mthE .ext (.loc σ.length) (.list k) (σ ++ [.list f]) = some (σ ++ [.list (f ++ k)]) := by
  show mthO (σ ++ [.list f]) (.list k) σ.length .ext (σ ++ [.list f])[σ.length]? = _
  rw [at_end]
  show (okLen (f ++ k)).map (fun l => (σ ++ [SObj.list f]).set σ.length (.list l)) = _
  rw [okLen_i hz]
  exact congrArg some set_end
theorem app_end (hz : (f ++ [v]).length ≤ capL) : mthE .app (.loc σ.length) v (σ ++ [.list f]) = some (σ ++ [.list (f ++ [v])]) := by
  show mthO (σ ++ [.list f]) v σ.length .app (σ ++ [.list f])[σ.length]? = _
  rw [at_end]
  show (okLen (f ++ [v])).map (fun l => (σ ++ [SObj.list f]).set σ.length (.list l)) = _
  rw [okLen_i hz]
  exact congrArg some set_end
theorem sel_map {p : V → Bool} {g : V → V} : ∀ l : List V, (l.flatMap fun v => cond (p v) [g v] []) = (l.filter p).map g
  | [] => rfl
  | v :: l => by
    rw [List.flatMap_cons, List.filter_cons, sel_map l]
    cases p v <;> rfl
end
namespace P5
variable {l found : List V} {a b : Int} {σ : St}
noncomputable def extP (found : List V) (a b : Int) (v : V) : Bool := V.beq (.int b) (hd0 v) && !(found.any fun y => V.beq y (.tup [.int a, lst v]))
noncomputable def extG (a : Int) (v : V) : V := .tup [.int a, lst v]
noncomputable def ext1 (l found : List V) (a b : Int) : List V := l.flatMap fun v => cond (extP found a b v) [extG a v] []
theorem ext_ok (hl : Rs 2 l) (nl : l.Nodup) (hf : Rs 2 found) (nf : found.Nodup) (ha : [a] ∈ rowsI) : Rs 2 (found ++ ext1 l found a b) ∧ (found ++ ext1 l found a b).Nodup := by
  have hm : ∀ v ∈ ext1 l found a b, Rc 2 v ∧ v ∉ found := fun v hv => by
    obtain ⟨w, hw, hp, rfl⟩ := mem_sel hv
    obtain ⟨c, d, rfl, hr⟩ := R2 (hl w hw)
    refine ⟨rc2 (row_cat ha (row_fst hr).2), fun m => ?_⟩
    have q := (Bool.and_eq_true_iff.mp hp).2
    rw [List.any_eq_true.mpr ⟨_, m, beqs_rfl [a, d]⟩] at q
    exact absurd q Bool.false_ne_true
  refine ⟨hf.app fun v hv => (hm v hv).1, List.nodup_append.mpr ⟨nf, ?_, fun x hx y hy e => (hm y hy).2 (e ▸ hx)⟩⟩
  unfold ext1
  rw [sel_map]
  refine List.pairwise_map.mpr (List.Pairwise.imp_of_mem (fun {x y} hx hy hn e => ?_) (nl.filter _))
  obtain ⟨hx, px⟩ := List.mem_filter.mp hx
  obtain ⟨hy, py⟩ := List.mem_filter.mp hy
  obtain ⟨c, d, rfl, _⟩ := R2 (hl x hx)
  obtain ⟨c', d', rfl, _⟩ := R2 (hl y hy)
  have e1 : b = c := of_decide_eq_true (Bool.and_eq_true_iff.mp px).1
  have e2 : b = c' := of_decide_eq_true (Bool.and_eq_true_iff.mp py).1
  have e3 : V.tup [.int a, .int d] = .tup [.int a, .int d'] := e
  cases e3
  exact hn (by rw [← e1, ← e2])
theorem steps_go (hl : Rs 2 l) (nl : l.Nodup) : ∀ (j k : Nat) (found : List V), Rs 2 found → found.Nodup → 31 ≤ k + j → ∃ r, Rs 2 r ∧ r.Nodup ∧ ∀ (fu : Nat) (x3 x4 : Option V) (T : TabK) (σ : St) (K : Out → Prop), j < fu →
    (∀ ρ, ρ[1]? = some (some (.loc σ.length)) → K (.next ρ (σ ++ [.list r]))) →
    kWhile0 (fun ρ σ k => kE prog T (.cmp .lt (.var 2) (.bi .len [(.var 1)])) ρ σ fun t σ => oK t.truthy fun t => k t σ) (fun ρ σ k => kSs prog T [.asgT [3, 4] (.item (.var 1) (.var 2)),
      .mth .ext (.var 1) (.comp (.gen (.many [5, 6]) (.val (.var 0)) [(.and [(.cmp .eq (.var 4) (.var 5)), (.cmp .notIn (.tup [(.var 3), (.var 6)]) (.var 1))])] (.elt (.tup [(.var 3), (.var 6)])))),
      .asg (.name 2) (.bin .add (.var 2) (.cst (.int 1)))] ρ σ k) fu [some (.list l), some (.loc σ.length), some (.int k), x3, x4, none, none] (σ ++ [.list found]) K
  | j, k, found, hf, nf, hj => by
    have hz := hf.le nf
    have hc : found.length ≤ capL := Nat.le_trans hz (by decide)
    by_cases hk : k < found.length
    · match j, hj with
      | 0, hj => exact absurd (Nat.lt_of_le_of_lt hj (Nat.lt_of_lt_of_le hk hz)) (by decide)
      | j + 1, hj =>
        obtain ⟨a, b, e, hr⟩ := R2 (hf _ (List.getElem_mem hk))
        have w := ext_ok (b := b) hl nl hf nf (row_fst hr).1
        obtain ⟨r, h1, h2, h3⟩ := steps_go hl nl j (k + 1) _ w.1 w.2 (by omega)
        refine ⟨r, h1, h2, fun fu x3 x4 T σ K hfu z => ?_⟩
        match fu, hfu with
        | fu + 1, hfu =>
          have lz := w.1.le w.2
          conv => whnf
          refine oK_i _ (len_at at_end hc) ?_
          conv => whnf
          refine iK_t (decide_eq_true (Int.ofNat_lt.mpr hk)) ?_
          conv => whnf
          refine oK_i _ (item_at at_end (List.getElem?_eq_getElem hk) hc) ?_
          rw [e]
          conv => whnf
          refine bK_i (con_at at_end rfl) ?_
          conv => whnf
          refine loopF_ok (P := Rc 2) (fun v => cond (extP found a b v) [extG a v] []) (σ ++ [.list found] = ·) 1 hl rfl (cap30 (Nat.le_trans (hl.le nl) (by decide)) (by decide)) (fun _ _ => rfl) (fun v => cond_len) (fun v hv => ?_) fun σ' i => i ▸ ?_
          · obtain ⟨c, d, rfl, _⟩ := R2 hv
            refine ⟨_, rfl, fun σ' ds kk i q z => ?_⟩
            have z := z σ' i
            subst i
            have n2 := notIn_at (σ := σ ++ [.list found]) (v := .tup [.int a, .int d]) at_end rfl fun y hy => (hf y hy).eq
            cases e1 : V.beq (.int b) (.int c) <;> cases e2 : (found.any fun y => V.beq y (.tup [.int a, .int d])) <;> (have e3 : extP found a b (.tup [.int c, .int d]) = (V.beq (.int b) (.int c) && !(found.any fun y => V.beq y (.tup [.int a, .int d]))) := rfl) <;> rw [e1, e2] at e3 <;> rw [e3] at z <;> rw [e2] at n2 <;> conv => whnf
            · exact iK_f e1 (ap0 (p := fun l => kk l _) z)
            · exact iK_f e1 (ap0 (p := fun l => kk l _) z)
            · exact iK_t e1 (oK_i _ n2 (bK_i (le1 (m := 0) q) z))
            · exact iK_t e1 (oK_i _ n2 (ap0 (p := fun l => kk l _) z))
          · conv => whnf
            refine oK_i _ (ext_end (k := ext1 l found a b) (Nat.le_trans lz (by decide))) ?_
            conv => whnf
            exact h3 fu _ _ T σ K (Nat.lt_of_succ_lt_succ hfu) z
    · refine ⟨found, hf, nf, fun fu x3 x4 T σ K hfu z => ?_⟩
      match fu, hfu with
      | fu + 1, hfu =>
        conv => whnf
        refine oK_i _ (len_at at_end hc) ?_
        conv => whnf
        exact iK_f (decide_eq_false fun q => hk (Int.ofNat_lt.mp q)) (z _ rfl)
noncomputable def Stp (l r : List V) : Prop := ∀ (T : TabK) (σ : St) (K : V → St → Prop), K (.loc σ.length) (σ ++ [.list r]) → kSs prog T f_law_steps.body (enter f_law_steps [.list l]) σ (outK K)
theorem steps_ok (hl : Rs 2 l) (nl : l.Nodup) : ∃ r, Rs 2 r ∧ r.length ≤ 40 ∧ Stp l r := by
  obtain ⟨r, h1, h2, h3⟩ := steps_go hl nl 31 0 l hl nl (Nat.le_refl _)
  have lz := hl.le nl
  refine ⟨r, h1, Nat.le_trans (h1.le h2) (by decide), fun T σ K hk => ?_⟩
  conv => whnf
  refine oK_i (.list l) ?_ ?_
  · show (okLen l).map V.list = _
    rw [okLen_i (Nat.le_trans lz (by decide))]; rfl
  conv => whnf
  unfold kWhile
  refine h3 5000 none none T σ _ (by decide) fun ρ e => ?_
  refine oK_i (.loc σ.length) ?_ hk
  show (ρ[1]?).bind id = _
  rw [e]; rfl
end P5
end Mine

namespace Mine
open PySem
theorem add_at {n : Nat} {σ : St} {f k : List V} (h : σ[n]? = some (.list f)) (hz : (f ++ k).length ≤ capL) : binE σ .add (.loc n) (.list k) = some (.list (f ++ k)) := by
  show ((locL σ[n]?).bind fun a => (asLst σ (.list k)).bind fun b => (okLen (a ++ b)).map V.list) = _
  rw [h]
  show (okLen (f ++ k)).map V.list = _
  rw [okLen_i hz]; rfl
theorem pre_get {α : Type} {l k : List α} {n : Nat} {x : α} (p : l <+: k) (h : l[n]? = some x) : k[n]? = some x := p.elim fun t e => by
  rw [← e, List.getElem?_append_left (List.getElem?_eq_some_iff.mp h).1]; exact h
noncomputable abbrev cAll : Nat := 431008786677869
noncomputable def namesN : Nat → List Nat
  | 1 => [66, 69, 84]
  | 2 => [66, 67, 69, 84]
  | _ => [66, 67, 68, 69, 84]
noncomputable def keysN (t : Nat) : List Nat := cAll :: 103 :: namesN t
noncomputable def WAt (t : Nat) (σ : St) (wi : Nat) (w : Nat → List V) : Prop := ∃ d, σ[wi]? = some (.dict d) ∧ ∀ s ∈ keysN t, dget (.str s) d = some (.list (w s))
noncomputable def RAt (t : Nat) (R : V) (nm : Nat → Nat) (w : Nat → List V) : Prop := ∀ (σ : St), ∀ s ∈ 103 :: namesN t, itemE σ R (.int (nm s)) = some (.list (w s))
theorem WAt.get {t wi s : Nat} {σ : St} {w : Nat → List V} (W : WAt t σ wi w) (h : s ∈ keysN t) : itemE σ (.loc wi) (.str s) = some (.list (w s)) := W.elim fun d q => by
  show (locD σ[wi]?).bind (fun d => dget (.str s) d) = _
  rw [q.1]; exact q.2 s h
theorem WAt.pre {t wi : Nat} {σ σ' : St} {w : Nat → List V} (W : WAt t σ wi w) (p : σ <+: σ') : WAt t σ' wi w := W.elim fun d q => ⟨d, pre_get p q.1, q.2⟩
noncomputable def dupL (l : List V) : List V := l.flatMap fun v => [cat v v]
noncomputable def swpL (l : List V) : List V := l.flatMap fun v => [V.tup [lst v, hd0 v]]
theorem one_len {f : V → V} {l : List V} (h : l.length ≤ 40) : (l.flatMap fun v => [f v]).length ≤ 40 := Nat.le_trans (fl_len (f := fun v => [f v]) (c := 1) (fun _ => Nat.le_refl 1) l) (Nat.mul_le_mul_right 1 h)
theorem cap_app {l k : List V} (h : l.length ≤ 40) (h2 : k.length ≤ 40) : (l ++ k).length ≤ capL := by rw [List.length_append]; exact Nat.le_trans (Nat.add_le_add h h2) (by decide)
namespace P5
section
variable {T : TabK} {t wi : Nat} {w : Nat → List V} {R env v u r A B : V} {l a b m : List V}
noncomputable def MnT (T : TabK) (t : Nat) (w : Nat → List V) (wi : Nat) (v : V) (l : List V) : Prop := ∀ (σ : St) (K : V → St → Prop), WAt t σ wi w → (∀ σ', σ <+: σ' → K (.list l) σ') → T.call 80 [v, .loc wi] σ K
noncomputable def RwT (T : TabK) (R env r : V) (l : List V) : Prop := ∀ (σ : St) (K : V → St → Prop), (∀ σ', σ <+: σ' → K (.list l) σ') → T.call 81 [r, R, env] σ K
noncomputable def MixT (T : TabK) (op : V) (a b m : List V) : Prop := ∀ (σ : St) (K : V → St → Prop), K (.list m) σ → T.call 79 [op, .list a, .list b] σ K
noncomputable def StpT (T : TabK) (l r : List V) : Prop := ∀ (σ : St) (K : V → St → Prop), K (.loc σ.length) (σ ++ [.list r]) → T.call 78 [.list l] σ K
noncomputable def MnB (T : TabK) (t : Nat) (w : Nat → List V) (wi : Nat) (v : V) (l : List V) : Prop := ∀ (σ : St) (K : V → St → Prop), WAt t σ wi w → (∀ σ', σ <+: σ' → K (.list l) σ') → kSs prog T f_law_meant.body (enter f_law_meant [v, .loc wi]) σ (outK K)
noncomputable def RwB (T : TabK) (R env r : V) (l : List V) : Prop := ∀ (σ : St) (K : V → St → Prop), (∀ σ', σ <+: σ' → K (.list l) σ') → kSs prog T f_law_rows.body (enter f_law_rows [r, R, env]) σ (outK K)
theorem mn_name {s : Nat} (h : s ∈ keysN t) : MnB T t w wi (.tup [.str 1023794727099668889702, .int 0, .str s]) (w s) := fun σ K W z => by
  conv => whnf
  exact oK_i _ (W.get h) (z σ (List.prefix_refl σ))
theorem all_key : cAll ∈ keysN t := List.mem_cons_self ..
theorem mn_univ : MnB T t w wi (.tup [.str 1088358388532248576119, .int 0]) (w cAll) := fun σ K W z => by
  conv => whnf
  exact oK_i _ (W.get all_key) (z σ (List.prefix_refl σ))
theorem mn_none : MnB T t w wi (.tup [.str 1023794788672322142310, .int 0]) [] := fun σ K W z => z σ (List.prefix_refl σ)
theorem mn_iden (h : Rs 1 (w cAll)) (hz : (w cAll).length ≤ 40) : MnB T t w wi (.tup [.str 977677880109517766767, .int 0]) (dupL (w cAll)) := fun σ K W z => by
  conv => whnf
  refine oK_i _ (W.get all_key) ?_
  conv => whnf
  refine loopF_ok (P := Rc 1) (fun v => [cat v v]) (σ = ·) 1 h rfl (cap30 hz (by decide)) (fun _ _ => rfl) (fun v => Nat.le_refl 1) (fun v hv => ?_) fun σ' i => i ▸ z σ (List.prefix_refl σ)
  obtain ⟨x, rfl, _⟩ := R1 hv
  exact ⟨_, rfl, fun σ ds kk i q z => bK_i (le1 (m := 0) q) (z σ i)⟩
theorem mn_turn (hv : MnT T t w wi v l) (h : Rs 2 l) (hz : l.length ≤ 40) (h2 : Rs 2 (swpL l)) (nd : (swpL l).Nodup) : MnB T t w wi (.tup [.str 247464047, .int 0, .str 127, v]) (sortB (swpL l)) := fun σ K W z => by
  conv => whnf
  refine hv σ _ W fun σ1 p1 => ?_
  conv => whnf
  refine loopF_ok (P := Rc 2) (fun v => [V.tup [lst v, hd0 v]]) (σ1 = ·) 1 h rfl (cap30 hz (by decide)) (fun _ _ => rfl) (fun v => Nat.le_refl 1) (fun v hv => ?_) fun σ' i => i ▸ ?_
  · obtain ⟨x, y, rfl, _⟩ := R2 hv
    exact ⟨_, rfl, fun σ ds kk i q z => bK_i (le1 (m := 0) q) (z σ i)⟩
  · exact oK_i _ (srt_i (c := 2) (l := swpL l) σ1 h2 nd) (z σ1 p1)
theorem mn_clos (hv : MnT T t w wi v l) (hs : StpT T l m) (h : Rs 2 m) (hz : m.length ≤ 40) : MnB T t w wi (.tup [.str 247464047, .int 0, .str 95, v]) (sortB (m ++ [])) := fun σ K W z => by
  conv => whnf
  refine hv σ _ W fun σ1 p1 => ?_
  conv => whnf
  refine hs σ1 _ ?_
  conv => whnf
  refine oK_i _ (add_at (k := []) at_end (cap_app hz (Nat.zero_le _))) ?_
  conv => whnf
  exact oK_i _ (sset_i (c := 2) _ (h.app .nil) (cap_app hz (Nat.zero_le _))) (z _ (p1.trans (List.prefix_append ..)))
theorem mn_star (hw : Rs 1 (w cAll)) (hwz : (w cAll).length ≤ 40) (hv : MnT T t w wi v l) (hs : StpT T l m) (h : Rs 2 m) (hz : m.length ≤ 40) (hd : Rs 2 (dupL (w cAll))) : MnB T t w wi (.tup [.str 247464047, .int 0, .str 43, v]) (sortB (m ++ dupL (w cAll))) := fun σ K W z => by
  have hdz : (dupL (w cAll)).length ≤ 40 := one_len hwz
  conv => whnf
  refine hv σ _ W fun σ1 p1 => ?_
  conv => whnf
  refine hs σ1 _ ?_
  have p2 := p1.trans (List.prefix_append σ1 [SObj.list m])
  conv => whnf
  refine oK_i _ ((W.pre p2).get all_key) ?_
  conv => whnf
  refine loopF_ok (P := Rc 1) (fun v => [cat v v]) (σ1 ++ [SObj.list m] = ·) 1 hw rfl (cap30 hwz (by decide)) (fun _ _ => rfl) (fun v => Nat.le_refl 1) (fun v hv => ?_) fun σ' i => i ▸ ?_
  · obtain ⟨x, rfl, _⟩ := R1 hv
    exact ⟨_, rfl, fun σ ds kk i q z => bK_i (le1 (m := 0) q) (z σ i)⟩
  · conv => whnf
    refine oK_i _ (add_at (k := dupL (w cAll)) at_end (cap_app hz hdz)) ?_
    conv => whnf
    exact oK_i _ (sset_i (c := 2) _ (h.app hd) (cap_app hz hdz)) (z _ p2)
theorem mn_arrow (hv : MnT T t w wi v a) (hu : MnT T t w wi u b) (hm : MixT T (.str 9612981530472886828724840677988351606901) a b m) : MnB T t w wi (.tup [.str 1895596745844028559822159992, .int 0, .str 0, .str 0, v, u]) m := fun σ K W z => by
  conv => whnf
  refine hv σ _ W fun σ1 p1 => ?_
  conv => whnf
  refine hu σ1 _ (W.pre p1) fun σ2 p2 => ?_
  exact hm σ2 _ (z σ2 (p1.trans p2))
theorem mn_bin {op : V} {c : Nat} (hv : MnT T t w wi v a) (hu : MnT T t w wi u b) (hm : MixT T op a b m) (h : Rs c m) (hz : m.length ≤ capL) : MnB T t w wi (.tup [.str 435406826897519, .int 0, op, v, u]) (sortB m) := fun σ K W z => by
  conv => whnf
  refine hv σ _ W fun σ1 p1 => ?_
  conv => whnf
  refine hu σ1 _ (W.pre p1) fun σ2 p2 => ?_
  refine hm σ2 _ ?_
  exact oK_i _ (sset_i σ2 h hz) (z σ2 (p1.trans p2))
theorem mn_box {c : Nat} (hv : MnT T t w wi v a) (hu : MnT T t w wi u b) (hm : MixT T (.str 47) b a m) (h : Rs c m) (hz : m.length ≤ capL) : MnB T t w wi (.tup [.str 435406839480441, .int 0, v, .tup [u]]) (sortB m) := fun σ K W z => by
  conv => whnf
  refine hu σ _ W fun σ1 p1 => ?_
  conv => whnf
  refine hv σ1 _ (W.pre p1) fun σ2 p2 => ?_
  refine hm σ2 _ ?_
  exact oK_i _ (sset_i σ2 h hz) (z σ2 (p1.trans p2))
theorem rw_rel {i : Int} (h : ∀ σ, itemE σ R (.int i) = some (.list l)) : RwB T R env (.tup [.str 505775562686573, .int i]) l := fun σ K z => by
  conv => whnf
  exact oK_i _ (h σ) (z σ (List.prefix_refl σ))
theorem rw_var {x : Nat} (h : ∀ σ, itemE σ env (.str x) = some u) : RwB T R env (.tup [.str 523367740342387, .str x]) [u] := fun σ K z => by
  conv => whnf
  exact oK_i _ (h σ) (z σ (List.prefix_refl σ))
theorem rw_none : RwB T R env (.tup [.str 1023794788672322142310, .int 1]) [] := fun σ K z => z σ (List.prefix_refl σ)
noncomputable def iden5 : List V := ((List.range 5).map fun (k : Nat) => V.int k).flatMap fun v => [.tup [v, v]]
theorem rw_iden : RwB T R env (.tup [.str 977677880109517766767]) iden5 := fun σ K z => by
  conv => whnf
  refine loopF_ok (P := fun _ => True) (fun v => [.tup [v, v]]) (σ = ·) 1 (fun _ _ => trivial) rfl (by decide) (fun _ _ => rfl) (fun v => Nat.le_refl 1) (fun v hv => ?_) fun σ' i => i ▸ z σ (List.prefix_refl σ)
  exact ⟨_, rfl, fun σ ds kk i q z => bK_i (le1 (m := 0) q) (z σ i)⟩
theorem rw_turn (hv : RwT T R env r l) (h : Rs 2 l) (hz : l.length ≤ 40) (h2 : Rs 2 (swpL l)) (nd : (swpL l).Nodup) : RwB T R env (.tup [.str 1079135047281738252399, r]) (sortB (swpL l)) := fun σ K z => by
  conv => whnf
  refine hv σ _ fun σ1 p1 => ?_
  conv => whnf
  refine loopF_ok (P := Rc 2) (fun v => [V.tup [lst v, hd0 v]]) (σ1 = ·) 1 h rfl (cap30 hz (by decide)) (fun _ _ => rfl) (fun v => Nat.le_refl 1) (fun v hv => ?_) fun σ' i => i ▸ ?_
  · obtain ⟨x, y, rfl, _⟩ := R2 hv
    exact ⟨_, rfl, fun σ ds kk i q z => bK_i (le1 (m := 0) q) (z σ i)⟩
  · exact oK_i _ (srt_i (c := 2) (l := swpL l) σ1 h2 nd) (z σ1 p1)
theorem rw_clos (hv : RwT T R env r l) (hs : StpT T l m) (h : Rs 2 m) (hz : m.length ≤ 40) : RwB T R env (.tup [.str 8507063594590921578787178697020942581862, r]) (sortB (m ++ [])) := fun σ K z => by
  conv => whnf
  refine hv σ _ fun σ1 p1 => ?_
  conv => whnf
  refine hs σ1 _ ?_
  conv => whnf
  refine oK_i _ (add_at (k := []) at_end (cap_app hz (Nat.zero_le _))) ?_
  conv => whnf
  exact oK_i _ (sset_i (c := 2) _ (h.app .nil) (cap_app hz (Nat.zero_le _))) (z _ (p1.trans (List.prefix_append ..)))
noncomputable def heads : List Nat := [2282452971227182165890433135, 1014571372654983381109, 2127710420199671437499302004, 986901300524892553327, 19981477821287991846518861117233156356625662054, 1895596653610251016640397413, 4015919074490936809546431789531237, 9612981530472886828724840677988351606901]
theorem rw_ff {σ : St} {K : V → St → Prop} : ∀ h ∈ heads, kE prog T (.bi .sortedSet [(.call 79 [(.var 3), (.call 81 [(.item (.var 0) (.cst (.int 1))), (.var 1), (.var 2)]), (.call 81 [(.item (.var 0) (.cst (.int 2))), (.var 1), (.var 2)])])]) [some (.tup [.str h, A, B]), some R, some env, some (.str h), none, none, none, none] σ K →
    kSs prog T f_law_rows.body (enter f_law_rows [.tup [.str h, A, B], R, env]) σ (outK K) :=
  List.forall_mem_cons.mpr ⟨id, List.forall_mem_cons.mpr ⟨id, List.forall_mem_cons.mpr ⟨id, List.forall_mem_cons.mpr ⟨id, List.forall_mem_cons.mpr ⟨id, List.forall_mem_cons.mpr ⟨id, List.forall_mem_cons.mpr ⟨id, List.forall_mem_cons.mpr ⟨id, List.forall_mem_nil _⟩⟩⟩⟩⟩⟩⟩⟩
theorem rw_bin {h c : Nat} (hh : h ∈ heads) (ha : RwT T R env A a) (hb : RwT T R env B b) (hm : MixT T (.str h) a b m) (hr : Rs c m) (hz : m.length ≤ capL) : RwB T R env (.tup [.str h, A, B]) (sortB m) := fun σ K z => rw_ff h hh (by
  conv => whnf
  refine ha σ _ fun σ1 p1 => ?_
  conv => whnf
  refine hb σ1 _ fun σ2 p2 => ?_
  refine hm σ2 _ ?_
  exact oK_i _ (sset_i σ2 hr hz) (z σ2 (p1.trans p2)))
end
end P5
end Mine

namespace Mine
open PySem
section
variable {c : Nat} {l a b : List V}
theorem one_map {f : V → V} : ∀ l : List V, (l.flatMap fun v => [f v]) = l.map f
  | [] => rfl
  | v :: l => congrArg (f v :: ·) (one_map l)
theorem dup_RS (h : RS 1 l) : RS 2 (dupL l) := by
  unfold dupL
  rw [one_map]
  refine .of_up (fun v hv => ?_) (List.pairwise_map.mpr (h.up.imp_of_mem fun {x y} hx hy q => ?_))
  · obtain ⟨x, hx, rfl⟩ := List.mem_map.mp hv
    obtain ⟨a, rfl, m⟩ := R1 (h.ok x hx)
    exact rc2 (row_cat m m)
  · obtain ⟨a, rfl, m⟩ := R1 (h.ok x hx)
    obtain ⟨b, rfl, m2⟩ := R1 (h.ok y hy)
    exact row_lt (row_cat m m) (row_cat m2 m2) (.inl q)
theorem swp_ok (h : RS 2 l) : Rs 2 (swpL l) ∧ (swpL l).Nodup := by
  unfold swpL
  rw [one_map]
  refine ⟨fun v hv => ?_, List.pairwise_map.mpr (h.nd.imp_of_mem fun {x y} hx hy q e => q ?_)⟩
  · obtain ⟨x, hx, rfl⟩ := List.mem_map.mp hv
    obtain ⟨a, b, rfl, m⟩ := R2 (h.ok x hx)
    exact rc2 (row_swp m)
  · obtain ⟨a, b, rfl, m⟩ := R2 (h.ok x hx)
    obtain ⟨a', b', rfl, m2⟩ := R2 (h.ok y hy)
    have e : V.tup [.int b, .int a] = .tup [.int b', .int a'] := e
    cases e; rfl
theorem prod_RS (ha : RS 1 a) (hb : RS 1 b) : RS 2 (a.flatMap fun v => b.flatMap fun w => [cat v w]) := by
  refine .of_up (fun v hv => ?_) (List.pairwise_flatMap.mpr ⟨fun x hx => ?_, ha.up.imp_of_mem fun {x y} hx hy q u hu v hv => ?_⟩)
  · obtain ⟨x, hx, hv⟩ := List.mem_flatMap.mp hv
    obtain ⟨y, hy, hv⟩ := List.mem_flatMap.mp hv
    rw [List.mem_singleton.mp hv]
    obtain ⟨a, rfl, m⟩ := R1 (ha.ok x hx)
    obtain ⟨b, rfl, m2⟩ := R1 (hb.ok y hy)
    exact rc2 (row_cat m m2)
  · rw [one_map]
    obtain ⟨a, rfl, m⟩ := R1 (ha.ok x hx)
    refine List.pairwise_map.mpr (hb.up.imp_of_mem fun {x y} hx hy q => ?_)
    obtain ⟨b, rfl, m2⟩ := R1 (hb.ok x hx)
    obtain ⟨b', rfl, m3⟩ := R1 (hb.ok y hy)
    exact row_lt (row_cat m m2) (row_cat m m3) (.inr ⟨rfl, q⟩)
  · obtain ⟨z, hz, hu⟩ := List.mem_flatMap.mp hu
    obtain ⟨z', hz', hv⟩ := List.mem_flatMap.mp hv
    rw [List.mem_singleton.mp hu, List.mem_singleton.mp hv]
    obtain ⟨a, rfl, m⟩ := R1 (ha.ok x hx)
    obtain ⟨a', rfl, m1⟩ := R1 (ha.ok y hy)
    obtain ⟨b, rfl, m2⟩ := R1 (hb.ok z hz)
    obtain ⟨b', rfl, m3⟩ := R1 (hb.ok z' hz')
    exact row_lt (row_cat m m2) (row_cat m1 m3) (.inl q)
theorem RS.l40 (h : RS c l) : l.length ≤ 40 := Nat.le_trans h.le (by decide)
theorem RS.nil : RS c [] := ⟨.nil, rfl⟩
end
noncomputable def topsN : Nat → List Nat
  | 1 => [66]
  | 2 => [66, 67]
  | _ => [66, 67, 68]
structure WOk (t : Nat) (w : Nat → List V) : Prop where
  all : RS 1 (w cAll)
  one : ∀ s ∈ namesN t, RS 1 (w s)
  fld : RS 2 (w 103)
  un : ∀ v, v ∈ w cAll ↔ ∃ s ∈ 66 :: (topsN t).tail, v ∈ w s
namespace P5
theorem iden5_RS : RS 2 iden5 := by
  have w : (iden5.all fun v => rowOk v && (ikey v).length == 2) = true ∧ iden5.Pairwise fun a b => rkey a < rkey b := by decide +kernel
  refine .of_up (fun v hv => ?_) w.2
  have q := Bool.and_eq_true_iff.mp (List.all_eq_true.mp w.1 v hv)
  obtain ⟨k, hk, rfl⟩ := rowOk_of q.1
  have e := eq_of_beq q.2
  rw [ikey_row] at e
  exact ⟨k, hk, e, rfl⟩
theorem same_mem {a : List V} (h : RS 1 a) (v : V) : (v ∈ iden5.flatMap fun v => cond (a.any fun y => V.beq y (tk1 v)) [v] []) ↔ v ∈ dupL a := by
  have all5 : ∀ x : Int, [x] ∈ rowsI → V.tup [.int x, .int x] ∈ iden5 := fun x hx => by
    have w : (rowsI.all fun k => match k with
      | [x] => iden5.any fun v => V.beq v (.tup [.int x, .int x])
      | _ => true) = true := by decide +kernel
    obtain ⟨y, hy, e⟩ := List.any_eq_true.mp (List.all_eq_true.mp w [x] hx)
    exact beq_eq y e ▸ hy
  constructor
  · intro hv
    obtain ⟨p, hp, q, rfl⟩ := mem_sel (g := id) hv
    obtain ⟨y, hy, e⟩ := List.any_eq_true.mp q
    have e := beq_eq y e
    obtain ⟨k, hk, hp⟩ := List.mem_flatMap.mp hp
    cases List.mem_singleton.mp hp
    have e : y = .tup [k] := e
    obtain ⟨x, rfl, _⟩ := R1 (h.ok y hy)
    cases e
    exact List.mem_flatMap.mpr ⟨_, hy, List.mem_singleton.mpr rfl⟩
  · intro hv
    obtain ⟨y, hy, hv⟩ := List.mem_flatMap.mp hv
    obtain ⟨x, rfl, hx⟩ := R1 (h.ok y hy)
    rw [List.mem_singleton.mp hv]
    exact sel_mem (g := id) (all5 x hx) (List.any_eq_true.mpr ⟨_, hy, beqs_rfl [x]⟩)
theorem call_i {n f : Nat} {d : FDef} {args : List V} {σ : St} {K : V → St → Prop} (hn : 1 ≤ n) (hf : prog.fn f = some d) (hl : args.length = d.params) (h : kSs prog ⟨callK prog (n - 1)⟩ d.body (enter d args) σ (outK K)) : callK prog n f args σ K := by
  obtain ⟨n, rfl⟩ : ∃ m, n = m + 1 := ⟨n - 1, (Nat.sub_add_cancel hn).symm⟩
  exact oK_i d hf (bK_i (decide_eq_true hl) h)
section
variable {t d n : Nat} {w : Nat → List V} {R env v u r A B : V} {l a b m : List V} {nm : Nat → Nat}
noncomputable def Mn (t : Nat) (w : Nat → List V) (d : Nat) (v : V) (l : List V) : Prop := ∀ n, d ≤ n → ∀ wi, MnT ⟨callK prog n⟩ t w wi v l
noncomputable def Rw (R env : V) (d : Nat) (r : V) (l : List V) : Prop := ∀ n, d ≤ n → RwT ⟨callK prog n⟩ R env r l
theorem up1 {d n : Nat} (h : d + 1 ≤ n) : 1 ≤ n := Nat.le_trans (Nat.le_add_left 1 d) h
theorem dn1 {d n : Nat} (h : d + 1 ≤ n) : d ≤ n - 1 := Nat.le_sub_one_of_lt h
theorem Mn.of (h : ∀ n, d ≤ n → ∀ wi, MnB ⟨callK prog n⟩ t w wi v l) : Mn t w (d + 1) v l := fun n hn wi σ K W z => call_i (d := f_law_meant) (up1 hn) rfl rfl (h (n - 1) (dn1 hn) wi σ K W z)
theorem Rw.of (h : ∀ n, d ≤ n → RwB ⟨callK prog n⟩ R env r l) : Rw R env (d + 1) r l := fun n hn σ K z => call_i (d := f_law_rows) (up1 hn) rfl rfl (h (n - 1) (dn1 hn) σ K z)
theorem Mn.up {d' : Nat} (h : Mn t w d v l) (e : d ≤ d') : Mn t w d' v l := fun n hn => h n (Nat.le_trans e hn)
theorem Rw.up {d' : Nat} (h : Rw R env d v l) (e : d ≤ d') : Rw R env d' v l := fun n hn => h n (Nat.le_trans e hn)
theorem Mix.T {op : V} (h : Mix op a b m) (hn : 1 ≤ n) : MixT ⟨callK prog n⟩ op a b m := fun σ K z => call_i (d := f_law_mixed) hn rfl rfl (h _ σ K z)
theorem Stp.T (h : Stp l m) (hn : 1 ≤ n) : StpT ⟨callK prog n⟩ l m := fun σ K z => call_i (d := f_law_steps) hn rfl rfl (h _ σ K z)
noncomputable def MX (op h c d e : Nat) : Prop := h ∈ heads ∧ ∀ a b, RS c a → RS d b → ∃ m, Rs e m ∧ m.length ≤ capL ∧ Mix (.str op) a b m ∧ Mix (.str h) a b m
theorem capL_of {k : Nat} (h : l.length ≤ k) (hk : k ≤ capL) : l.length ≤ capL := Nat.le_trans h hk
theorem mx_add (c : Nat) : MX 44 2282452971227182165890433135 c c c := ⟨List.mem_cons_self .., fun a b ha hb => ⟨a ++ b, ha.ok.app hb.ok, cap_app ha.l40 hb.l40, mix_add ha.l40 hb.l40 (.inl rfl), mix_add ha.l40 hb.l40 (.inr rfl)⟩⟩
theorem sel40 {p : V → Bool} (h : l.length ≤ 40) : (l.flatMap fun v => cond (p v) [v] []).length ≤ capL := Nat.le_trans (fl_len (fun _ => cond_len) l) (Nat.le_trans (Nat.mul_le_mul_right 1 h) (by decide))
theorem mx_and (c : Nat) : MX 39 1014571372654983381109 c c c := ⟨by decide, fun a b ha hb => ⟨_, ha.ok.sel, sel40 ha.l40, mix_and (fl := true) ha.ok hb.ok ha.l40 (.inl rfl), mix_and (fl := true) ha.ok hb.ok ha.l40 (.inr rfl)⟩⟩
theorem mx_sub (c : Nat) : MX 46 2127710420199671437499302004 c c c := ⟨by decide, fun a b ha hb => ⟨_, ha.ok.sel, sel40 ha.l40, mix_and (fl := false) ha.ok hb.ok ha.l40 (.inl rfl), mix_and (fl := false) ha.ok hb.ok ha.l40 (.inr rfl)⟩⟩
theorem mx_ovr : MX 92274732 19981477821287991846518861117233156356625662054 2 2 2 := ⟨by decide, fun a b ha hb => ⟨_, hb.ok.app ha.ok.sel, cap_app hb.l40 (Nat.le_trans (fl_len (fun _ => cond_len) a) (Nat.mul_le_mul_right 1 ha.l40)), mix_ovr ha.ok hb.ok ha.l40 hb.l40 (.inl rfl), mix_ovr ha.ok hb.ok ha.l40 hb.l40 (.inr rfl)⟩⟩
theorem mx_dom : MX 127926331 1895596653610251016640397413 1 2 2 := ⟨by decide, fun a b ha hb => ⟨_, hb.ok.sel, sel40 hb.l40, mix_dom ha.ok hb.ok hb.l40 (.inl rfl), mix_dom ha.ok hb.ok hb.l40 (.inr rfl)⟩⟩
theorem mx_ran : MX 123732031 4015919074490936809546431789531237 2 1 2 := ⟨by decide, fun a b ha hb => ⟨_, ha.ok.sel, sel40 ha.l40, mix_ran ha.ok hb.ok ha.l40 (.inl rfl), mix_ran ha.ok hb.ok ha.l40 (.inr rfl)⟩⟩
theorem dot_len (ha : a.length ≤ 40) (hb : b.length ≤ 40) : (a.flatMap fun v => b.flatMap fun w => cond (V.beq (lst v) (hd0 w)) [jn v w] []).length ≤ capL :=
  Nat.le_trans (fl_len (c := 40) (fun v => Nat.le_trans (fl_len (fun _ => cond_len) b) (Nat.mul_le_mul_right 1 hb)) a) (Nat.le_trans (Nat.mul_le_mul_right 40 ha) (by decide))
theorem mx_dot12 : MX 47 986901300524892553327 1 2 1 := ⟨by decide, fun a b ha hb => ⟨_, fun v hv => by
  obtain ⟨x, hx, hv⟩ := List.mem_flatMap.mp hv
  obtain ⟨y, hy, _, rfl⟩ := mem_sel (g := jn x) hv
  obtain ⟨i, rfl, _⟩ := R1 (ha.ok x hx)
  obtain ⟨j, k, rfl, m⟩ := R2 (hb.ok y hy)
  exact rc1 (row_fst m).2, dot_len ha.l40 hb.l40, mix_dot12 ha.ok hb.ok ha.l40 hb.l40 (.inl rfl), mix_dot12 ha.ok hb.ok ha.l40 hb.l40 (.inr rfl)⟩⟩
theorem mx_dot21 : MX 47 986901300524892553327 2 1 1 := ⟨by decide, fun a b ha hb => ⟨_, fun v hv => by
  obtain ⟨x, hx, hv⟩ := List.mem_flatMap.mp hv
  obtain ⟨y, hy, _, rfl⟩ := mem_sel (g := jn x) hv
  obtain ⟨i, k, rfl, m⟩ := R2 (ha.ok x hx)
  obtain ⟨j, rfl, _⟩ := R1 (hb.ok y hy)
  exact rc1 (row_fst m).1, dot_len ha.l40 hb.l40, mix_dot21 ha.ok hb.ok ha.l40 hb.l40 (.inl rfl), mix_dot21 ha.ok hb.ok ha.l40 hb.l40 (.inr rfl)⟩⟩
end
end P5
end Mine

namespace Mine
open PySem
noncomputable def relV (i : Int) : V := .tup [.str 505775562686573, .int i]
noncomputable def unV (a b : V) : V := .tup [.str 2282452971227182165890433135, a, b]
noncomputable def clV (a : V) : V := .tup [.str 8507063594590921578787178697020942581862, a]
noncomputable def allV (t : Nat) (nm : Nat → Nat) : V := (topsN t).tail.foldl (fun f s => unV f (relV (nm s))) (relV (nm 66))
noncomputable def sameV (t : Nat) (nm : Nat → Nat) : V := .tup [.str 1895596653610251016640397413, allV t nm, .tup [.str 977677880109517766767]]
noncomputable def T3 (t : Nat) : Prop := t = 1 ∨ t = 2 ∨ t = 3
theorem T3.tops {t : Nat} (h : T3 t) : (∀ s ∈ 66 :: (topsN t).tail, s ∈ namesN t) ∧ (topsN t).tail.length ≤ 2 := by
  rcases h with rfl | rfl | rfl <;> decide
theorem ex_cons {x : Nat} {l : List Nat} {p : Nat → Prop} : (∃ s, s ∈ x :: l ∧ p s) ↔ p x ∨ ∃ s, s ∈ l ∧ p s :=
  ⟨fun ⟨s, h, q⟩ => (List.mem_cons.mp h).elim (fun e => .inl (e ▸ q)) fun h => .inr ⟨s, h, q⟩, fun h => h.elim (fun q => ⟨x, List.mem_cons_self .., q⟩) fun ⟨s, h, q⟩ => ⟨s, List.mem_cons_of_mem _ h, q⟩⟩
namespace P5
section
variable {t d n c e f : Nat} {w : Nat → List V} {R env v u r s A B : V} {l a b m : List V} {nm : Nat → Nat}
theorem rw_rels (H : RAt t R nm w) {s : Nat} (h : s ∈ 103 :: namesN t) : Rw R env 1 (relV (nm s)) (w s) := Rw.of (d := 0) fun n _ => rw_rel fun σ => H σ s h
theorem rw_union (hd : 1 ≤ d) (ha : RS c a) (hb : RS c b) (h1 : Rw R env d A a) (h2 : Rw R env d B b) : Rw R env (d + 1) (unV A B) (sortB (a ++ b)) :=
  Rw.of fun n hn => rw_bin (List.mem_cons_self ..) (h1 n hn) (h2 n hn) ((mix_add ha.l40 hb.l40 (.inr rfl)).T (Nat.le_trans hd hn)) (ha.ok.app hb.ok) (cap_app ha.l40 hb.l40)
theorem rw_fold (W : WOk t w) (H : RAt t R nm w) : ∀ (ss : List Nat) (A : V) (a : List V) (d : Nat), (∀ s ∈ ss, s ∈ namesN t) → 1 ≤ d → RS 1 a → Rw R env d A a → ∃ l, RS 1 l ∧ (∀ v, v ∈ l ↔ v ∈ a ∨ ∃ s ∈ ss, v ∈ w s) ∧ Rw R env (d + ss.length) (ss.foldl (fun f s => unV f (relV (nm s))) A) l
  | [], A, a, d, _, _, ra, h => ⟨a, ra, fun v => ⟨.inl, fun h => h.elim id fun ⟨_, m, _⟩ => nomatch m⟩, h⟩
  | s :: ss, A, a, d, hs, hd, ra, h => by
    have hm := hs s (List.mem_cons_self ..)
    have rs := W.one s hm
    obtain ⟨l, h1, h2, h3⟩ := rw_fold W H ss (unV A (relV (nm s))) (sortB (a ++ w s)) (d + 1) (fun x q => hs x (List.mem_cons_of_mem _ q)) (Nat.le_add_left ..) (sort_RS (ra.ok.app rs.ok)) (rw_union hd ra rs h ((rw_rels H (List.mem_cons_of_mem _ hm)).up hd))
    refine ⟨l, h1, fun v => ?_, h3.up (Nat.le_of_eq (by rw [List.length_cons, Nat.add_assoc, Nat.add_comm 1]))⟩
    rw [h2 v, sort_mem (ra.ok.app rs.ok), List.mem_append, ex_cons (p := fun s => v ∈ w s), or_assoc]
theorem rw_all (ht : T3 t) (W : WOk t w) (H : RAt t R nm w) : Rw R env 3 (allV t nm) (w cAll) := by
  have q := ht.tops
  have h66 := q.1 66 (List.mem_cons_self ..)
  obtain ⟨l, h1, h2, h3⟩ := rw_fold (env := env) W H (topsN t).tail (relV (nm 66)) (w 66) 1 (fun s h => q.1 s (List.mem_cons_of_mem _ h)) (Nat.le_refl 1) (W.one 66 h66) (rw_rels H (List.mem_cons_of_mem _ h66))
  have e : l = w cAll := h1.uniq W.all fun v => by rw [h2 v, W.un v, ex_cons (p := fun s => v ∈ w s)]
  exact e ▸ h3.up (Nat.add_le_add_left q.2 1)
theorem rw_same (ht : T3 t) (W : WOk t w) (H : RAt t R nm w) : Rw R env 4 (sameV t nm) (dupL (w cAll)) := by
  have hs : Rs 2 (iden5.flatMap fun v => cond ((w cAll).any fun y => V.beq y (tk1 v)) [v] []) := iden5_RS.ok.sel
  have e := (sort_RS hs).uniq (dup_RS W.all) fun v => (sort_mem hs).trans (same_mem W.all v)
  rw [← e]
  exact Rw.of fun n hn => rw_bin (by decide) (rw_all ht W H n hn) (Rw.of (d := 0) (fun n _ => rw_iden) n (Nat.le_trans (by decide) hn)) ((mix_dom W.all.ok iden5_RS.ok iden5_RS.l40 (.inr rfl)).T (Nat.le_trans (by decide) hn)) hs (sel40 iden5_RS.l40)
noncomputable def Se (t : Nat) (nm : Nat → Nat) (d c : Nat) (v r : V) : Prop := ∀ (w : Nat → List V) (R : V), WOk t w → RAt t R nm w → ∃ l, RS c l ∧ Mn t w (d + 1) v l ∧ ∀ env, Rw R env (2 * d + 4) r l
theorem Se.up {d' : Nat} (h : Se t nm d c v r) (q : d ≤ d') : Se t nm d' c v r := fun w R W H => (h w R W H).elim fun l x => ⟨l, x.1, x.2.1.up (Nat.succ_le_succ q), fun env => (x.2.2 env).up (Nat.add_le_add_right (Nat.mul_le_mul_left 2 q) 4)⟩
theorem f2 (h : 2 * (d + 1) + 3 ≤ n) : 2 * d + 4 ≤ n := Nat.le_of_succ_le h
theorem f4 {k : Nat} (hk : k ≤ 4) : k ≤ 2 * d + 4 := Nat.le_trans hk (Nat.le_add_left 4 _)
theorem se_name {s : Nat} (h : s ∈ namesN t) : Se t nm d 1 (.tup [.str 1023794727099668889702, .int 0, .str s]) (relV (nm s)) := fun w R W H =>
  ⟨w s, W.one s h, (Mn.of (d := 0) fun n _ wi => mn_name (List.mem_cons_of_mem _ (List.mem_cons_of_mem _ h))).up (Nat.le_add_left 1 d), fun env => (rw_rels H (List.mem_cons_of_mem _ h)).up (f4 (by decide))⟩
theorem se_fld : Se t nm d 2 (.tup [.str 1023794727099668889702, .int 0, .str 103]) (relV (nm 103)) := fun w R W H =>
  ⟨w 103, W.fld, (Mn.of (d := 0) fun n _ wi => mn_name (List.mem_cons_of_mem _ (List.mem_cons_self ..))).up (Nat.le_add_left 1 d), fun env => (rw_rels H (List.mem_cons_self ..)).up (f4 (by decide))⟩
theorem se_univ (ht : T3 t) : Se t nm d 1 (.tup [.str 1088358388532248576119, .int 0]) (allV t nm) := fun w R W H =>
  ⟨w cAll, W.all, (Mn.of (d := 0) fun n _ wi => mn_univ).up (Nat.le_add_left 1 d), fun env => (rw_all ht W H).up (f4 (by decide))⟩
theorem se_iden (ht : T3 t) : Se t nm d 2 (.tup [.str 977677880109517766767, .int 0]) (sameV t nm) := fun w R W H =>
  ⟨_, dup_RS W.all, (Mn.of (d := 0) fun n _ wi => mn_iden W.all.ok W.all.l40).up (Nat.le_add_left 1 d), fun env => (rw_same ht W H).up (f4 (by decide))⟩
theorem se_none : Se t nm d 1 (.tup [.str 1023794788672322142310, .int 0]) (.tup [.str 1023794788672322142310, .int 1]) := fun w R W H =>
  ⟨[], .nil, (Mn.of (d := 0) fun n _ wi => mn_none).up (Nat.le_add_left 1 d), fun env => (Rw.of (d := 0) fun n _ => rw_none).up (f4 (by decide))⟩
theorem se_turn (h : Se t nm d 2 v r) : Se t nm (d + 1) 2 (.tup [.str 247464047, .int 0, .str 127, v]) (.tup [.str 1079135047281738252399, r]) := fun w R W H => by
  obtain ⟨l, rl, h1, h2⟩ := h w R W H
  have q := swp_ok rl
  exact ⟨_, sort_RS q.1, Mn.of fun n hn wi => mn_turn (h1 n hn wi) rl.ok rl.l40 q.1 q.2, fun env => Rw.of fun n hn => rw_turn (h2 env n (f2 hn)) rl.ok rl.l40 q.1 q.2⟩
theorem se_clos (h : Se t nm d 2 v r) : Se t nm (d + 1) 2 (.tup [.str 247464047, .int 0, .str 95, v]) (clV r) := fun w R W H => by
  obtain ⟨l, rl, h1, h2⟩ := h w R W H
  obtain ⟨m, rm, lm, hs⟩ := steps_ok rl.ok rl.nd
  exact ⟨_, sort_RS (rm.app .nil), Mn.of fun n hn wi => mn_clos (h1 n hn wi) (hs.T (up1 hn)) rm lm, fun env => Rw.of fun n hn => rw_clos (h2 env n (f2 hn)) (hs.T (up1 hn)) rm lm⟩
theorem se_star (ht : T3 t) (h : Se t nm d 2 v r) : Se t nm (d + 1) 2 (.tup [.str 247464047, .int 0, .str 43, v]) (unV (clV r) (sameV t nm)) := fun w R W H => by
  obtain ⟨l, rl, h1, h2⟩ := h w R W H
  obtain ⟨m, rm, lm, hs⟩ := steps_ok rl.ok rl.nd
  have rd := dup_RS W.all
  have ra := rm.app .nil
  have rc := sort_RS ra
  refine ⟨_, sort_RS (rm.app rd.ok), Mn.of fun n hn wi => mn_star W.all.ok W.all.l40 (h1 n hn wi) (hs.T (up1 hn)) rm lm rd.ok, fun env => ?_⟩
  rw [show sortB (m ++ dupL (w cAll)) = sortB (sortB (m ++ []) ++ dupL (w cAll)) from sort_congr fun v => by rw [List.mem_append, List.mem_append, sort_mem ra, List.append_nil]]
  exact rw_union (d := 2 * d + 5) (Nat.le_add_left ..) rc rd (Rw.of fun n hn => rw_clos (h2 env n hn) (hs.T (up1 hn)) rm lm) ((rw_same ht W H).up (Nat.le_trans (by decide) (Nat.le_add_left 5 (2 * d))))
theorem se_arrow (ha : Se t nm d 1 v r) (hb : Se t nm d 1 u s) : Se t nm (d + 1) 2 (.tup [.str 1895596745844028559822159992, .int 0, .str 0, .str 0, v, u]) (.tup [.str 9612981530472886828724840677988351606901, r, s]) := fun w R W H => by
  obtain ⟨a, ra, ma, wa⟩ := ha w R W H
  obtain ⟨b, rb, mb, wb⟩ := hb w R W H
  have rp := prod_RS ra rb
  have x := mix_prod ra.ok rb.ok ra.l40 rb.l40
  refine ⟨_, rp, Mn.of fun n hn wi => mn_arrow (ma n hn wi) (mb n hn wi) (x.T (up1 hn)), fun env => ?_⟩
  rw [← rp.st]
  exact Rw.of fun n hn => rw_bin (by decide) (wa env n (f2 hn)) (wb env n (f2 hn)) (x.T (up1 hn)) rp.ok (Nat.le_trans rp.le (by decide))
theorem se_bin {op h : Nat} (hx : MX op h c e f) (ha : Se t nm d c v r) (hb : Se t nm d e u s) : Se t nm (d + 1) f (.tup [.str 435406826897519, .int 0, .str op, v, u]) (.tup [.str h, r, s]) := fun w R W H => by
  obtain ⟨a, ra, ma, wa⟩ := ha w R W H
  obtain ⟨b, rb, mb, wb⟩ := hb w R W H
  obtain ⟨m, rm, z, x1, x2⟩ := hx.2 a b ra rb
  exact ⟨_, sort_RS rm, Mn.of fun n hn wi => mn_bin (ma n hn wi) (mb n hn wi) (x1.T (up1 hn)) rm z, fun env => Rw.of fun n hn => rw_bin hx.1 (wa env n (f2 hn)) (wb env n (f2 hn)) (x2.T (up1 hn)) rm z⟩
theorem se_box (ha : Se t nm d 2 v r) (hb : Se t nm d 1 u s) : Se t nm (d + 1) 1 (.tup [.str 435406839480441, .int 0, v, .tup [u]]) (.tup [.str 986901300524892553327, s, r]) := fun w R W H => by
  obtain ⟨a, ra, ma, wa⟩ := ha w R W H
  obtain ⟨b, rb, mb, wb⟩ := hb w R W H
  obtain ⟨m, rm, z, x1, x2⟩ := mx_dot12.2 b a rb ra
  exact ⟨_, sort_RS rm, Mn.of fun n hn wi => mn_box (ma n hn wi) (mb n hn wi) (x1.T (up1 hn)) rm z, fun env => Rw.of fun n hn => rw_bin mx_dot12.1 (wb env n (f2 hn)) (wa env n (f2 hn)) (x2.T (up1 hn)) rm z⟩
end
end P5
end Mine

namespace Mine
open PySem
noncomputable def own : V := .tup [.int 0, .bool false, .tup [.str 103], .str 510173609197685, .tup [.str 1023794727099668889702, .int 0, .str 66]]
noncomputable def sigT (nm par : Nat) (sup fl : List V) : V := .tup [.str 510173617586280, .int 0, .tup [.str nm], .bool false, .str 0, .str par, .tup sup, .tup fl, .tup []]
noncomputable def topsV (t : Nat) : List V := (topsN t).map .str
noncomputable def nmsV (t : Nat) : List V := (namesN t).map .str
noncomputable def itemsN (t : Nat) : List V := (topsN t).map (fun s => sigT s 0 [] (if s = 66 then [own] else [])) ++ [sigT 69 66 [] [], sigT 84 0 (topsV t) []]
noncomputable def sigO : SObj := .inst 2 [(8677204859181125939181893442046368153716, .loc 4), (4705521291157225747889372490891380, .loc 5), (4543261936956796822649674720608357, .loc 6), (9527910938742439441923968210238380703845, .loc 7), (87879469192763632568941775319736026401969400547484486336628, .loc 9)]
structure Oc where
  t : Nat
  F : SObj
  W : SObj
  nu : List (V × V)
  cnt : Int
noncomputable def opO (nu : List (V × V)) (cnt sp ht pk : Int) : SObj := .inst 1 [(91018014822433855916448552147567129127201744206719258460276, .loc 3), (2089024793972003303873052788, .none), (2050339269201387993285263476, .loc 1), (9442840468706836533258501435379962347636, .dict nu), (1934282215274345678596210804, .loc 12), (1934282344401593776985866357, .int cnt), (2243767363446240513821245557, .int sp), (4259307989734766077997039554134133, .int ht), (1042241488765539319916, .int pk)]
noncomputable def sttR (t : Nat) (W : SObj) (nu : List (V × V)) (cnt : Int) (sp : Nat) (ht pk : Int) (τ : St) : St :=
  .list (itemsN t) :: W :: sigO :: .dict ((nmsV t).zip (itemsN t)) :: .list (nmsV t) :: .list [] :: .list (nmsV t) :: .list [] :: .list [.tup [.str 103, .str 66, .str 510173609197685, .tup [.str 1023794727099668889702, .int 0, .str 66], .int 0, .int (-1)]] :: .dead :: opO nu cnt sp ht pk :: .dict [] :: τ
noncomputable def stt (c : Oc) (sp : Nat) (ht pk : Int) (τ : St) : St := c.F :: sttR c.t c.W c.nu c.cnt sp ht pk τ
noncomputable def NuOk (c : Oc) (nm : Nat → Nat) : Prop := (∀ s ∈ namesN c.t, dget (.str s) c.nu = some (.int (nm s))) ∧ dget (.str 290271168299111) c.nu = some (.int (nm 103))
noncomputable def topN (s : Nat) : Nat := if s = 69 then 66 else if s = 84 then 0 else s
noncomputable def EvOk (t : Nat) (τ : St) (ev : V) : Prop := ev = .dict [] ∨ ∃ i d, ev = .loc (i + 13) ∧ τ[i]? = some (.dict d) ∧ ∀ s ∈ 103 :: namesN t, dget (.str s) d = none
theorem EvOk.pre {t : Nat} {τ τ' : St} {ev : V} (h : EvOk t τ ev) (p : τ <+: τ') : EvOk t τ' ev := h.imp id fun ⟨i, d, e, h, q⟩ => ⟨i, d, e, pre_get p h, q⟩
theorem in_dict_at {σ : St} {n : Nat} {d : List (V × V)} {k : V} (h : σ[n]? = some (.dict d)) : inE σ k (.loc n) = inD k d := by
  have e1 : asList σ (.loc n) = none := by show locL σ[n]? = _; rw [h]; rfl
  have e2 : asDict σ (.loc n) = some d := by show locD σ[n]? = _; rw [h]; rfl
  unfold inE; rw [e1, e2]; rfl
namespace P5
section
variable {c : Oc} {sp n : Nat} {ht pk : Int} {τ : St} {K : V → St → Prop} {nm : Nat → Nat} {ev : V}
theorem EvOk.no (h : EvOk c.t τ ev) {s : Nat} (hs : s ∈ 103 :: namesN c.t) : inE (stt c sp ht pk τ) (.str s) ev = some false := by
  rcases h with rfl | ⟨i, d, rfl, hi, q⟩
  · rfl
  · have e : (stt c sp ht pk τ)[i + 13]? = some (.dict d) := hi
    rw [in_dict_at e]
    show some (dget (.str s) d).isSome = _
    rw [q s hs]; rfl
theorem sub_eq : ∀ {c : Oc}, T3 c.t → ∀ s ∈ namesN c.t, ∀ n sp ht pk τ K, callK prog (n + 1) 65 [.loc 3, .str s] (stt c sp ht pk τ) K = K (.bool (s == 84)) (stt c sp ht pk τ) := by
  rintro ⟨t, F, W, nu, cnt⟩ (rfl | rfl | rfl)
  all_goals repeat (first | exact List.forall_mem_nil _ | refine List.forall_mem_cons.mpr ⟨fun n sp ht pk τ K => by kernel_rfl!, ?_⟩)
theorem par_eq : ∀ {c : Oc}, T3 c.t → ∀ s ∈ namesN c.t, ∀ n sp ht pk τ K, callK prog (n + 1) 63 [.loc 3, .str s] (stt c sp ht pk τ) K = K (.str (if s = 69 then 66 else 0)) (stt c sp ht pk τ) := by
  rintro ⟨t, F, W, nu, cnt⟩ (rfl | rfl | rfl)
  all_goals repeat (first | exact List.forall_mem_nil _ | refine List.forall_mem_cons.mpr ⟨fun n sp ht pk τ K => by kernel_rfl!, ?_⟩)
theorem plc_eq : ∀ {c : Oc}, T3 c.t → ∀ s ∈ 103 :: namesN c.t, ∀ n sp ht pk τ K, callK prog (n + 4) 8 [.loc 11, .str s] (stt c sp ht pk τ) K = K (.int (-1)) (stt c sp ht pk τ) := by
  rintro ⟨t, F, W, nu, cnt⟩ (rfl | rfl | rfl)
  all_goals repeat (first | exact List.forall_mem_nil _ | refine List.forall_mem_cons.mpr ⟨fun n sp ht pk τ K => by kernel_rfl!, ?_⟩)
theorem nam_eq : ∀ {c : Oc}, T3 c.t → ∀ s ∈ namesN c.t, ∀ n sp ht pk τ K, callK prog (n + 4) 9 [.loc 11, .str s, .int 0] (stt c sp ht pk τ) K = oK (dget (.str s) c.nu) fun v => K (.tup [.str 505775562686573, v]) (stt c sp ht pk τ) := by
  rintro ⟨t, F, W, nu, cnt⟩ (rfl | rfl | rfl)
  all_goals repeat (first | exact List.forall_mem_nil _ | refine List.forall_mem_cons.mpr ⟨fun n sp ht pk τ K => by kernel_rfl!, ?_⟩)
theorem fld_eq : ∀ {c : Oc}, T3 c.t → ∀ n sp ht pk τ K, callK prog (n + 4) 9 [.loc 11, .str 103, .int 0] (stt c sp ht pk τ) K = oK (dget (.str 290271168299111) c.nu) fun v => K (.tup [.str 505775562686573, v]) (stt c sp ht pk τ) := by
  rintro ⟨t, F, W, nu, cnt⟩ (rfl | rfl | rfl) <;> exact fun n sp ht pk τ K => by kernel_rfl!
end
end P5
end Mine

namespace Mine
open PySem
theorem addl_at {n : Nat} {σ : St} {f k : List V} (h : σ[n]? = some (.list f)) (hz : (k ++ f).length ≤ capL) : binE σ .add (.list k) (.loc n) = some (.list (k ++ f)) := by
  show ((asLst σ (.list k)).bind fun a => (locL σ[n]?).bind fun b => (okLen (a ++ b)).map V.list) = _
  rw [h]
  show (okLen (k ++ f)).map V.list = _
  rw [okLen_i hz]; rfl
noncomputable def isTop (v : V) : Bool := !(V.beq v (.str 69) || V.beq v (.str 84))
noncomputable def relq (c : Oc) (v : V) : V := .tup [.str 505775562686573, (dget v c.nu).getD .none]
namespace P5
theorem eqn {k n f : Nat} {args : List V} {σ : St} {K : V → St → Prop} {p : Prop} (h : ∀ n, callK prog (n + k) f args σ K = p) (hn : k ≤ n) (hp : p) : callK prog n f args σ K := by
  obtain ⟨m, rfl⟩ := Nat.exists_eq_add_of_le' hn
  rw [h m]; exact hp
section
variable {c : Oc} {sp n : Nat} {ht pk : Int} {τ : St} {K : V → St → Prop} {nm : Nat → Nat} {ev : V} {T : TabK} {s : Nat} {l : List V}
theorem abv_plain (hs : s ∈ namesN c.t) (h0 : (if s = 69 then 66 else 0) = 0) (hp : ∀ s ∈ namesN c.t, ∀ τ K, K (.str (if s = 69 then 66 else 0)) (stt c sp ht pk τ) → T.call 63 [.loc 3, .str s] (stt c sp ht pk τ) K)
    (hk : K (.loc (stt c sp ht pk τ).length) (stt c sp ht pk (τ ++ [.list []]))) : kSs prog T f_Signatures_above.body (enter f_Signatures_above [.loc 3, .str s]) (stt c sp ht pk τ) (outK K) := by
  conv => whnf
  unfold kWhile
  conv => whnf
  refine hp s hs (τ ++ [.list []]) _ ?_
  rw [h0]
  exact hk
theorem abv_D (hs : 69 ∈ namesN c.t) (h66 : 66 ∈ namesN c.t) (hp : ∀ s ∈ namesN c.t, ∀ τ K, K (.str (if s = 69 then 66 else 0)) (stt c sp ht pk τ) → T.call 63 [.loc 3, .str s] (stt c sp ht pk τ) K)
    (hk : K (.loc (stt c sp ht pk τ).length) (stt c sp ht pk (τ ++ [.list [.str 66]]))) : kSs prog T f_Signatures_above.body (enter f_Signatures_above [.loc 3, .str 69]) (stt c sp ht pk τ) (outK K) := by
  conv => whnf
  unfold kWhile
  conv => whnf
  refine hp 69 hs (τ ++ [.list []]) _ ?_
  conv => whnf
  refine hp 69 hs (τ ++ [.list []]) _ ?_
  conv => whnf
  refine bK_i (con_at (σ := stt c sp ht pk τ ++ [.list []]) at_end rfl) ?_
  conv => whnf
  refine oK_i _ (app_end (σ := stt c sp ht pk τ) (f := []) (by decide)) ?_
  conv => whnf
  refine hp 66 h66 (τ ++ [.list [.str 66]]) _ ?_
  exact hk
theorem top_S (h65 : ∀ K, K (.bool true) (stt c sp ht pk τ) → T.call 65 [.loc 3, .str s] (stt c sp ht pk τ) K) (hk : K (.str 0) (stt c sp ht pk τ)) :
    kSs prog T f_Signatures_top.body (enter f_Signatures_top [.loc 3, .str s]) (stt c sp ht pk τ) (outK K) := by
  conv => whnf
  exact h65 _ hk
theorem top_ (h65 : ∀ K, K (.bool false) (stt c sp ht pk τ) → T.call 65 [.loc 3, .str s] (stt c sp ht pk τ) K) (h67 : ∀ K, K (.loc (stt c sp ht pk τ).length) (stt c sp ht pk (τ ++ [.list l])) → T.call 67 [.loc 3, .str s] (stt c sp ht pk τ) K) {v : V}
    (hl : l.length ≤ 1) (hv : itemE [] (.list ([.str s] ++ l)) (.int (-1)) = some v) (hk : K v (stt c sp ht pk (τ ++ [.list l]))) : kSs prog T f_Signatures_top.body (enter f_Signatures_top [.loc 3, .str s]) (stt c sp ht pk τ) (outK K) := by
  conv => whnf
  refine h65 _ ?_
  conv => whnf
  refine h67 _ ?_
  conv => whnf
  refine oK_i _ (addl_at (σ := stt c sp ht pk τ ++ [.list l]) (k := [.str s]) (f := l) at_end (by rw [List.length_append]; exact Nat.le_trans (Nat.add_le_add_left hl 1) (by decide))) ?_
  exact oK_i v hv hk
theorem top_ok (h3 : T3 c.t) : ∀ s ∈ namesN c.t, ∀ n τ K, 4 ≤ n → (∀ τ', τ <+: τ' → K (.str (topN s)) (stt c sp ht pk τ')) → callK prog n 68 [.loc 3, .str s] (stt c sp ht pk τ) K := fun s hs n τ K hn z => by
  have p2 := dn1 hn
  have p3 := dn1 p2
  have hp : ∀ s ∈ namesN c.t, ∀ τ K, K (.str (if s = 69 then 66 else 0)) (stt c sp ht pk τ) → callK prog (n - 1 - 1) 63 [.loc 3, .str s] (stt c sp ht pk τ) K := fun s hs τ K hk => eqn (par_eq h3 s hs · sp ht pk τ K) (up1 p3) hk
  have h65 : ∀ b, (s == 84) = b → ∀ K, K (.bool b) (stt c sp ht pk τ) → callK prog (n - 1) 65 [.loc 3, .str s] (stt c sp ht pk τ) K := fun b e K hk => eqn (sub_eq h3 s hs · sp ht pk τ K) (up1 p2) (e ▸ hk)
  refine call_i (d := f_Signatures_top) (up1 hn) rfl rfl ?_
  by_cases h84 : s = 84
  · subst h84
    exact top_S (h65 true rfl) (z τ (List.prefix_refl τ))
  · by_cases h69 : s = 69
    · subst h69
      refine top_ (l := [.str 66]) (h65 false rfl) (fun K hk => call_i (d := f_Signatures_above) (up1 p2) rfl rfl (abv_D hs (h3.tops.1 66 (List.mem_cons_self ..)) hp hk)) (Nat.le_refl 1) rfl (z _ (List.prefix_append ..))
    · have e : topN s = s := (if_neg h69).trans (if_neg h84)
      refine top_ (l := []) (h65 false (beq_eq_false_iff_ne.mpr h84)) (fun K hk => call_i (d := f_Signatures_above) (up1 p2) rfl rfl (abv_plain hs (if_neg h69) hp hk)) (Nat.zero_le 1) rfl (e ▸ z _ (List.prefix_append ..))
theorem top_is {t : Nat} (h3 : T3 t) : ∀ s ∈ namesN t, decide (topN s = s) = isTop (.str s) := by rcases h3 with rfl | rfl | rfl <;> decide
theorem nms_eq : ∀ {c : Oc}, T3 c.t → ∀ n sp ht pk τ K, callK prog (n + 1) 60 [.loc 3] (stt c sp ht pk τ) K = K (.list (nmsV c.t)) (stt c sp ht pk τ) := by
  rintro ⟨t, F, W, nu, cnt⟩ (rfl | rfl | rfl) <;> exact fun n sp ht pk τ K => by kernel_rfl!
theorem uni_eq : ∀ {c : Oc}, T3 c.t → ∀ n σ K, callK prog (n + 1) 2 [.list ((topsV c.t).flatMap fun v => [relq c v])] σ K = K ((topsV c.t).tail.foldl (fun f v => unV f (relq c v)) (relq c (.str 66))) σ := by
  rintro ⟨t, F, W, nu, cnt⟩ (rfl | rfl | rfl) <;> exact fun n σ K => by kernel_rfl!
theorem relq_is (hN : NuOk c nm) (hs : s ∈ namesN c.t) : relq c (.str s) = relV (nm s) := by
  unfold relq
  rw [hN.1 s hs]; rfl
theorem all_is {t : Nat} (h3 : T3 t) (q : ∀ s ∈ 66 :: (topsN t).tail, relq c (.str s) = relV (nm s)) : (topsV t).tail.foldl (fun f v => unV f (relq c v)) (relq c (.str 66)) = allV t nm := by
  rcases h3 with rfl | rfl | rfl
  · exact q 66 (by decide)
  · show unV (relq c (.str 66)) (relq c (.str 67)) = _
    rw [q 66 (by decide), q 67 (by decide)]; rfl
  · show unV (unV (relq c (.str 66)) (relq c (.str 67))) (relq c (.str 68)) = _
    rw [q 66 (by decide), q 67 (by decide), q 68 (by decide)]; rfl
theorem tops_is {t : Nat} (h3 : T3 t) : ((nmsV t).flatMap fun v => cond (isTop v) [v] []) = topsV t ∧ (nmsV t).length ≤ 40 ∧ (∀ v ∈ topsV t, ∃ s ∈ namesN t, v = .str s) ∧ pyEq (.list (topsV t)) (.list []) = some false := by
  refine ⟨?_, ?_, fun v hv => ?_, ?_⟩
  · rcases h3 with rfl | rfl | rfl <;> rfl
  · rcases h3 with rfl | rfl | rfl <;> decide
  · obtain ⟨s, hs, rfl⟩ := List.mem_map.mp hv
    refine ⟨s, h3.tops.1 s ?_, rfl⟩
    rcases h3 with rfl | rfl | rfl <;> exact hs
  · rcases h3 with rfl | rfl | rfl <;> rfl
theorem all_x (h3 : T3 c.t) (hN : NuOk c nm) (h60 : ∀ K, K (.list (nmsV c.t)) (stt c sp ht pk τ) → T.call 60 [.loc 3] (stt c sp ht pk τ) K)
    (h68 : ∀ s ∈ namesN c.t, ∀ τ K, (∀ τ', τ <+: τ' → K (.str (topN s)) (stt c sp ht pk τ')) → T.call 68 [.loc 3, .str s] (stt c sp ht pk τ) K)
    (h5 : ∀ s ∈ namesN c.t, ∀ τ K, K (relq c (.str s)) (stt c sp ht pk τ) → T.call 5 [.loc 11, .str s] (stt c sp ht pk τ) K)
    (h2 : ∀ σ K, K (allV c.t nm) σ → T.call 2 [.list ((topsV c.t).flatMap fun v => [relq c v])] σ K)
    (z : ∀ τ', τ <+: τ' → K (allV c.t nm) (stt c sp ht pk τ')) : kSs prog T f_Opener_all_atoms.body (enter f_Opener_all_atoms [.loc 11]) (stt c sp ht pk τ) (outK K) := by
  have q := tops_is h3
  conv => whnf
  refine h60 _ ?_
  conv => whnf
  refine loopF_ok (P := fun v => ∃ s ∈ namesN c.t, v = .str s) (fun v => cond (isTop v) [v] []) (fun σ => ∃ τ', τ <+: τ' ∧ σ = stt c sp ht pk τ') 1 (fun v hv => (List.mem_map.mp hv).elim fun s h => ⟨s, h.1, h.2.symm⟩) ⟨τ, List.prefix_refl τ, rfl⟩ (cap30 q.2.1 (by decide)) (fun _ _ => rfl) (fun v => cond_len) (fun v hv => ?_) ?_
  · obtain ⟨s, hs, rfl⟩ := hv
    refine ⟨_, rfl, fun σ ds kk i b z => ?_⟩
    obtain ⟨τ1, p1, rfl⟩ := i
    conv => whnf
    refine h68 s hs τ1 _ fun τ2 p2 => ?_
    have z := z _ ⟨τ2, p1.trans p2, rfl⟩
    have e := top_is h3 s hs
    cases w : isTop (.str s) <;> rw [w] at e z <;> conv => whnf
    · exact iK_f e (ap0 (p := fun l => kk l _) z)
    · exact iK_t e (bK_i (le1 (m := 0) b) z)
  · rintro σ ⟨τ1, p1, rfl⟩
    rw [List.nil_append, q.1]
    conv => whnf
    refine oK_i (!false) (congrArg (Option.map (!·)) q.2.2.2) ?_
    conv => whnf
    refine loopF_ok (P := fun v => ∃ s ∈ namesN c.t, v = .str s) (fun v => [relq c v]) (fun σ => σ = stt c sp ht pk τ1) 1 q.2.2.1 rfl (cap30 (q.1 ▸ Nat.le_trans (fl_len (fun _ => cond_len) _) (Nat.mul_le_mul_right 1 q.2.1)) (by decide)) (fun _ _ => rfl) (fun v => Nat.le_refl 1) (fun v hv => ?_) ?_
    · obtain ⟨s, hs, rfl⟩ := hv
      refine ⟨_, rfl, fun σ ds kk i b z => ?_⟩
      subst i
      conv => whnf
      exact h5 s hs τ1 _ (bK_i (le1 (m := 0) b) (z _ rfl))
    · rintro σ rfl
      exact h2 _ _ (z τ1 p1)
theorem all_ok (h3 : T3 c.t) (hN : NuOk c nm) (hn : 5 ≤ n) (z : ∀ τ', τ <+: τ' → K (allV c.t nm) (stt c sp ht pk τ')) : callK prog n 34 [.loc 11] (stt c sp ht pk τ) K :=
  have p := dn1 hn
  call_i (d := f_Opener_all_atoms) (up1 hn) rfl rfl (all_x h3 hN (fun K hk => eqn (nms_eq h3 · sp ht pk τ K) (up1 p) hk) (fun s hs τ K hz => top_ok h3 s hs _ τ K p hz)
    (fun s hs τ K hk => eqn (k := 1) (p := oK (dget (.str s) c.nu) fun v => K (.tup [.str 505775562686573, v]) (stt c sp ht pk τ)) (fun n => by kernel_rfl!) (up1 p) (oK_i _ (hN.1 s hs) (show K (relV (nm s)) _ from relq_is hN hs ▸ hk))) (fun σ K hk => eqn (uni_eq h3 · σ K) (up1 p) (all_is h3 (fun s h => relq_is hN (h3.tops.1 s h)) ▸ hk)) z)
theorem same_ok (h3 : T3 c.t) (hN : NuOk c nm) (hn : 6 ≤ n) (z : ∀ τ', τ <+: τ' → K (sameV c.t nm) (stt c sp ht pk τ')) : callK prog n 35 [.loc 11] (stt c sp ht pk τ) K :=
  call_i (d := f_Opener_same_atoms) (up1 hn) rfl rfl (all_ok h3 hN (dn1 hn) fun τ' p => z τ' p)
end
end P5
end Mine

namespace Mine
open PySem
noncomputable def notCall : V := .tup [.str 0, .tup []]
namespace P5
noncomputable def sgns : List (V × V) := ((prog.glob 7).bind asDictV).getD []
section
variable {c : Oc} {sp n d z : Nat} {ht : Nat} {pk : Int} {τ : St} {K : V → St → Prop} {nm : Nat → Nat} {ev v u r r' q : V} {T : TabK} {s op h za zb : Nat}
noncomputable def BgT (T : TabK) (c : Oc) (v : V) : Prop := ∀ (sp : Nat) (ht pk : Int) (τ : St) (ev : V) (K : V → St → Prop), EvOk c.t τ ev → K notCall (stt c sp ht pk τ) → T.call 23 [.loc 11, v, ev] (stt c sp ht pk τ) K
noncomputable def BgB (T : TabK) (c : Oc) (v : V) : Prop := ∀ (sp : Nat) (ht pk : Int) (τ : St) (ev : V) (K : V → St → Prop), EvOk c.t τ ev → K notCall (stt c sp ht pk τ) → kSs prog T f_Opener_begun.body (enter f_Opener_begun [.loc 11, v, ev]) (stt c sp ht pk τ) (outK K)
noncomputable def Bg (c : Oc) (d : Nat) (v : V) : Prop := ∀ n, d + 5 ≤ n → BgT ⟨callK prog n⟩ c v
theorem Bg.of (h : ∀ n, d + 4 ≤ n → BgB ⟨callK prog n⟩ c v) : Bg c d v := fun n hn sp ht pk τ ev K e k => call_i (d := f_Opener_begun) (up1 hn) rfl rfl (h (n - 1) (dn1 hn) sp ht pk τ ev K e k)
theorem Bg.up {d' : Nat} (h : Bg c d v) (e : d ≤ d') : Bg c d' v := fun n hn => h n (Nat.le_trans (Nat.add_le_add_right e 5) hn)
theorem bg_name (h3 : T3 c.t) (hs : s ∈ 103 :: namesN c.t) : Bg c d (.tup [.str 1023794727099668889702, .int 0, .str s]) := Bg.of fun n hn sp ht pk τ ev K e hk => by
  have h8 : ∀ K : V → St → Prop, K (.int (-1)) (stt c sp ht pk τ) → TabK.call ⟨callK prog n⟩ 8 [.loc 11, .str s] (stt c sp ht pk τ) K := fun K hk => eqn (plc_eq h3 s hs · sp ht pk τ K) (Nat.le_trans (Nat.le_add_left 4 d) hn) hk
  generalize TabK.mk (callK prog n) = T at h8 ⊢
  conv => whnf
  refine oK_i (!false) (congrArg (Option.map (!·)) (EvOk.no e hs)) ?_
  conv => whnf
  refine h8 _ ?_
  exact hk
theorem bg_univ : Bg c d (.tup [.str 1088358388532248576119, .int 0]) := Bg.of fun n hn sp ht pk τ ev K e hk => hk
theorem bg_iden : Bg c d (.tup [.str 977677880109517766767, .int 0]) := Bg.of fun n hn sp ht pk τ ev K e hk => hk
theorem bg_none : Bg c d (.tup [.str 1023794788672322142310, .int 0]) := Bg.of fun n hn sp ht pk τ ev K e hk => hk
theorem bg_un : Bg c d (.tup [.str 247464047, .int 0, q, v]) := Bg.of fun n hn sp ht pk τ ev K e hk => hk
theorem bg_arrow : Bg c d (.tup [.str 1895596745844028559822159992, .int 0, .str 0, .str 0, v, u]) := Bg.of fun n hn sp ht pk τ ev K e hk => hk
theorem bg_bin (h : op ≠ 47) : Bg c d (.tup [.str 435406826897519, .int 0, .str op, v, u]) := Bg.of fun n hn sp ht pk τ ev K e hk => by
  generalize TabK.mk (callK prog n) = T
  conv => whnf
  refine iK_f (decide_eq_false h) ?_
  exact hk
theorem bg_dotB (hu : BgT T c u) : BgB T c (.tup [.str 435406826897519, .int 0, .str 47, v, u]) := fun sp ht pk τ ev K e hk => by
  conv => whnf
  refine hu sp ht pk τ ev _ e ?_
  exact hk
theorem bg_boxB (hv : BgT T c v) : BgB T c (.tup [.str 435406839480441, .int 0, v, q]) := fun sp ht pk τ ev K e hk => by
  conv => whnf
  refine hv sp ht pk τ ev _ e ?_
  exact hk
theorem bg_dot (hu : Bg c d u) : Bg c (d + 1) (.tup [.str 435406826897519, .int 0, .str 47, v, u]) := Bg.of fun n hn => bg_dotB (hu n (Nat.le_trans (Nat.le_of_eq (Nat.add_right_comm d 4 1)) hn))
theorem bg_box (hv : Bg c d v) : Bg c (d + 1) (.tup [.str 435406839480441, .int 0, v, q]) := Bg.of fun n hn => bg_boxB (hv n (Nat.le_trans (Nat.le_of_eq (Nat.add_right_comm d 4 1)) hn))
noncomputable def OfT (T : TabK) (c : Oc) (v : V) : Prop := ∀ (sp : Nat) (ht pk : Int) (τ : St) (ev : V) (K : V → St → Prop), EvOk c.t τ ev → K notCall (stt c sp ht pk τ) → T.call 24 [.loc 11, v, ev] (stt c sp ht pk τ) K
theorem of_x (h : BgT T c v) {ht : Int} (e : EvOk c.t τ ev) (hk : K notCall (stt c sp ht pk τ)) : kSs prog T f_Opener_call_of.body (enter f_Opener_call_of [.loc 11, v, ev]) (stt c sp ht pk τ) (outK K) := by
  conv => whnf
  refine h sp ht pk τ ev _ e ?_
  exact hk
theorem Bg.ofc (h : Bg c d v) (hn : d + 6 ≤ n) : OfT ⟨callK prog n⟩ c v := fun sp ht pk τ ev K e hk => call_i (d := f_Opener_call_of) (up1 hn) rfl rfl (of_x (h (n - 1) (dn1 hn)) e hk)
noncomputable def OxT (T : TabK) (c : Oc) (d z : Nat) (v r : V) : Prop := ∀ (sp ht : Nat) (pk : Int) (τ : St) (ev : V) (K : V → St → Prop) (rr : Nat), EvOk c.t τ ev → sp + (z + rr) ≤ 20000 → ht + d + 1 ≤ 100 → (∀ sp' pk' τ', sp' + rr ≤ 20000 → τ <+: τ' → K r (stt c sp' ht pk' τ')) → T.call 32 [.loc 11, v, ev] (stt c sp ht pk τ) K
noncomputable def OxB (T : TabK) (c : Oc) (d z : Nat) (v r : V) : Prop := ∀ (sp ht : Nat) (pk : Int) (τ : St) (ev : V) (K : V → St → Prop) (rr : Nat), EvOk c.t τ ev → sp + (z + rr) ≤ 20000 → ht + d ≤ 100 → (∀ sp' pk' τ', sp' + rr ≤ 20000 → τ <+: τ' → K r (stt c sp' ht pk' τ')) → kSs prog T f_Opener_expr_of.body (enter f_Opener_expr_of [.loc 11, v, ev]) (stt c sp ht pk τ) (outK K)
noncomputable def Ox (c : Oc) (d z : Nat) (v r : V) : Prop := ∀ n, 2 * d + 8 ≤ n → OxT ⟨callK prog n⟩ c d z v r
theorem spend_x (h1 : sp + 1 ≤ 20000) (h2 : ht ≤ 100) (hk : ∀ pk', K .none (stt c (sp + 1) ht pk' τ)) : kSs prog T f_Opener_spend.body (enter f_Opener_spend [.loc 11, .int 1, .int 0]) (stt c sp ht pk τ) (outK K) := by
  conv => whnf
  refine iK_f (decide_eq_false fun q => Nat.not_lt.mpr h1 (Int.ofNat_lt.mp q)) ?_
  conv => whnf
  refine iK_f (decide_eq_false fun q => Nat.not_lt.mpr h2 (Int.ofNat_lt.mp q)) ?_
  exact hk _
theorem expr_x {rr : Nat} (h16 : ∀ K, (∀ pk', K .none (stt c (sp + 1) (ht + 1 : Nat) pk' τ)) → T.call 16 [.loc 11, .int 1, .int 0] (stt c sp (ht + 1 : Nat) pk τ) K)
    (h33 : ∀ pk K, (∀ sp' pk' τ', sp' + rr ≤ 20000 → τ <+: τ' → K r (stt c sp' (ht + 1 : Nat) pk' τ')) → T.call 33 [.loc 11, v, ev] (stt c (sp + 1) (ht + 1 : Nat) pk τ) K)
    (z : ∀ sp' pk' τ', sp' + rr ≤ 20000 → τ <+: τ' → K r (stt c sp' ht pk' τ')) : kSs prog T f_Opener_expr.body (enter f_Opener_expr [.loc 11, v, ev]) (stt c sp ht pk τ) (outK K) := by
  conv => whnf
  refine h16 _ fun pk1 => ?_
  conv => whnf
  refine h33 pk1 _ fun sp' pk' τ' h p => ?_
  have w := z sp' pk' τ' h p
  rw [← Int.add_sub_cancel (ht : Int) 1] at w
  exact w
theorem Ox.of (h : ∀ n, 2 * d + 6 ≤ n → OxB ⟨callK prog n⟩ c d z v r) : Ox c d (z + 1) v r := fun n hn sp ht pk τ ev K rr e h1 h2 k => by
  have e1 : sp + 1 + (z + rr) ≤ 20000 := by rw [Nat.add_assoc, Nat.add_comm 1, Nat.add_right_comm z rr 1]; exact h1
  have e2 : ht + 1 + d ≤ 100 := by rw [Nat.succ_add]; exact h2
  exact call_i (d := f_Opener_expr) (up1 hn) rfl rfl (expr_x (rr := rr) (fun K hk => call_i (d := f_Opener_spend) (up1 (dn1 hn)) rfl rfl (spend_x (Nat.le_trans (Nat.le_add_right ..) e1) (Nat.le_trans (Nat.le_add_right ..) e2) hk))
    (fun pk K hk => call_i (d := f_Opener_expr_of) (up1 (dn1 hn)) rfl rfl (h (n - 1 - 1) (dn1 (dn1 hn)) (sp + 1) (ht + 1) pk τ ev K rr e e1 e2 hk)) k)
theorem Ox.up {d' : Nat} (h : Ox c d z v r) (e : d ≤ d') : Ox c d' z v r := fun n hn sp ht pk τ ev K rr a b f k => h n (Nat.le_trans (Nat.add_le_add_right (Nat.mul_le_mul_left 2 e) 8) hn) sp ht pk τ ev K rr a b (Nat.le_trans (Nat.succ_le_succ (Nat.add_le_add_left e ht)) f) k
theorem zr {a b k : Nat} (h : a + (0 + k) ≤ b) : a + k ≤ b := by rw [Nat.zero_add] at h; exact h
theorem ox_none : Ox c d 1 (.tup [.str 1023794788672322142310, .int 0]) (.tup [.str 1023794788672322142310, .int 1]) := Ox.of (z := 0) fun n hn sp ht pk τ ev K rr e h1 h2 k => k sp pk τ (zr h1) (List.prefix_refl τ)
theorem ox_univB (h : ∀ (sp : Nat) (ht pk : Int) τ K, (∀ τ', τ <+: τ' → K r (stt c sp ht pk τ')) → T.call 34 [.loc 11] (stt c sp ht pk τ) K) : OxB T c d 0 (.tup [.str 1088358388532248576119, .int 0]) r := fun sp ht pk τ ev K rr e h1 h2 k => by
  conv => whnf
  exact h sp ht pk τ _ fun τ' p => k sp pk τ' (zr h1) p
theorem ox_idenB (h : ∀ (sp : Nat) (ht pk : Int) τ K, (∀ τ', τ <+: τ' → K r (stt c sp ht pk τ')) → T.call 35 [.loc 11] (stt c sp ht pk τ) K) : OxB T c d 0 (.tup [.str 977677880109517766767, .int 0]) r := fun sp ht pk τ ev K rr e h1 h2 k => by
  conv => whnf
  exact h sp ht pk τ _ fun τ' p => k sp pk τ' (zr h1) p
theorem ox_univ (h3 : T3 c.t) (hN : NuOk c nm) : Ox c d 1 (.tup [.str 1088358388532248576119, .int 0]) (allV c.t nm) := Ox.of (z := 0) fun n hn => ox_univB fun sp ht pk τ K z => all_ok h3 hN (Nat.le_trans (Nat.le_trans (by decide) (Nat.le_add_left 6 (2 * d))) hn) z
theorem ox_iden (h3 : T3 c.t) (hN : NuOk c nm) : Ox c d 1 (.tup [.str 977677880109517766767, .int 0]) (sameV c.t nm) := Ox.of (z := 0) fun n hn => ox_idenB fun sp ht pk τ K z => same_ok h3 hN (Nat.le_trans (Nat.le_add_left 6 (2 * d)) hn) z
theorem ox_nameB (hs : s ∈ 103 :: namesN c.t) (h24 : OfT T c (.tup [.str 1023794727099668889702, .int 0, .str s])) (h9 : ∀ (sp : Nat) (ht pk : Int) τ K, K r (stt c sp ht pk τ) → T.call 9 [.loc 11, .str s, .int 0] (stt c sp ht pk τ) K) : OxB T c d 0 (.tup [.str 1023794727099668889702, .int 0, .str s]) r := fun sp ht pk τ ev K rr e h1 h2 k => by
  conv => whnf
  refine oK_i false (EvOk.no e hs) ?_
  conv => whnf
  refine h24 sp ht pk τ ev _ e ?_
  conv => whnf
  exact h9 sp ht pk τ _ (k sp pk τ (zr h1) (List.prefix_refl τ))
theorem ox_name (h3 : T3 c.t) (hN : NuOk c nm) (hs : s ∈ 103 :: namesN c.t) : Ox c d 1 (.tup [.str 1023794727099668889702, .int 0, .str s]) (relV (nm s)) := Ox.of (z := 0) fun n hn =>
  ox_nameB hs ((bg_name (d := d) h3 hs).ofc (Nat.le_trans (Nat.add_le_add_right (Nat.le_mul_of_pos_left d (by decide)) 6) hn)) fun sp ht pk τ K hk => by
    have hn : 4 ≤ n := Nat.le_trans (Nat.le_trans (by decide) (Nat.le_add_left 6 (2 * d))) hn
    rcases List.mem_cons.mp hs with rfl | hs
    · exact eqn (fld_eq h3 · sp ht pk τ K) hn (oK_i _ hN.2 hk)
    · exact eqn (nam_eq h3 s hs · sp ht pk τ K) hn (oK_i _ (hN.1 s hs) hk)
theorem ox_unB {g : Nat} (hg : ([V.str 127, .str 95, .str 43].any fun y => V.beq y (.str g)) = true) (h : OxT T c d z v r) (h36 : ∀ (sp : Nat) (ht pk : Int) τ K, (∀ τ', τ <+: τ' → K r' (stt c sp ht pk τ')) → T.call 36 [.loc 11, .str g, r] (stt c sp ht pk τ) K) :
    OxB T c (d + 1) z (.tup [.str 247464047, .int 0, .str g, v]) r' := fun sp ht pk τ ev K rr e h1 h2 k => by
  conv => whnf
  refine iK_t hg ?_
  conv => whnf
  refine h sp ht pk τ ev _ rr e h1 h2 fun sp1 pk1 τ1 b1 p1 => ?_
  conv => whnf
  exact h36 sp1 ht pk1 τ1 _ fun τ2 p2 => k sp1 pk1 τ2 b1 (p1.trans p2)
theorem turned_star (h : ∀ K, (∀ τ', τ <+: τ' → K q (stt c sp ht pk τ')) → T.call 35 [.loc 11] (stt c sp ht pk τ) K) (z : ∀ τ', τ <+: τ' → K (unV (clV r) q) (stt c sp ht pk τ')) : kSs prog T f_Opener_turned.body (enter f_Opener_turned [.loc 11, .str 43, r]) (stt c sp ht pk τ) (outK K) := by
  conv => whnf
  exact h _ fun τ' p => z τ' p
theorem n6 (hn : 2 * (d + 1) + 6 ≤ n) : 7 ≤ n := Nat.le_trans (Nat.le_add_left 7 (2 * d + 1)) hn
theorem ox_turn (h : Ox c d z v r) : Ox c (d + 1) (z + 1) (.tup [.str 247464047, .int 0, .str 127, v]) (.tup [.str 1079135047281738252399, r]) := Ox.of fun n hn => ox_unB rfl (h n hn) fun sp ht pk τ K z => call_i (d := f_Opener_turned) (up1 (n6 hn)) rfl rfl (z τ (List.prefix_refl τ))
theorem ox_clos (h : Ox c d z v r) : Ox c (d + 1) (z + 1) (.tup [.str 247464047, .int 0, .str 95, v]) (clV r) := Ox.of fun n hn => ox_unB rfl (h n hn) fun sp ht pk τ K z => call_i (d := f_Opener_turned) (up1 (n6 hn)) rfl rfl (z τ (List.prefix_refl τ))
theorem turned_ok (h3 : T3 c.t) (hN : NuOk c nm) (hn : 7 ≤ n) {ht : Int} (z : ∀ τ', τ <+: τ' → K (unV (clV r) (sameV c.t nm)) (stt c sp ht pk τ')) : callK prog n 36 [.loc 11, .str 43, r] (stt c sp ht pk τ) K :=
  call_i (d := f_Opener_turned) (up1 hn) rfl rfl (by
    have h := fun K => same_ok (K := K) (c := c) (sp := sp) (ht := ht) (pk := pk) (τ := τ) h3 hN (dn1 hn)
    generalize callK prog (n - 1) = f at h ⊢
    conv => whnf
    exact h _ fun τ' p => z τ' p)
theorem ox_star (h3 : T3 c.t) (hN : NuOk c nm) (h : Ox c d z v r) : Ox c (d + 1) (z + 1) (.tup [.str 247464047, .int 0, .str 43, v]) (unV (clV r) (sameV c.t nm)) := Ox.of fun n hn => ox_unB rfl (h n hn) fun sp ht pk τ K z => turned_ok h3 hN (n6 hn) z
theorem ox_arrowB (ha : OxT T c d za v r) (hb : OxT T c d zb u r') : OxB T c (d + 1) (za + zb) (.tup [.str 1895596745844028559822159992, .int 0, .str 0, .str 0, v, u]) (.tup [.str 9612981530472886828724840677988351606901, r, r']) := fun sp ht pk τ ev K rr e h1 h2 k => by
  rw [Nat.add_assoc] at h1
  conv => whnf
  refine ha sp ht pk τ ev _ (zb + rr) e h1 h2 fun sp1 pk1 τ1 b1 p1 => ?_
  conv => whnf
  refine hb sp1 ht pk1 τ1 ev _ rr (e.pre p1) b1 h2 fun sp2 pk2 τ2 b2 p2 => ?_
  exact k sp2 pk2 τ2 b2 (p1.trans p2)
theorem ox_binB (hg : dget (.str op) sgns = some (.str h)) (h24 : OfT T c (.tup [.str 435406826897519, .int 0, .str op, v, u])) (ha : OxT T c d za v r) (hb : OxT T c d zb u r') : OxB T c (d + 1) (za + zb) (.tup [.str 435406826897519, .int 0, .str op, v, u]) (.tup [.str h, r, r']) := fun sp ht pk τ ev K rr e h1 h2 k => by
  rw [Nat.add_assoc] at h1
  conv => whnf
  refine h24 sp ht pk τ ev _ e ?_
  conv => whnf
  refine iK_f (congrArg (fun o => !(Option.isSome o)) hg) ?_
  conv => whnf
  refine oK_i _ hg ?_
  conv => whnf
  refine ha sp ht pk τ ev _ (zb + rr) e h1 h2 fun sp1 pk1 τ1 b1 p1 => ?_
  conv => whnf
  refine hb sp1 ht pk1 τ1 ev _ rr (e.pre p1) b1 h2 fun sp2 pk2 τ2 b2 p2 => ?_
  exact k sp2 pk2 τ2 b2 (p1.trans p2)
theorem ox_boxB (h24 : OfT T c (.tup [.str 435406839480441, .int 0, v, .tup [u]])) (ha : OxT T c d za v r) (hb : OxT T c d zb u r') : OxB T c (d + 1) (za + zb) (.tup [.str 435406839480441, .int 0, v, .tup [u]]) (.tup [.str 986901300524892553327, r', r]) := fun sp ht pk τ ev K rr e h1 h2 k => by
  rw [Nat.add_assoc] at h1
  conv => whnf
  refine h24 sp ht pk τ ev _ e ?_
  conv => whnf
  refine ha sp ht pk τ ev _ (zb + rr) e h1 h2 fun sp1 pk1 τ1 b1 p1 => ?_
  conv => whnf
  refine hb sp1 ht pk1 τ1 ev _ rr (e.pre p1) b1 h2 fun sp2 pk2 τ2 b2 p2 => ?_
  exact k sp2 pk2 τ2 b2 (p1.trans p2)
theorem nof (hn : 2 * (d + 1) + 6 ≤ n) : d + 1 + 6 ≤ n := Nat.le_trans (Nat.add_le_add_right (Nat.le_mul_of_pos_left (d + 1) (by decide)) 6) hn
theorem ox_arrow (ha : Ox c d za v r) (hb : Ox c d zb u r') : Ox c (d + 1) (za + zb + 1) (.tup [.str 1895596745844028559822159992, .int 0, .str 0, .str 0, v, u]) (.tup [.str 9612981530472886828724840677988351606901, r, r']) := Ox.of fun n hn => ox_arrowB (ha n hn) (hb n hn)
theorem ox_bin (hg : dget (.str op) sgns = some (.str h)) (hB : Bg c (d + 1) (.tup [.str 435406826897519, .int 0, .str op, v, u])) (ha : Ox c d za v r) (hb : Ox c d zb u r') : Ox c (d + 1) (za + zb + 1) (.tup [.str 435406826897519, .int 0, .str op, v, u]) (.tup [.str h, r, r']) := Ox.of fun n hn => ox_binB hg (hB.ofc (nof hn)) (ha n hn) (hb n hn)
theorem ox_box (hB : Bg c (d + 1) (.tup [.str 435406839480441, .int 0, v, .tup [u]])) (ha : Ox c d za v r) (hb : Ox c d zb u r') : Ox c (d + 1) (za + zb + 1) (.tup [.str 435406839480441, .int 0, v, .tup [u]]) (.tup [.str 986901300524892553327, r', r]) := Ox.of fun n hn => ox_boxB (hB.ofc (nof hn)) (ha n hn) (hb n hn)
end
end P5
end Mine

namespace Mine
open PySem
theorem all_lt {p : Nat → Prop} {n : Nat} (h : ∀ v ∈ List.range n, p v) (v : Nat) (hv : (v : Int) < (n : Int)) : p v := h v (List.mem_range.mpr (Int.ofNat_lt.mp hv))
theorem bd1 {k b r N : Nat} (h : k + (b + 1 + r) ≤ N) : k + 1 + (b + r) ≤ N := by omega
theorem bd2 {k a b c r N : Nat} (h : k + (a + r) ≤ N) (e : c + b ≤ a) : k + (c + (b + r)) ≤ N := by omega
theorem bd0 {k a b r N : Nat} (h : k + (a + r) ≤ N) (e : b ≤ a) : k + (b + r) ≤ N := Nat.le_trans (Nat.add_le_add_left (Nat.add_le_add_right e r) k) h
theorem bdz {k a r N : Nat} (h : k + (a + r) ≤ N) : k + r ≤ N := Nat.le_trans (Nat.add_le_add_left (Nat.le_add_left r a) k) h
theorem bds {k b r N : Nat} (h : k + (b + 1 + r) ≤ N) : k ≤ N := Nat.le_trans (Nat.le_add_right ..) h
theorem ar1 {d : Nat} : 2 + (4 * d + 2) ≤ 4 * d + 4 := Nat.le_of_eq (Nat.add_comm 2 _)
theorem ar2 {d : Nat} : 4 * d + 2 + 2 ≤ 4 * d + 4 := Nat.le_refl _
theorem ar3 {d : Nat} : 1 + (2 * d + 1) + 1 ≤ 2 * (d + 1) + 1 := Nat.succ_le_succ (Nat.le_of_eq (Nat.add_comm 1 _))
theorem ar4 {d : Nat} : 2 * d + 1 + 1 + 1 ≤ 2 * (d + 1) + 1 := Nat.le_refl _
theorem ar5 {d : Nat} : 2 * d + 1 + 1 ≤ 2 * (d + 1) + 1 := Nat.le_succ _
namespace P5
noncomputable def Na (v : V) : Prop := ∃ h l, v = .tup (.str h :: l) ∧ h ≠ 1895596745844028559822159992 ∧ l.length ≤ 10
noncomputable def Er (d : Nat) (r : V) : Prop := (∃ l, r = .tup l) ∧ ∀ n, 2 * d + 5 ≤ n → eqOk n r = true
theorem er_two {d h : Nat} {a b : V} (ha : Er d a) (hb : Er d b) : Er (d + 1) (.tup [.str h, a, b]) := ⟨⟨_, rfl⟩, fun n hn => match n, hn with
  | n + 1, hn => by
    have q : 2 * d + 5 ≤ n := Nat.le_of_succ_le (Nat.le_of_succ_le_succ hn)
    have s : eqOk n (.str h) = true := by cases n <;> rfl
    show (eqOk n (.str h) && (eqOk n a && (eqOk n b && true))) = true
    rw [s, ha.2 n q, hb.2 n q]; rfl⟩
theorem er_one {d h : Nat} {a : V} (ha : Er d a) : Er (d + 1) (.tup [.str h, a]) := ⟨⟨_, rfl⟩, fun n hn => match n, hn with
  | n + 1, hn => by
    have q : 2 * d + 5 ≤ n := Nat.le_of_succ_le (Nat.le_of_succ_le_succ hn)
    have s : eqOk n (.str h) = true := by cases n <;> rfl
    show (eqOk n (.str h) && (eqOk n a && true)) = true
    rw [s, ha.2 n q]; rfl⟩
theorem er_of {d : Nat} {r : V} {l : List V} (e : r = .tup l) (h : ∀ m, eqOk (m + 5) r = true) : Er d r := ⟨⟨l, e⟩, fun n hn => by
  obtain ⟨m, rfl⟩ := Nat.exists_eq_add_of_le' (Nat.le_trans (Nat.le_add_left 5 (2 * d)) hn)
  exact h m⟩
theorem er_all {d t : Nat} {nm : Nat → Nat} (h : T3 t) : Er d (allV t nm) := by rcases h with rfl | rfl | rfl <;> exact er_of rfl fun m => rfl
theorem er_same {d t : Nat} {nm : Nat → Nat} (h : T3 t) : Er d (sameV t nm) := by rcases h with rfl | rfl | rfl <;> exact er_of rfl fun m => rfl
theorem er_star {d t : Nat} {nm : Nat → Nat} {r : V} (h3 : T3 t) (h : Er d r) : Er (d + 1) (unV (clV r) (sameV t nm)) := ⟨⟨_, rfl⟩, fun n hn => match n, hn with
  | n + 2, hn => by
    have q : 2 * d + 5 ≤ n := Nat.le_of_succ_le_succ (Nat.le_of_succ_le_succ hn)
    have s : ∀ n s, eqOk n (.str s) = true := fun n s => by cases n <;> rfl
    show (eqOk (n + 1) (.str 2282452971227182165890433135) && ((eqOk n (.str 8507063594590921578787178697020942581862) && (eqOk n r && true)) && (eqOk (n + 1) (sameV t nm) && true))) = true
    rw [s, s, h.2 n q, (er_same (d := d) h3).2 (n + 1) (Nat.le_succ_of_le q)]; rfl⟩
noncomputable def Gd (t : Nat) (nu : List (V × V)) (nm : Nat → Nat) (d z c : Nat) (v : V) : Prop := ∃ r, Se t nm d c v r ∧ ((c = 1 → Na v) ∧ Er d r) ∧ ∀ F W cnt, Bg ⟨t, F, W, nu, cnt⟩ d v ∧ Ox ⟨t, F, W, nu, cnt⟩ d z v r
noncomputable def NuT (t : Nat) (nu : List (V × V)) (nm : Nat → Nat) : Prop := (∀ s ∈ namesN t, dget (.str s) nu = some (.int (nm s))) ∧ dget (.str 290271168299111) nu = some (.int (nm 103))
section
variable {t d z za zb c e f op h : Nat} {nu : List (V × V)} {nm : Nat → Nat} {v u : V}
theorem Gd.up {d' z' : Nat} (h : Gd t nu nm d z c v) (q : d ≤ d') (q2 : z ≤ z') : Gd t nu nm d' z' c v := h.elim fun r x => ⟨r, x.1.up q, ⟨x.2.1.1, x.2.1.2.1, fun n hn => x.2.1.2.2 n (Nat.le_trans (Nat.add_le_add_right (Nat.mul_le_mul_left 2 q) 5) hn)⟩, fun F W cnt => ⟨(x.2.2 F W cnt).1.up q, fun n hn sp ht pk τ ev K rr a b => (x.2.2 F W cnt).2.up q n hn sp ht pk τ ev K rr a (bd0 b q2)⟩⟩
theorem gd_name {s : Nat} (h3 : T3 t) (hN : NuT t nu nm) (hs : s ∈ namesN t) : Gd t nu nm d 1 1 (.tup [.str 1023794727099668889702, .int 0, .str s]) := ⟨_, se_name hs, ⟨fun _ => ⟨_, _, rfl, by decide, Nat.le_of_ble_eq_true rfl⟩, er_of rfl fun _ => rfl⟩, fun F W cnt => ⟨bg_name h3 (List.mem_cons_of_mem _ hs), ox_name (c := ⟨t, F, W, nu, cnt⟩) h3 hN (List.mem_cons_of_mem _ hs)⟩⟩
theorem gd_fld (h3 : T3 t) (hN : NuT t nu nm) : Gd t nu nm d 1 2 (.tup [.str 1023794727099668889702, .int 0, .str 103]) := ⟨_, se_fld, ⟨(nomatch ·), er_of rfl fun _ => rfl⟩, fun F W cnt => ⟨bg_name h3 (List.mem_cons_self ..), ox_name (c := ⟨t, F, W, nu, cnt⟩) h3 hN (List.mem_cons_self ..)⟩⟩
theorem gd_univ (h3 : T3 t) (hN : NuT t nu nm) : Gd t nu nm d 1 1 (.tup [.str 1088358388532248576119, .int 0]) := ⟨_, se_univ h3, ⟨fun _ => ⟨_, _, rfl, by decide, Nat.le_of_ble_eq_true rfl⟩, er_all h3⟩, fun F W cnt => ⟨bg_univ, ox_univ (c := ⟨t, F, W, nu, cnt⟩) h3 hN⟩⟩
theorem gd_iden (h3 : T3 t) (hN : NuT t nu nm) : Gd t nu nm d 1 2 (.tup [.str 977677880109517766767, .int 0]) := ⟨_, se_iden h3, ⟨(nomatch ·), er_same h3⟩, fun F W cnt => ⟨bg_iden, ox_iden (c := ⟨t, F, W, nu, cnt⟩) h3 hN⟩⟩
theorem gd_none : Gd t nu nm d 1 1 (.tup [.str 1023794788672322142310, .int 0]) := ⟨_, se_none, ⟨fun _ => ⟨_, _, rfl, by decide, Nat.le_of_ble_eq_true rfl⟩, er_of rfl fun _ => rfl⟩, fun F W cnt => ⟨bg_none, ox_none⟩⟩
theorem gd_turn (h : Gd t nu nm d z 2 v) : Gd t nu nm (d + 1) (z + 1) 2 (.tup [.str 247464047, .int 0, .str 127, v]) := h.elim fun r x => ⟨_, se_turn x.1, ⟨(nomatch ·), er_one x.2.1.2⟩, fun F W cnt => ⟨bg_un, ox_turn (x.2.2 F W cnt).2⟩⟩
theorem gd_clos (h : Gd t nu nm d z 2 v) : Gd t nu nm (d + 1) (z + 1) 2 (.tup [.str 247464047, .int 0, .str 95, v]) := h.elim fun r x => ⟨_, se_clos x.1, ⟨(nomatch ·), er_one x.2.1.2⟩, fun F W cnt => ⟨bg_un, ox_clos (x.2.2 F W cnt).2⟩⟩
theorem gd_star (h3 : T3 t) (hN : NuT t nu nm) (h : Gd t nu nm d z 2 v) : Gd t nu nm (d + 1) (z + 1) 2 (.tup [.str 247464047, .int 0, .str 43, v]) := h.elim fun r x => ⟨_, se_star h3 x.1, ⟨(nomatch ·), er_star h3 x.2.1.2⟩, fun F W cnt => ⟨bg_un, ox_star (c := ⟨t, F, W, nu, cnt⟩) h3 hN (x.2.2 F W cnt).2⟩⟩
theorem gd_arrow (ha : Gd t nu nm d za 1 v) (hb : Gd t nu nm d zb 1 u) : Gd t nu nm (d + 1) (za + zb + 1) 2 (.tup [.str 1895596745844028559822159992, .int 0, .str 0, .str 0, v, u]) := ha.elim fun r x => hb.elim fun s y => ⟨_, se_arrow x.1 y.1, ⟨(nomatch ·), er_two x.2.1.2 y.2.1.2⟩, fun F W cnt => ⟨bg_arrow, ox_arrow (x.2.2 F W cnt).2 (y.2.2 F W cnt).2⟩⟩
theorem gd_bin (hx : MX op h c e f) (hg : dget (.str op) sgns = some (.str h)) (ho : op ≠ 47) (ha : Gd t nu nm d za c v) (hb : Gd t nu nm d zb e u) : Gd t nu nm (d + 1) (za + zb + 1) f (.tup [.str 435406826897519, .int 0, .str op, v, u]) :=
  ha.elim fun r x => hb.elim fun s y => ⟨_, se_bin hx x.1 y.1, ⟨fun _ => ⟨_, _, rfl, by decide, Nat.le_of_ble_eq_true rfl⟩, er_two x.2.1.2 y.2.1.2⟩, fun F W cnt => ⟨bg_bin ho, ox_bin hg (bg_bin ho) (x.2.2 F W cnt).2 (y.2.2 F W cnt).2⟩⟩
theorem gd_dot (hx : MX 47 986901300524892553327 c e f) (ha : Gd t nu nm d za c v) (hb : Gd t nu nm d zb e u) : Gd t nu nm (d + 1) (za + zb + 1) f (.tup [.str 435406826897519, .int 0, .str 47, v, u]) :=
  ha.elim fun r x => hb.elim fun s y => ⟨_, se_bin hx x.1 y.1, ⟨fun _ => ⟨_, _, rfl, by decide, Nat.le_of_ble_eq_true rfl⟩, er_two x.2.1.2 y.2.1.2⟩, fun F W cnt => have q := bg_dot (y.2.2 F W cnt).1; ⟨q, ox_bin rfl q (x.2.2 F W cnt).2 (y.2.2 F W cnt).2⟩⟩
theorem gd_box (ha : Gd t nu nm d za 2 v) (hb : Gd t nu nm d zb 1 u) : Gd t nu nm (d + 1) (za + zb + 1) 1 (.tup [.str 435406839480441, .int 0, v, .tup [u]]) :=
  ha.elim fun r x => hb.elim fun s y => ⟨_, se_box x.1 y.1, ⟨fun _ => ⟨_, _, rfl, by decide, Nat.le_of_ble_eq_true rfl⟩, er_two y.2.1.2 x.2.1.2⟩, fun F W cnt => have q := bg_box (x.2.2 F W cnt).1; ⟨q, ox_box q (x.2.2 F W cnt).2 (y.2.2 F W cnt).2⟩⟩
theorem sets (t : Nat) (nu : List (V × V)) (nm : Nat → Nat) (c : Nat) : ∀ k ∈ List.range 3, ∃ op, sidxE [.str 44, .str 39, .str 46] (.int (k : Nat)) = some (.str op) ∧ ∀ {d za zb v u}, Gd t nu nm d za c v → Gd t nu nm d zb c u → Gd t nu nm (d + 1) (za + zb + 1) c (.tup [.str 435406826897519, .int 0, .str op, v, u]) :=
  List.forall_mem_cons.mpr ⟨⟨44, rfl, gd_bin (mx_add c) rfl (by decide)⟩, List.forall_mem_cons.mpr ⟨⟨39, rfl, gd_bin (mx_and c) rfl (by decide)⟩, List.forall_mem_cons.mpr ⟨⟨46, rfl, gd_bin (mx_sub c) rfl (by decide)⟩, List.forall_mem_nil _⟩⟩⟩
theorem sets2 (t : Nat) (nu : List (V × V)) (nm : Nat → Nat) : ∀ k ∈ List.range 4, ∃ op, (∀ σ, itemE σ (.tup [.str 44, .str 39, .str 46, .str 92274732]) (.int (k : Nat)) = some (.str op)) ∧ ∀ {d za zb v u}, Gd t nu nm d za 2 v → Gd t nu nm d zb 2 u → Gd t nu nm (d + 1) (za + zb + 1) 2 (.tup [.str 435406826897519, .int 0, .str op, v, u]) :=
  List.forall_mem_cons.mpr ⟨⟨44, fun _ => rfl, gd_bin (mx_add 2) rfl (by decide)⟩, List.forall_mem_cons.mpr ⟨⟨39, fun _ => rfl, gd_bin (mx_and 2) rfl (by decide)⟩, List.forall_mem_cons.mpr ⟨⟨46, fun _ => rfl, gd_bin (mx_sub 2) rfl (by decide)⟩, List.forall_mem_cons.mpr ⟨⟨92274732, fun _ => rfl, gd_bin mx_ovr rfl (by decide)⟩, List.forall_mem_nil _⟩⟩⟩⟩
theorem uns (h3 : T3 t) (hN : NuT t nu nm) : ∀ k ∈ List.range 3, ∃ g, sidxE [.str 43, .str 95, .str 127] (.int (k : Nat)) = some (.str g) ∧ ∀ {d z v}, Gd t nu nm d z 2 v → Gd t nu nm (d + 1) (z + 1) 2 (.tup [.str 247464047, .int 0, .str g, v]) :=
  List.forall_mem_cons.mpr ⟨⟨43, rfl, gd_star h3 hN⟩, List.forall_mem_cons.mpr ⟨⟨95, rfl, gd_clos⟩, List.forall_mem_cons.mpr ⟨⟨127, rfl, gd_turn⟩, List.forall_mem_nil _⟩⟩⟩
theorem nms_at (h3 : T3 t) : (nmsV t).length ≤ capL ∧ 0 < (nmsV t).length ∧ ∀ k : Nat, (k : Int) < ((nmsV t).length : Int) → ∃ s ∈ namesN t, ∀ σ, itemE σ (.list (nmsV t)) (.int k) = some (.str s) := by
  have hz : (nmsV t).length ≤ capL ∧ 0 < (nmsV t).length := by rcases h3 with rfl | rfl | rfl <;> decide
  refine ⟨hz.1, hz.2, fun k hk => ?_⟩
  have hk := Int.ofNat_lt.mp hk
  obtain ⟨s, hs, e⟩ := List.mem_map.mp (List.getElem_mem hk)
  exact ⟨s, hs, idx_i (e ▸ List.getElem?_eq_getElem hk) hz.1⟩
end
end P5
end Mine

namespace Mine
open PySem
namespace P5
section
variable {t d n : Nat} {nu : List (V × V)} {nm : Nat → Nat} {T : TabK} {L : List V} {σ : St}
noncomputable def GnT (T : TabK) (L : List V) (σ : St) (t f : Nat) (D : Int) (P : V → Prop) (cost : Nat) : Prop := ∀ (k : Nat) (K : V → St → Prop) (rr : Nat), k + (cost + rr) ≤ 10000 → (∀ v k', P v → k' + rr ≤ 10000 → K v (feedO L k' :: σ)) → T.call f [.loc 0, .list (nmsV t), .int D] (feedO L k :: σ) K
noncomputable def N75 (T : TabK) (L : List V) (σ : St) : Prop := ∀ (w : Int) (k : Nat) (K : V → St → Prop), 0 < w → k ≤ 10000 → (∀ v : Nat, (v : Int) < w → K (.int v) (feedO L (k + 1) :: σ)) → T.call 75 [.loc 0, .int w] (feedO L k :: σ) K
noncomputable abbrev G1 (t : Nat) (nu : List (V × V)) (nm : Nat → Nat) (d : Nat) : V → Prop := Gd t nu nm d (2 * d + 1) 1
noncomputable abbrev G2 (t : Nat) (nu : List (V × V)) (nm : Nat → Nat) (d : Nat) : V → Prop := Gd t nu nm d (2 * d + 1) 2
theorem le_z {d : Nat} : 1 ≤ 2 * d + 1 := Nat.le_add_left ..
theorem one_0 (h3 : T3 t) (hN : NuT t nu nm) (h75 : N75 T L σ) (k : Nat) (K : V → St → Prop) (rr : Nat) (b : k + (2 + rr) ≤ 10000) (z : ∀ v k', G1 t nu nm 0 v → k' + rr ≤ 10000 → K v (feedO L k' :: σ)) :
    kSs prog T f_law_one.body (enter f_law_one [.loc 0, .list (nmsV t), .int 0]) (feedO L k :: σ) (outK K) := by
  have q := nms_at h3
  have b1 := bd1 b
  conv => whnf
  refine h75 _ _ _ (by decide) (bds b) (all_lt (n := 3) (List.forall_mem_cons.mpr ⟨?_, List.forall_mem_cons.mpr ⟨?_, List.forall_mem_cons.mpr ⟨?_, List.forall_mem_nil _⟩⟩⟩))
  · conv => whnf
    refine oK_i _ (len_L _ q.1) ?_
    conv => whnf
    refine h75 _ _ _ (Int.ofNat_lt.mpr q.2.1) (bds b1) fun v hv => ?_
    obtain ⟨s, hs, e⟩ := q.2.2 v hv
    conv => whnf
    exact oK_i _ (e _) (z _ _ (gd_name h3 hN hs) (bdz (bd1 b1)))
  · exact z _ _ (gd_univ h3 hN) (bdz b1)
  · exact z _ _ gd_none (bdz b1)
theorem two_0 (h3 : T3 t) (hN : NuT t nu nm) (h75 : N75 T L σ) (k : Nat) (K : V → St → Prop) (rr : Nat) (b : k + (2 + rr) ≤ 10000) (z : ∀ v k', G2 t nu nm 0 v → k' + rr ≤ 10000 → K v (feedO L k' :: σ)) :
    kSs prog T f_law_two.body (enter f_law_two [.loc 0, .list (nmsV t), .int 0]) (feedO L k :: σ) (outK K) := by
  have b1 := bd1 b
  conv => whnf
  refine h75 _ _ _ (by decide) (bds b) (all_lt (n := 2) (List.forall_mem_cons.mpr ⟨?_, List.forall_mem_cons.mpr ⟨?_, List.forall_mem_nil _⟩⟩))
  · exact z _ _ (gd_iden h3 hN) (bdz b1)
  · exact z _ _ (gd_fld h3 hN) (bdz b1)
theorem one_s (h3 : T3 t) (hN : NuT t nu nm) {D : Int} (hD : decide ((0 : Int) < D) = true) (h75 : N75 T L σ) (z1 : GnT T L σ t 76 0 (G1 t nu nm 0) 2) (s1 : GnT T L σ t 76 (D - 1) (G1 t nu nm d) (4 * d + 2)) (s2 : GnT T L σ t 77 (D - 1) (G2 t nu nm d) (4 * d + 2))
    (k : Nat) (K : V → St → Prop) (rr : Nat) (b : k + (4 * (d + 1) + 2 + rr) ≤ 10000) (z : ∀ v k', G1 t nu nm (d + 1) v → k' + rr ≤ 10000 → K v (feedO L k' :: σ)) :
    kSs prog T f_law_one.body (enter f_law_one [.loc 0, .list (nmsV t), .int D]) (feedO L k :: σ) (outK K) := by
  have q := nms_at h3
  have b1 : k + 1 + (4 * d + 5 + rr) ≤ 10000 := bd1 b
  have b2 : k + 1 + (4 * d + 4 + rr) ≤ 10000 := bd0 b1 (Nat.le_succ _)
  conv => whnf
  refine iK_t hD ?_
  conv => whnf
  refine h75 _ _ _ (by decide) (bds b) (all_lt (n := 7) (List.forall_mem_cons.mpr ⟨?_, List.forall_mem_cons.mpr ⟨?_, List.forall_mem_cons.mpr ⟨?_, List.forall_mem_cons.mpr ⟨?_, List.forall_mem_cons.mpr ⟨?_, List.forall_mem_cons.mpr ⟨?_, List.forall_mem_cons.mpr ⟨?_, List.forall_mem_nil _⟩⟩⟩⟩⟩⟩⟩))
  · conv => whnf
    refine oK_i _ (len_L _ q.1) ?_
    conv => whnf
    refine h75 _ _ _ (Int.ofNat_lt.mpr q.2.1) (bds b1) fun v hv => ?_
    obtain ⟨s, hs, e⟩ := q.2.2 v hv
    conv => whnf
    exact oK_i _ (e _) (z _ _ ((gd_name h3 hN hs).up (Nat.le_refl _) le_z) (bdz (bd1 b1)))
  · exact z _ _ ((gd_univ h3 hN).up (Nat.le_refl _) le_z) (bdz b1)
  · exact z _ _ (gd_none.up (Nat.le_refl _) le_z) (bdz b1)
  · conv => whnf
    refine z1 _ _ (4 * d + 2 + rr) (bd2 b2 ar1) fun v k1 gv b3 => ?_
    conv => whnf
    refine s2 _ _ rr b3 fun u k2 gu b4 => ?_
    exact z _ _ ((gd_dot mx_dot12 (gv.up (Nat.zero_le d) (Nat.le_refl 1)) gu).up (Nat.le_refl _) ar3) b4
  · conv => whnf
    refine s2 _ _ (2 + rr) (bd2 b2 ar2) fun v k1 gv b3 => ?_
    conv => whnf
    refine z1 _ _ rr b3 fun u k2 gu b4 => ?_
    exact z _ _ ((gd_box gv (gu.up (Nat.zero_le d) (Nat.le_refl 1))).up (Nat.le_refl _) ar4) b4
  · conv => whnf
    refine s2 _ _ (2 + rr) (bd2 b2 ar2) fun v k1 gv b3 => ?_
    conv => whnf
    refine z1 _ _ rr b3 fun u k2 gu b4 => ?_
    exact z _ _ ((gd_dot mx_dot21 gv (gu.up (Nat.zero_le d) (Nat.le_refl 1))).up (Nat.le_refl _) ar4) b4
  · conv => whnf
    refine h75 _ _ _ (by decide) (bds b1) (all_lt (n := 3) fun x hx => ?_)
    obtain ⟨op, e, g⟩ := sets t nu nm 1 x hx
    conv => whnf
    refine oK_i _ e ?_
    conv => whnf
    refine z1 _ _ (4 * d + 2 + rr) (bd2 (bd1 b1) ar1) fun v k1 gv b3 => ?_
    conv => whnf
    refine s1 _ _ rr b3 fun u k2 gu b4 => ?_
    exact z _ _ ((g (gv.up (Nat.zero_le d) (Nat.le_refl 1)) gu).up (Nat.le_refl _) ar3) b4
theorem two_s (h3 : T3 t) (hN : NuT t nu nm) {D : Int} (hD : decide ((0 : Int) < D) = true) (h75 : N75 T L σ) (z1 : GnT T L σ t 76 0 (G1 t nu nm 0) 2) (z2 : GnT T L σ t 77 0 (G2 t nu nm 0) 2) (s1 : GnT T L σ t 76 (D - 1) (G1 t nu nm d) (4 * d + 2)) (s2 : GnT T L σ t 77 (D - 1) (G2 t nu nm d) (4 * d + 2))
    (k : Nat) (K : V → St → Prop) (rr : Nat) (b : k + (4 * (d + 1) + 2 + rr) ≤ 10000) (z : ∀ v k', G2 t nu nm (d + 1) v → k' + rr ≤ 10000 → K v (feedO L k' :: σ)) :
    kSs prog T f_law_two.body (enter f_law_two [.loc 0, .list (nmsV t), .int D]) (feedO L k :: σ) (outK K) := by
  have b1 : k + 1 + (4 * d + 5 + rr) ≤ 10000 := bd1 b
  have b2 : k + 1 + (4 * d + 4 + rr) ≤ 10000 := bd0 b1 (Nat.le_succ _)
  have un : ∀ w : Nat, kE prog T (.tup [(.cst (.str 247464047)), (.cst (.int 0)), (.sidx [(.str 43), (.str 95), (.str 127)] (.call 75 [(.var 0), (.cst (.int 3))])), (.call 77 [(.var 0), (.var 1), (.bin .sub (.var 2) (.cst (.int 1)))])]) [some (.loc 0), some (.list (nmsV t)), some (.int D), some (.int w), none] (feedO L (k + 1) :: σ) K := fun w => by
    conv => whnf
    refine h75 _ _ _ (by decide) (bds b1) (all_lt (n := 3) fun x hx => ?_)
    obtain ⟨op, e, g⟩ := uns h3 hN x hx
    conv => whnf
    refine oK_i _ e ?_
    conv => whnf
    refine s2 _ _ rr (bd0 (bd1 b1) (Nat.le_add_right _ 2)) fun u k2 gu b4 => ?_
    exact z _ _ ((g gu).up (Nat.le_refl _) ar5) b4
  conv => whnf
  refine iK_t hD ?_
  conv => whnf
  refine h75 _ _ _ (by decide) (bds b) (all_lt (n := 8) (List.forall_mem_cons.mpr ⟨?_, List.forall_mem_cons.mpr ⟨?_, List.forall_mem_cons.mpr ⟨?_, List.forall_mem_cons.mpr ⟨?_, List.forall_mem_cons.mpr ⟨?_, List.forall_mem_cons.mpr ⟨?_, List.forall_mem_cons.mpr ⟨?_, List.forall_mem_cons.mpr ⟨?_, List.forall_mem_nil _⟩⟩⟩⟩⟩⟩⟩⟩))
  · exact z _ _ ((gd_iden h3 hN).up (Nat.le_refl _) le_z) (bdz b1)
  · exact z _ _ ((gd_fld h3 hN).up (Nat.le_refl _) le_z) (bdz b1)
  · exact un 2
  · exact un 3
  · conv => whnf
    refine z1 _ _ (4 * d + 2 + rr) (bd2 b2 ar1) fun v k1 gv b3 => ?_
    conv => whnf
    refine s1 _ _ rr b3 fun u k2 gu b4 => ?_
    exact z _ _ ((gd_arrow (gv.up (Nat.zero_le d) (Nat.le_refl 1)) gu).up (Nat.le_refl _) ar3) b4
  · conv => whnf
    refine h75 _ _ _ (by decide) (bds b1) (all_lt (n := 4) fun x hx => ?_)
    obtain ⟨op, e, g⟩ := sets2 t nu nm x hx
    conv => whnf
    refine oK_i _ (e _) ?_
    conv => whnf
    refine z2 _ _ (4 * d + 2 + rr) (bd2 (bd1 b1) ar1) fun v k1 gv b3 => ?_
    conv => whnf
    refine s2 _ _ rr b3 fun u k2 gu b4 => ?_
    exact z _ _ ((g (gv.up (Nat.zero_le d) (Nat.le_refl 1)) gu).up (Nat.le_refl _) ar3) b4
  · conv => whnf
    refine z1 _ _ (4 * d + 2 + rr) (bd2 b2 ar1) fun v k1 gv b3 => ?_
    conv => whnf
    refine s2 _ _ rr b3 fun u k2 gu b4 => ?_
    exact z _ _ ((gd_bin mx_dom rfl (by decide) (gv.up (Nat.zero_le d) (Nat.le_refl 1)) gu).up (Nat.le_refl _) ar3) b4
  · conv => whnf
    refine s2 _ _ (2 + rr) (bd2 b2 ar2) fun v k1 gv b3 => ?_
    conv => whnf
    refine z1 _ _ rr b3 fun u k2 gu b4 => ?_
    exact z _ _ ((gd_bin mx_ran rfl (by decide) gv (gu.up (Nat.zero_le d) (Nat.le_refl 1))).up (Nat.le_refl _) ar4) b4
theorem next_T (hL : okL L) (hn : 1 ≤ n) : N75 ⟨callK prog n⟩ L σ := fun w k K hw hk h => by
  obtain ⟨m, rfl⟩ : ∃ m, n = m + 1 := ⟨n - 1, (Nat.sub_add_cancel hn).symm⟩
  exact next_ok hL hk hw h
theorem gen_ok (h3 : T3 t) (hN : NuT t nu nm) (hL : okL L) : ∀ (d n : Nat), d + 2 ≤ n → GnT ⟨callK prog n⟩ L σ t 76 d (G1 t nu nm d) (4 * d + 2) ∧ GnT ⟨callK prog n⟩ L σ t 77 d (G2 t nu nm d) (4 * d + 2)
  | 0, n, hn => ⟨fun k K rr b z => call_i (d := f_law_one) (up1 hn) rfl rfl (one_0 h3 hN (next_T hL (dn1 hn)) k K rr b z), fun k K rr b z => call_i (d := f_law_two) (up1 hn) rfl rfl (two_0 h3 hN (next_T hL (dn1 hn)) k K rr b z)⟩
  | d + 1, n, hn => by
    have z := gen_ok h3 hN hL 0 (n - 1) (Nat.le_trans (Nat.le_add_left 2 d) (dn1 hn))
    have s := gen_ok h3 hN hL d (n - 1) (dn1 hn)
    rw [← Int.add_sub_cancel (d : Int) 1] at s
    have hD : decide ((0 : Int) < ((d + 1 : Nat) : Int)) = true := decide_eq_true (Int.ofNat_lt.mpr (Nat.succ_pos d))
    have n1 := next_T (σ := σ) hL (Nat.le_trans (Nat.le_add_left 1 (d + 1)) (dn1 hn))
    exact ⟨fun k K rr b z' => call_i (d := f_law_one) (up1 hn) rfl rfl (one_s h3 hN hD n1 z.1 s.1 s.2 k K rr b z'), fun k K rr b z' => call_i (d := f_law_two) (up1 hn) rfl rfl (two_s h3 hN hD n1 z.1 z.2 s.1 s.2 k K rr b z')⟩
end
end P5
end Mine

namespace Mine
open PySem
section
variable {s s' : Nat} {v : V}
theorem dget_same : ∀ d : List (V × V), dget (.str s) (dset (.str s) v d) = some v
  | [] => if_pos (decide_eq_true rfl)
  | (a, b) :: r => by
    unfold dset
    by_cases h : V.beq a (.str s) = true
    · rw [if_pos h]; exact if_pos h
    · rw [if_neg h]; exact (if_neg h).trans (dget_same r)
theorem dget_other (n : s' ≠ s) : ∀ d : List (V × V), dget (.str s) (dset (.str s') v d) = dget (.str s) d
  | [] => if_neg fun h => n (of_decide_eq_true h)
  | (a, b) :: r => by
    unfold dset
    by_cases h : V.beq a (.str s') = true
    · rw [if_pos h]
      have q : ¬ V.beq a (.str s) = true := fun h2 => n (by rw [beq_eq a h] at h2; exact of_decide_eq_true h2)
      exact (if_neg q).trans (if_neg q).symm
    · rw [if_neg h]
      show (if V.beq a (.str s) = true then some b else dget (.str s) (dset (.str s') v r)) = (if V.beq a (.str s) = true then some b else dget (.str s) r)
      rw [dget_other n r]
theorem dset_len : ∀ d : List (V × V), (dset (.str s) v d).length ≤ d.length + 1
  | [] => Nat.le_refl 1
  | (a, b) :: r => by
    unfold dset
    by_cases h : V.beq a (.str s) = true
    · rw [if_pos h]; exact Nat.le_succ _
    · rw [if_neg h]; exact Nat.succ_le_succ (dset_len r)
end
namespace P5
section
variable {t d n k j s : Nat} {T : TabK} {L l a al : List V} {σ : St} {D : List (V × V)} {v : V}
noncomputable def fs (L : List V) (k : Nat) (σ : St) (D : List (V × V)) : St := feedO L k :: (σ ++ [.dict D])
theorem fs_at : (fs L k σ D)[σ.length + 1]? = some (.dict D) := at_end (l := σ)
theorem fs_get (h : dget (.str s) D = some v) : itemE (fs L k σ D) (.loc (σ.length + 1)) (.str s) = some v := by
  show (locD (fs L k σ D)[σ.length + 1]?).bind (fun d => dget (.str s) d) = _
  rw [fs_at]; exact h
theorem fs_set (h : D.length ≤ 20) : setObj (.loc (σ.length + 1)) (.str s) v (fs L k σ D) = some (fs L k σ (dset (.str s) v D)) := by
  show setObjO (.str s) v (σ.length + 1) (fs L k σ D) (fs L k σ D)[σ.length + 1]? = _
  rw [fs_at]
  show (if (true && decide (D.length ≤ capL)) = true then some ((fs L k σ D).set (σ.length + 1) (.dict (dset (.str s) v D))) else _) = _
  rw [decide_eq_true (Nat.le_trans h (by decide))]
  show some (feedO L k :: (σ ++ [SObj.dict D]).set σ.length _) = _
  rw [set_end]; rfl
noncomputable def fI (L : List V) (σ : St) (D : List (V × V)) (r c j : Nat) (σ' : St) : Prop := ∃ k, k + (j * c + r) ≤ 10000 ∧ σ' = fs L k σ D
noncomputable def wbody : List S := [.asg (.item (.var 2) (.item (.var 1) (.var 3))) (.comp (.gen (.one 4) (.val (.item (.tup [(.tup [(.cst (.int 0)), (.cst (.int 1))]), (.tup [(.cst (.int 2)), (.cst (.int 3))]), (.tup [(.cst (.int 4))])]) (.var 3))) [(.cmp .lt (.call 75 [(.var 0), (.cst (.int 3))]) (.cst (.int 2)))] (.elt (.tup [(.var 4)])))),
      .asg (.item (.var 2) (.cst (.str 431008786677869))) (.bin .add (.item (.var 2) (.cst (.str 431008786677869))) (.item (.var 2) (.item (.var 1) (.var 3))))]
noncomputable def wenv (σ : St) (t : Nat) (x : Option V) : REnv := [some (.loc 0), some (.list (topsV t)), some (.loc (σ.length + 1)), x, none, none, none, none, none]
theorem lap_ok (h75 : ∀ σ, N75 T L σ) {at' : List V} {r : Nat} {K : Out → Prop} (hc : ∀ σ, itemE σ (.tup [.tup [.int 0, .int 1], .tup [.int 2, .int 3], .tup [.int 4]]) (.int (j : Nat)) = some (.tup at')) (ha : at'.length ≤ 2) (hs : ∀ σ, itemE σ (.list (topsV t)) (.int (j : Nat)) = some (.str s)) (h1 : dget (.str cAll) D = some (.list al)) (hz : D.length ≤ 10) (hl : al.length ≤ 10) (ns : cAll ≠ s)
    (b : k + (2 + r) ≤ 10000) (z : ∀ a k', a.Sublist (at'.flatMap fun v => [.tup [v]]) → k' + r ≤ 10000 → K (.next (wenv σ t (some (.int (j : Nat)))) (fs L k' σ (dset (.str cAll) (.list (al ++ a)) (dset (.str s) (.list a) D))))) :
    kSs prog T wbody (wenv σ t (some (.int (j : Nat)))) (fs L k σ D) K := by
  conv => whnf
  refine oK_i _ (hc _) ?_
  conv => whnf
  refine loopC_ok (P := fun _ => True) (fun v r => r.Sublist [.tup [v]]) (fI L σ D r 1) 1 0 (fun _ _ => trivial) ⟨k, bd0 b (by rw [Nat.zero_add, Nat.mul_one]; exact ha), rfl⟩ (cap30 (Nat.le_trans ha (by decide)) (by decide)) (fun _ _ _ => rfl) (fun v r s => s.length_le) (fun v _ => ⟨_, rfl, fun j σ1 ds kk i q z => ?_⟩) ?_
  · obtain ⟨k1, b1, rfl⟩ := i
    rw [Nat.mul_one] at b1
    have b2 := bd1 b1
    conv => whnf
    refine h75 _ _ _ _ (by decide) (bds b1) (all_lt (n := 3) (List.forall_mem_cons.mpr ⟨?_, List.forall_mem_cons.mpr ⟨?_, List.forall_mem_cons.mpr ⟨?_, List.forall_mem_nil _⟩⟩⟩))
    · exact bK_i (le1 (m := 0) q) (z _ _ (List.Sublist.refl _) ⟨k1 + 1, by rw [Nat.mul_one]; exact b2, rfl⟩)
    · exact bK_i (le1 (m := 0) q) (z _ _ (List.Sublist.refl _) ⟨k1 + 1, by rw [Nat.mul_one]; exact b2, rfl⟩)
    · exact ap0 (p := fun l => kk l _) (z _ _ (List.nil_sublist _) ⟨k1 + 1, by rw [Nat.mul_one]; exact b2, rfl⟩)
  · rintro a _ o ⟨k1, b1, rfl⟩
    have sa := outs_sub (f := fun v => [V.tup [v]]) o
    have la : a.length ≤ 2 := Nat.le_trans sa.length_le (Nat.le_trans (fl_len (f := fun v => [V.tup [v]]) (c := 1) (fun _ => Nat.le_refl 1) at') (by rw [Nat.mul_one]; exact ha))
    conv => whnf
    refine oK_i _ (hs _) ?_
    conv => whnf
    refine oK_i _ (fs_set (Nat.le_trans hz (by decide))) ?_
    conv => whnf
    refine oK_i _ (fs_get ((dget_other ns.symm D).trans h1)) ?_
    conv => whnf
    refine oK_i _ (hs _) ?_
    conv => whnf
    refine oK_i _ (fs_get (dget_same D)) ?_
    conv => whnf
    refine oK_i _ (add_i _ (by rw [List.length_append]; exact Nat.le_trans (Nat.add_le_add hl la) (by decide))) ?_
    conv => whnf
    refine oK_i _ (fs_set (Nat.le_trans (dset_len D) (Nat.le_trans (Nat.succ_le_succ hz) (by decide)))) ?_
    exact z a k1 sa (by rw [Nat.zero_mul, Nat.zero_add] at b1; exact b1)
end
end P5
end Mine

namespace Mine
open PySem
theorem id_map (l : List V) : (l.flatMap fun v => [v]) = l := (one_map (f := id) l).trans (List.map_id l)
namespace P5
section
variable {t d n k j s : Nat} {T : TabK} {L l a al : List V} {σ : St} {D : List (V × V)} {v : V}
noncomputable def wtail : List S := [.asg (.item (.var 2) (.cst (.str 69))) (.comp (.gen (.one 5) (.val (.item (.var 2) (.cst (.str 66)))) [(.cmp .eq (.call 75 [(.var 0), (.cst (.int 2))]) (.cst (.int 0)))] (.elt (.var 5)))),
    .asg (.item (.var 2) (.cst (.str 84))) (.comp (.gen (.one 6) (.val (.item (.var 2) (.cst (.str 431008786677869)))) [(.cmp .eq (.call 75 [(.var 0), (.cst (.int 2))]) (.cst (.int 0)))] (.elt (.var 6)))),
    .asg (.item (.var 2) (.cst (.str 103))) (.comp (.gen (.one 7) (.val (.item (.var 2) (.cst (.str 66)))) [] (.gen (.one 8) (.val (.item (.var 2) (.cst (.str 431008786677869)))) [(.cmp .eq (.call 75 [(.var 0), (.cst (.int 2))]) (.cst (.int 0)))] (.elt (.bin .add (.var 7) (.var 8)))))),
    .ret (.var 2)]
theorem m1 {j c r k : Nat} (h : k + ((0 + j) * 1 + r) ≤ c) : k + (j + r) ≤ c := by rw [Nat.zero_add, Nat.mul_one] at h; exact h
theorem m2 {j c r k : Nat} (h : k + (j + r) ≤ c) : k + ((0 + j) * 1 + r) ≤ c := by rw [Nat.zero_add, Nat.mul_one]; exact h
theorem fin0 {c r k m : Nat} (h : k + (0 * m + r) ≤ c) : k + r ≤ c := by rw [Nat.zero_mul, Nat.zero_add] at h; exact h
theorem tail_ok (h75 : ∀ σ, N75 T L σ) {r : Nat} {x : Option V} {K : V → St → Prop} (hA : dget (.str 66) D = some (.list a)) (hall : dget (.str cAll) D = some (.list al)) (ra : Rs 1 a) (rl : Rs 1 al) (la : a.length ≤ 10) (ll : al.length ≤ 10) (hz : D.length ≤ 10) (b : k + (120 + r) ≤ 10000)
    (z : ∀ dl sl fl k', dl.Sublist a → sl.Sublist al → fl.Sublist (a.flatMap fun v => al.flatMap fun w => [cat v w]) → k' + r ≤ 10000 → K (.loc (σ.length + 1)) (fs L k' σ (dset (.str 103) (.list fl) (dset (.str 84) (.list sl) (dset (.str 69) (.list dl) D))))) :
    kSs prog T wtail (wenv σ t x) (fs L k σ D) (outK K) := by
  conv => whnf
  refine oK_i _ (fs_get hA) ?_
  conv => whnf
  refine loopC_ok (P := fun _ => True) (fun v r => r.Sublist [v]) (fI L σ D (110 + r) 1) 1 0 (fun _ _ => trivial) ⟨k, m2 (bd2 (b := 110) b (Nat.add_le_add_right la 110)), rfl⟩ (cap30 (Nat.le_trans la (by decide)) (by decide)) (fun _ _ _ => rfl) (fun v r s => s.length_le) (fun v _ => ⟨_, rfl, fun j σ1 ds kk i q z => ?_⟩) ?_
  · obtain ⟨k1, b1, rfl⟩ := i
    rw [Nat.mul_one] at b1
    have b2 := bd1 b1
    rw [← Nat.mul_one j] at b2
    conv => whnf
    refine h75 _ _ _ _ (by decide) (bds b1) (all_lt (n := 2) (List.forall_mem_cons.mpr ⟨?_, List.forall_mem_cons.mpr ⟨?_, List.forall_mem_nil _⟩⟩))
    · exact bK_i (le1 (m := 0) q) (z _ _ (List.Sublist.refl _) ⟨k1 + 1, b2, rfl⟩)
    · exact ap0 (p := fun l => kk l _) (z _ _ (List.nil_sublist _) ⟨k1 + 1, b2, rfl⟩)
  rintro dl _ o ⟨k1, b1, rfl⟩
  have sd := id_map a ▸ outs_sub (f := fun v => [v]) o
  conv => whnf
  refine oK_i (fs L k1 σ (dset (.str 69) (.list dl) D)) (fs_set (Nat.le_trans hz (by decide))) ?_
  have hall := (dget_other (v := .list dl) (by decide : (69 : Nat) ≠ cAll) D).trans hall
  have hA := (dget_other (v := .list dl) (by decide : (69 : Nat) ≠ 66) D).trans hA
  have hz := Nat.le_trans (dset_len (s := 69) (v := .list dl) D) (Nat.succ_le_succ hz)
  have z := z dl
  generalize dset (.str 69) (.list dl) D = D at hall hA hz z ⊢
  conv => whnf
  refine oK_i _ (fs_get hall) ?_
  conv => whnf
  refine loopC_ok (P := fun _ => True) (fun v r => r.Sublist [v]) (fI L σ D (100 + r) 1) 1 0 (fun _ _ => trivial) ⟨k1, m2 (bd2 (b := 100) (fin0 b1) (Nat.add_le_add_right ll 100)), rfl⟩ (cap30 (Nat.le_trans ll (by decide)) (by decide)) (fun _ _ _ => rfl) (fun v r s => s.length_le) (fun v _ => ⟨_, rfl, fun j σ1 ds kk i q z => ?_⟩) ?_
  · obtain ⟨k1, b1, rfl⟩ := i
    rw [Nat.mul_one] at b1
    have b2 := bd1 b1
    rw [← Nat.mul_one j] at b2
    conv => whnf
    refine h75 _ _ _ _ (by decide) (bds b1) (all_lt (n := 2) (List.forall_mem_cons.mpr ⟨?_, List.forall_mem_cons.mpr ⟨?_, List.forall_mem_nil _⟩⟩))
    · exact bK_i (le1 (m := 0) q) (z _ _ (List.Sublist.refl _) ⟨k1 + 1, b2, rfl⟩)
    · exact ap0 (p := fun l => kk l _) (z _ _ (List.nil_sublist _) ⟨k1 + 1, b2, rfl⟩)
  clear b b1
  rintro sl _ o ⟨k2, b2, rfl⟩
  have ss := id_map al ▸ outs_sub (f := fun v => [v]) o
  conv => whnf
  refine oK_i (fs L k2 σ (dset (.str 84) (.list sl) D)) (fs_set (Nat.le_trans hz (by decide))) ?_
  have hall := (dget_other (v := .list sl) (by decide : (84 : Nat) ≠ cAll) D).trans hall
  have hA := (dget_other (v := .list sl) (by decide : (84 : Nat) ≠ 66) D).trans hA
  have hz := Nat.le_trans (dset_len (s := 84) (v := .list sl) D) (Nat.succ_le_succ hz)
  have z := z sl
  generalize dset (.str 84) (.list sl) D = D at hall hA hz z ⊢
  conv => whnf
  refine oK_i _ (fs_get hA) ?_
  conv => whnf
  refine loopC_ok (P := Rc 1) (fun v r => r.Sublist (al.flatMap fun w => [cat v w])) (fI L σ D r 10) 10 0 ra ⟨k2, bd0 (fin0 b2) (by rw [Nat.zero_add]; exact Nat.mul_le_mul_right 10 la), rfl⟩ (cap30 (Nat.le_trans la (by decide)) (by decide)) (fun _ _ _ => rfl)
    (fun v r s => Nat.le_trans s.length_le (Nat.le_trans (fl_len (f := fun w => [cat v w]) (c := 1) (fun _ => Nat.le_refl 1) al) (by rw [Nat.mul_one]; exact ll))) (fun v hv => ?_) ?_
  · obtain ⟨x, rfl, _⟩ := R1 hv
    refine ⟨_, rfl, fun j σ1 ds kk i q z => ?_⟩
    obtain ⟨k1, b1, rfl⟩ := i
    conv => whnf
    refine oK_i _ (fs_get hall) ?_
    conv => whnf
    refine loopC_ok (P := Rc 1) (fun w r => r.Sublist [cat (.tup [.int x]) w]) (fI L σ D (j * 10 + r) 1) 1 0 rl ⟨k1, m2 (by rw [Nat.succ_mul, Nat.add_comm (j * 10), Nat.add_assoc] at b1; exact bd0 b1 ll), rfl⟩ (Nat.le_trans (Nat.add_le_add_left (by rw [Nat.mul_one]; exact ll) _) q) (fun _ _ _ => rfl) (fun v r s => s.length_le) (fun v hv => ?_) ?_
    · obtain ⟨y, rfl, _⟩ := R1 hv
      refine ⟨_, rfl, fun j σ1 ds kk i q z => ?_⟩
      obtain ⟨k1, b1, rfl⟩ := i
      rw [Nat.mul_one] at b1
      have b2 := bd1 b1
      rw [← Nat.mul_one j] at b2
      conv => whnf
      refine h75 _ _ _ _ (by decide) (bds b1) (all_lt (n := 2) (List.forall_mem_cons.mpr ⟨?_, List.forall_mem_cons.mpr ⟨?_, List.forall_mem_nil _⟩⟩))
      · exact bK_i (le1 (m := 0) q) (z _ _ (List.Sublist.refl _) ⟨k1 + 1, b2, rfl⟩)
      · exact ap0 (p := fun l => kk l _) (z _ _ (List.nil_sublist _) ⟨k1 + 1, b2, rfl⟩)
    · rintro r1 _ o ⟨k3, b3, rfl⟩
      exact z r1 _ (outs_sub (f := fun w => [cat (.tup [.int x]) w]) o) ⟨k3, fin0 b3, rfl⟩
  clear b2
  rintro fl _ o ⟨k3, b3, rfl⟩
  have sf := outs_sub (f := fun v => al.flatMap fun w => [cat v w]) o
  conv => whnf
  refine oK_i _ (fs_set (Nat.le_trans hz (by decide))) ?_
  exact z fl k3 sd ss sf (fin0 b3)
end
end P5
end Mine

namespace Mine
open PySem
noncomputable def five : List V := [.tup [.int 0], .tup [.int 1], .tup [.int 2], .tup [.int 3], .tup [.int 4]]
theorem five_RS : RS 1 five := by
  have w : (five.all fun v => rowOk v && (ikey v).length == 1) = true ∧ five.Pairwise fun a b => rkey a < rkey b := by decide +kernel
  refine .of_up (fun v hv => ?_) w.2
  have q := Bool.and_eq_true_iff.mp (List.all_eq_true.mp w.1 v hv)
  obtain ⟨k, hk, rfl⟩ := rowOk_of q.1
  have e := eq_of_beq q.2
  rw [ikey_row] at e
  exact ⟨k, hk, e, rfl⟩
structure LapI (ss : List Nat) (u : List V) (D : List (V × V)) (al : List V) : Prop where
  all : dget (.str cAll) D = some (.list al)
  sub : al.Sublist u
  at' : ∀ s ∈ ss, ∃ l, dget (.str s) D = some (.list l) ∧ l.Sublist al
  mem : ∀ v ∈ al, ∃ s ∈ ss, ∃ l, dget (.str s) D = some (.list l) ∧ v ∈ l
noncomputable def nxt (f : REnv → St → Prop) (k : Out → Prop) : Out → Prop
  | .next ρ σ => f ρ σ
  | .ret v σ => k (.ret v σ)
theorem loopS_cons {st : St → Bool} {bnd : V → REnv → Option REnv} {body : REnv → St → (Out → Prop) → Prop} {v : V} {r : List V} {ρ : REnv} {σ : St} {k : Out → Prop} (ρ' : REnv) (h : st σ = true) (e : bnd v ρ = some ρ') (hb : body ρ' σ (nxt (fun ρ σ => kLoopS st bnd body r ρ σ k) k)) : kLoopS st bnd body (v :: r) ρ σ k :=
  bK_i h (oK_i ρ' e hb)
theorem LapI.lap {ss : List Nat} {u a at' al : List V} {D : List (V × V)} {s : Nat} (h : LapI ss u D al) (n : s ∉ ss) (n2 : cAll ∉ s :: ss) (ha : a.Sublist at') : LapI (ss ++ [s]) (u ++ at') (dset (.str cAll) (.list (al ++ a)) (dset (.str s) (.list a) D)) (al ++ a) := by
  have e0 : cAll ≠ s := fun e => n2 (e ▸ List.mem_cons_self ..)
  have es : dget (.str s) (dset (.str cAll) (.list (al ++ a)) (dset (.str s) (.list a) D)) = some (.list a) := (dget_other e0 _).trans (dget_same D)
  have eo : ∀ x ∈ ss, dget (.str x) (dset (.str cAll) (.list (al ++ a)) (dset (.str s) (.list a) D)) = dget (.str x) D := fun x hx => (dget_other (fun (e : cAll = x) => n2 (e ▸ List.mem_cons_of_mem _ hx)) _).trans (dget_other (fun (e : s = x) => n (e ▸ hx)) D)
  refine ⟨dget_same _, h.sub.append ha, fun x hx => ?_, fun v hv => ?_⟩
  · rcases List.mem_append.mp hx with hx | hx
    · obtain ⟨l, h1, h2⟩ := h.at' x hx
      exact ⟨l, (eo x hx).trans h1, h2.trans (List.sublist_append_left al a)⟩
    · rw [List.mem_singleton.mp hx]
      exact ⟨a, es, List.sublist_append_right al a⟩
  · rcases List.mem_append.mp hv with hv | hv
    · obtain ⟨x, hx, l, h1, h2⟩ := h.mem v hv
      exact ⟨x, List.mem_append_left _ hx, l, (eo x hx).trans h1, h2⟩
    · exact ⟨s, List.mem_append_right _ (List.mem_singleton.mpr rfl), a, es, hv⟩
noncomputable def wOf (D : List (V × V)) (s : Nat) : List V := ((dget (.str s) D).bind asListL).getD []
theorem wOf_is {D : List (V × V)} {s : Nat} {l : List V} (h : dget (.str s) D = some (.list l)) : wOf D s = l ∧ dget (.str s) D = some (.list (wOf D s)) := by
  have e : wOf D s = l := by unfold wOf; rw [h]; rfl
  exact ⟨e, e.symm ▸ h⟩
theorem wok {t : Nat} {ss : List Nat} {u al dl sl fl : List V} {D : List (V × V)} (h : LapI ss u D al) (hu : u.Sublist five) (e1 : 66 :: (topsN t).tail = ss) (e2 : namesN t = ss ++ [69, 84]) (n : ∀ s ∈ cAll :: ss, 69 ≠ s ∧ 84 ≠ s ∧ 103 ≠ s) (h66 : 66 ∈ ss)
    (hd : ∀ l, dget (.str 66) D = some (.list l) → dl.Sublist l) (hs : sl.Sublist al) (hf : ∀ l, dget (.str 66) D = some (.list l) → fl.Sublist (l.flatMap fun v => al.flatMap fun w => [cat v w])) :
    WOk t (wOf (dset (.str 103) (.list fl) (dset (.str 84) (.list sl) (dset (.str 69) (.list dl) D)))) ∧ ∀ s ∈ keysN t, dget (.str s) (dset (.str 103) (.list fl) (dset (.str 84) (.list sl) (dset (.str 69) (.list dl) D))) = some (.list (wOf (dset (.str 103) (.list fl) (dset (.str 84) (.list sl) (dset (.str 69) (.list dl) D))) s)) := by
  have old : ∀ s ∈ cAll :: ss, dget (.str s) (dset (.str 103) (.list fl) (dset (.str 84) (.list sl) (dset (.str 69) (.list dl) D))) = dget (.str s) D := fun s m =>
    (dget_other (n s m).2.2 _).trans ((dget_other (n s m).2.1 _).trans (dget_other (n s m).1 D))
  have f103 := dget_same (s := 103) (v := .list fl) (dset (.str 84) (.list sl) (dset (.str 69) (.list dl) D))
  have f84 := (dget_other (v := .list fl) (by decide : (103 : Nat) ≠ 84) _).trans (dget_same (s := 84) (v := .list sl) (dset (.str 69) (.list dl) D))
  have f69 := (dget_other (v := .list fl) (by decide : (103 : Nat) ≠ 69) _).trans ((dget_other (v := .list sl) (by decide : (84 : Nat) ≠ 69) _).trans (dget_same (s := 69) (v := .list dl) D))
  have ral : RS 1 al := five_RS.sub (h.sub.trans hu)
  have fall := (old cAll (List.mem_cons_self ..)).trans h.all
  obtain ⟨a, ha, sa⟩ := h.at' 66 h66
  have fs : ∀ s ∈ ss, ∃ l, dget (.str s) (dset (.str 103) (.list fl) (dset (.str 84) (.list sl) (dset (.str 69) (.list dl) D))) = some (.list l) ∧ l.Sublist al := fun s m => (h.at' s m).elim fun l q => ⟨l, (old s (List.mem_cons_of_mem _ m)).trans q.1, q.2⟩
  have one : ∀ s ∈ namesN t, ∃ l, dget (.str s) (dset (.str 103) (.list fl) (dset (.str 84) (.list sl) (dset (.str 69) (.list dl) D))) = some (.list l) ∧ RS 1 l := fun s m => by
    rw [e2] at m
    rcases List.mem_append.mp m with m | m
    · exact (fs s m).elim fun l q => ⟨l, q.1, ral.sub q.2⟩
    · rcases List.mem_cons.mp m with rfl | m
      · exact ⟨dl, f69, ral.sub ((hd a ha).trans sa)⟩
      · rw [List.mem_singleton.mp m]
        exact ⟨sl, f84, ral.sub hs⟩
  refine ⟨⟨(wOf_is fall).1.symm ▸ ral, fun s m => (one s m).elim fun l q => (wOf_is q.1).1.symm ▸ q.2, (wOf_is f103).1.symm ▸ (prod_RS (ral.sub sa) ral).sub (hf a ha), fun v => ?_⟩, fun s m => ?_⟩
  · rw [(wOf_is fall).1, e1]
    refine ⟨fun m => ?_, fun ⟨s, hs, m⟩ => ?_⟩
    · obtain ⟨s, hs, l, h1, h2⟩ := h.mem v m
      exact ⟨s, hs, (wOf_is ((old s (List.mem_cons_of_mem _ hs)).trans h1)).1.symm ▸ h2⟩
    · obtain ⟨l, h1, h2⟩ := fs s hs
      rw [(wOf_is h1).1] at m
      exact h2.subset m
  · rcases List.mem_cons.mp m with rfl | m
    · exact (wOf_is fall).2
    · rcases List.mem_cons.mp m with rfl | m
      · exact (wOf_is f103).2
      · exact (one s m).elim fun l q => (wOf_is q.1).2
namespace P5
section
variable {t n k : Nat} {T : TabK} {L : List V} {σ : St} {K : V → St → Prop}
noncomputable def WoT (T : TabK) (L : List V) (t : Nat) : Prop := ∀ (k : Nat) (σ : St) (K : V → St → Prop) (r : Nat), k + (200 + r) ≤ 10000 → (∀ w d k', WOk t w → (∀ s ∈ keysN t, dget (.str s) d = some (.list (w s))) → k' + r ≤ 10000 → K (.loc (σ.length + 1)) (feedO L k' :: (σ ++ [.dict d]))) → T.call 83 [.loc 0, .list (topsV t)] (feedO L k :: σ) K
noncomputable def wK (T : TabK) (K : V → St → Prop) : Out → Prop
  | .next ρ σ => kSs prog T wtail ρ σ (outK K)
  | .ret v σ => K v σ
noncomputable def wloop (T : TabK) (l0 js : List V) (ρ : REnv) (σ : St) (K : Out → Prop) : Prop := kLoopS (stillB none l0) (fun v ρ => bindTg ρ (.one 3) v) (fun ρ σ k => kSs prog T wbody ρ σ k) js ρ σ K
theorem wend (h75 : ∀ σ, N75 T L σ) {r : Nat} {x : Option V} {ss : List Nat} {u al : List V} {D : List (V × V)} (h : LapI ss u D al) (hu : u.Sublist five) (e1 : 66 :: (topsN t).tail = ss) (e2 : namesN t = ss ++ [69, 84]) (n : ∀ s ∈ cAll :: ss, 69 ≠ s ∧ 84 ≠ s ∧ 103 ≠ s) (h66 : 66 ∈ ss) (hz : D.length ≤ 10) (b : k + (120 + r) ≤ 10000)
    (z : ∀ w d k', WOk t w → (∀ s ∈ keysN t, dget (.str s) d = some (.list (w s))) → k' + r ≤ 10000 → K (.loc (σ.length + 1)) (feedO L k' :: (σ ++ [.dict d]))) : wK T K (.next (wenv σ t x) (fs L k σ D)) := by
  obtain ⟨a, ha, sa⟩ := h.at' 66 h66
  have ral : RS 1 al := five_RS.sub (h.sub.trans hu)
  have ll : al.length ≤ 10 := Nat.le_trans (h.sub.trans hu).length_le (by decide)
  refine tail_ok h75 ha h.all (ral.sub sa).ok ral.ok (Nat.le_trans sa.length_le ll) ll hz b fun dl sl fl k' hd hs hf b' => ?_
  have q := wok (dl := dl) (sl := sl) (fl := fl) h hu e1 e2 n h66 (fun l e => by cases ha.symm.trans e; exact hd) hs fun l e => by cases ha.symm.trans e; exact hf
  exact z _ _ k' q.1 q.2 b'
theorem wlap (h75 : ∀ σ, N75 T L σ) {r j s : Nat} {x : Option V} {ss : List Nat} {u al at' js l0 : List V} {D : List (V × V)} {K : Out → Prop} (h : LapI ss u D al) (hu : u.Sublist five) (n : s ∉ ss) (n2 : cAll ∉ s :: ss) (hz : D.length ≤ 8) (hc : ∀ σ, itemE σ (.tup [.tup [.int 0, .int 1], .tup [.int 2, .int 3], .tup [.int 4]]) (.int (j : Nat)) = some (.tup at')) (ha : at'.length ≤ 2)
    (hs : ∀ σ, itemE σ (.list (topsV t)) (.int (j : Nat)) = some (.str s)) (b : k + (2 + r) ≤ 10000) (z : ∀ al' D' k', LapI (ss ++ [s]) (u ++ at'.flatMap fun v => [.tup [v]]) D' al' → D'.length ≤ D.length + 2 → k' + r ≤ 10000 → wloop T l0 js (wenv σ t (some (.int (j : Nat)))) (fs L k' σ D') K) :
    wloop T l0 (.int (j : Nat) :: js) (wenv σ t x) (fs L k σ D) K :=
  loopS_cons (wenv σ t (some (.int (j : Nat)))) rfl rfl (lap_ok h75 hc ha hs h.all (Nat.le_trans hz (by decide)) (Nat.le_trans (h.sub.trans hu).length_le (by decide)) (fun e => n2 (e ▸ List.mem_cons_self ..)) b fun a k' sa b' =>
    z _ _ k' (h.lap n n2 sa) (Nat.le_trans (dset_len _) (Nat.succ_le_succ (dset_len D))) b')
theorem lap0 : LapI [] [] [(.str cAll, .list [])] [] := ⟨rfl, List.Sublist.refl _, fun _ m => (nomatch m), fun _ m => (nomatch m)⟩
theorem world_x (h3 : T3 t) (h75 : ∀ σ, N75 T L σ) (r : Nat) (b : k + (200 + r) ≤ 10000) (z : ∀ w d k', WOk t w → (∀ s ∈ keysN t, dget (.str s) d = some (.list (w s))) → k' + r ≤ 10000 → K (.loc (σ.length + 1)) (feedO L k' :: (σ ++ [.dict d]))) :
    kSs prog T f_law_world.body (enter f_law_world [.loc 0, .list (topsV t)]) (feedO L k :: σ) (outK K) := by
  rcases h3 with rfl | rfl | rfl
  · have w : wloop T [.int (0 : Nat)] [.int (0 : Nat)] (wenv σ 1 none) (fs L k σ [(.str cAll, .list [])]) (wK T K) :=
      wlap h75 lap0 (List.nil_sublist _) (by decide) (by decide) (by decide) (fun _ => rfl) (by decide) (fun _ => rfl) (bd2 (b := 120) b (by decide)) fun al D k1 h hz b1 =>
      bK_i rfl (wend h75 h (List.take_sublist 2 five) rfl rfl (by decide) (by decide) (Nat.le_trans hz (by decide)) b1 z)
    exact w
  · have w : wloop T [.int (0 : Nat), .int (1 : Nat)] [.int (0 : Nat), .int (1 : Nat)] (wenv σ 2 none) (fs L k σ [(.str cAll, .list [])]) (wK T K) :=
      wlap h75 lap0 (List.nil_sublist _) (by decide) (by decide) (by decide) (fun _ => rfl) (by decide) (fun _ => rfl) (bd2 (b := 122) b (by decide)) fun al D k1 h hz b1 =>
      wlap h75 h (List.take_sublist 2 five) (by decide) (by decide) (Nat.le_trans hz (by decide)) (fun _ => rfl) (by decide) (fun _ => rfl) (bd2 (b := 120) b1 (by decide)) fun al D' k2 h hz2 b2 =>
      bK_i rfl (wend h75 h (List.take_sublist 4 five) rfl rfl (by decide) (by decide) (Nat.le_trans hz2 (Nat.le_trans (Nat.add_le_add_right hz 2) (by decide))) b2 z)
    exact w
  · have w : wloop T [.int (0 : Nat), .int (1 : Nat), .int (2 : Nat)] [.int (0 : Nat), .int (1 : Nat), .int (2 : Nat)] (wenv σ 3 none) (fs L k σ [(.str cAll, .list [])]) (wK T K) :=
      wlap h75 lap0 (List.nil_sublist _) (by decide) (by decide) (by decide) (fun _ => rfl) (by decide) (fun _ => rfl) (bd2 (b := 124) b (by decide)) fun al D k1 h hz b1 =>
      wlap h75 h (List.take_sublist 2 five) (by decide) (by decide) (Nat.le_trans hz (by decide)) (fun _ => rfl) (by decide) (fun _ => rfl) (bd2 (b := 122) b1 (by decide)) fun al D' k2 h hz2 b2 =>
      wlap h75 h (List.take_sublist 4 five) (by decide) (by decide) (Nat.le_trans hz2 (Nat.le_trans (Nat.add_le_add_right hz 2) (by decide))) (fun _ => rfl) (by decide) (fun _ => rfl) (bd2 (b := 120) b2 (by decide)) fun al D'' k3 h hz3 b3 =>
      bK_i rfl (wend h75 h (List.Sublist.refl five) rfl rfl (by decide) (by decide) (Nat.le_trans hz3 (Nat.le_trans (Nat.add_le_add_right (Nat.le_trans hz2 (Nat.add_le_add_right hz 2)) 2) (by decide))) b3 z)
    exact w
theorem world_ok (h3 : T3 t) (hL : okL L) (hn : 2 ≤ n) : WoT ⟨callK prog n⟩ L t := fun k σ K r b z => call_i (d := f_law_world) (up1 hn) rfl rfl (world_x h3 (fun σ => next_T hL (dn1 hn)) r b z)
end
end P5
end Mine

namespace Mine
open PySem
section
variable {σ τ : St} {x y : SObj} {v : V} {f : List V} {n : Nat}
theorem mid_at : ((σ ++ [x]) ++ τ)[σ.length]? = some x := pre_get (List.prefix_append _ τ) at_end
theorem mid_set : ((σ ++ [x]) ++ τ).set σ.length y = (σ ++ [y]) ++ τ := by
  rw [List.set_append_left _ _ (by rw [List.length_append]; exact Nat.lt_succ_self _), set_end]
theorem app_mid (hz : (f ++ [v]).length ≤ capL) : mthE .app (.loc σ.length) v ((σ ++ [.list f]) ++ τ) = some ((σ ++ [.list (f ++ [v])]) ++ τ) := by
  show mthO ((σ ++ [.list f]) ++ τ) v σ.length .app ((σ ++ [.list f]) ++ τ)[σ.length]? = _
  rw [mid_at]
  show (okLen (f ++ [v])).map (fun l => ((σ ++ [SObj.list f]) ++ τ).set σ.length (.list l)) = _
  rw [okLen_i hz]
  exact congrArg some mid_set
noncomputable def held (m : List V) (l : List V) : List V := l.flatMap fun v => [.bool (m.any fun y => V.beq y v)]
theorem held_bool {m l : List V} {y : V} (h : y ∈ held m l) : isBool y = true := (List.mem_flatMap.mp h).elim fun v q => by rw [List.mem_singleton.mp q.2]; rfl
theorem inB {b : Bool} {l : List V} (h : ∀ y ∈ l, isBool y = true) : pyIn (.bool b) l = some (l.any fun y => V.beq y (.bool b)) :=
  if_pos (List.all_eq_true.mpr fun y hy => by unfold pyEq; rw [if_pos (by rw [h y hy]; exact Bool.or_true _)]; rfl)
theorem inB_at {b : Bool} {l : List V} (hn : σ[n]? = some (.list l)) (h : ∀ y ∈ l, isBool y = true) : inE σ (.bool b) (.loc n) = some (l.any fun y => V.beq y (.bool b)) := by
  unfold inE
  rw [list_at hn]
  exact inB h
noncomputable def due (k : Bool) (l : List V) : Bool := if k = true then !(l.any fun y => V.beq y (.bool false)) else l.any fun y => V.beq y (.bool true)
noncomputable def kindS (k : Bool) : Nat := if k = true then 431008786677869 else 4137613899626305218353401740394612
end
namespace P5
section
variable {T : TabK} {R dom r : V} {al m l : List V} {σ : St} {x : Nat} {k : Bool} {K : V → St → Prop}
noncomputable def toldV (k : Bool) (x : Nat) (dom r : V) : V := .tup [.str (kindS k), .tup [.tup [.str x, dom]], .tup [.str 222298223, .tup [.str 523367740342387, .str x], r]]
noncomputable def kbody : List S := [.asg (.name 7) (.dict [(.item (.item (.var 3) (.cst (.int 0))) (.cst (.int 0))), (.var 6)]),
      .mth .app (.var 5) (.and [(.cmp .eq (.call 81 [(.item (.var 4) (.cst (.int 1))), (.var 1), (.var 7)]) (.list [(.var 6)])), (.cmp .in_ (.var 6) (.call 81 [(.item (.var 4) (.cst (.int 2))), (.var 1), (.var 7)]))])]
noncomputable def kenv (k : Bool) (x : Nat) (dom r R : V) (σ : St) (x6 x7 : Option V) : REnv := [some (toldV k x dom r), some R, some (.str (kindS k)), some (.tup [.tup [.str x, dom]]), some (.tup [.str 222298223, .tup [.str 523367740342387, .str x], r]), some (.loc σ.length), x6, x7]
theorem kept_loop (hv : ∀ v, RwT T R (.dict [(.str x, v)]) (.tup [.str 523367740342387, .str x]) [v]) (hr : ∀ env, RwT T R env r m) (rm : Rs 1 m) {l0 : List V} {K : Out → Prop} : ∀ (l hl : List V) (τ : St) (x6 x7 : Option V), Rs 1 l → hl.length + l.length ≤ 60 → (∀ τ' x6 x7, K (.next (kenv k x dom r R σ x6 x7) ((σ ++ [.list (hl ++ held m l)]) ++ τ'))) →
    kLoopS (stillB none l0) (fun v ρ => bindTg ρ (.one 6) v) (fun ρ σ k => kSs prog T kbody ρ σ k) l (kenv k x dom r R σ x6 x7) ((σ ++ [.list hl]) ++ τ) K
  | [], hl, τ, x6, x7, _, _, z => bK_i rfl (by have z := z τ x6 x7; rw [show hl ++ held m [] = hl from List.append_nil hl] at z; exact z)
  | v :: l, hl, τ, x6, x7, rl, hz, z => by
    have hv1 := rl v (List.mem_cons_self ..)
    have ih := kept_loop hv hr rm (l0 := l0) (K := K) l (hl ++ [.bool (m.any fun y => V.beq y v)])
    have e : (hl ++ [.bool (m.any fun y => V.beq y v)]) ++ held m l = hl ++ held m (v :: l) := (List.append_assoc ..).trans rfl
    rw [e] at ih
    have hz2 : (hl ++ [V.bool (m.any fun y => V.beq y v)]).length + l.length ≤ 60 := by rw [List.length_append, Nat.add_assoc, Nat.add_comm _ l.length]; exact hz
    obtain ⟨a, ea, _⟩ := R1 hv1
    refine loopS_cons (kenv k x dom r R σ (some v) x7) rfl rfl ?_
    have hvv := hv v
    have eq1 : V.beq (.list [v]) (.list [v]) = true := by rw [ea]; show ((decide (a = a) && true) && true) = true; rw [decide_eq_true rfl]; rfl
    have eq2 : pyEq (.list [v]) (.list [v]) = some true := by
      rw [← eq1]
      refine if_pos ?_
      rw [ea]; rfl
    have hin := in_i (k := v) (l := m) ([] : St) hv1.eq fun y hy => (rm y hy).eq
    refine (?_ : kSs prog T kbody _ _ _)
    conv => whnf
    refine bK_i (con_at (σ := (σ ++ [.list hl]) ++ τ) mid_at rfl) ?_
    conv => whnf
    refine hvv _ _ fun σ1 p1 => ?_
    conv => whnf
    refine oK_i true eq2 ?_
    conv => whnf
    refine hr _ _ _ fun σ2 p2 => ?_
    conv => whnf
    refine oK_i _ hin ?_
    obtain ⟨τ2, e2⟩ := (List.prefix_append (σ ++ [SObj.list hl]) τ).trans (p1.trans p2)
    rw [← e2]
    conv => whnf
    refine oK_i _ (app_mid (Nat.le_trans (Nat.le_add_right _ l.length) (Nat.le_trans hz2 (by decide)))) ?_
    exact ih τ2 _ _ (fun w hw => rl w (List.mem_cons_of_mem _ hw)) hz2 z
theorem kept_x (hd : RwT T R (.dict []) dom al) (ra : Rs 1 al) (la : al.length ≤ 40) (hv : ∀ v, RwT T R (.dict [(.str x, v)]) (.tup [.str 523367740342387, .str x]) [v]) (hr : ∀ env, RwT T R env r m) (rm : Rs 1 m)
    (z : ∀ σ', σ <+: σ' → K (.bool (due k (held m al))) σ') : kSs prog T f_law_is_kept.body (enter f_law_is_kept [toldV k x dom r, R]) σ (outK K) := by
  have fin : ∀ τ' x6 x7, kE prog T (.ite (.cmp .eq (.var 2) (.cst (.str 431008786677869))) (.cmp .notIn (.cst (.bool false)) (.var 5)) (.cmp .in_ (.cst (.bool true)) (.var 5))) (kenv k x dom r R σ x6 x7) ((σ ++ [.list (held m al)]) ++ τ') K := fun τ' x6 x7 => by
    have w := z ((σ ++ [.list (held m al)]) ++ τ') ((List.prefix_append σ _).trans (List.prefix_append _ τ'))
    cases k with
    | true =>
      conv => whnf
      exact oK_i (!(held m al).any fun y => V.beq y (.bool false)) (congrArg (Option.map (!·)) (inB_at mid_at fun y => held_bool)) w
    | false =>
      conv => whnf
      exact oK_i ((held m al).any fun y => V.beq y (.bool true)) (inB_at mid_at fun y => held_bool) w
  have lp : ∀ σ1, (σ ++ [.list []]) <+: σ1 → kLoopS (stillB none al) (fun v ρ => bindTg ρ (.one 6) v) (fun ρ σ k => kSs prog T kbody ρ σ k) al (kenv k x dom r R σ none none) σ1 (nxt (fun ρ σ => kE prog T (.ite (.cmp .eq (.var 2) (.cst (.str 431008786677869))) (.cmp .notIn (.cst (.bool false)) (.var 5)) (.cmp .in_ (.cst (.bool true)) (.var 5))) ρ σ K) (outK K)) := fun σ1 p => p.elim fun τ e => e ▸
    kept_loop hv hr rm al [] τ none none ra (by rw [List.length_nil, Nat.zero_add]; exact Nat.le_trans la (by decide)) fun τ' x6 x7 => fin τ' x6 x7
  conv => whnf
  refine hd _ _ fun σ1 p => ?_
  exact lp σ1 p
end
end P5
end Mine

namespace Mine
open PySem
section
variable {σ τ τ' : St} {x : SObj} {v : V} {f l : List V} {d d' : List (V × V)} {n i : Nat}
theorem pre_set (p : τ <+: τ') (h : τ.length ≤ i) : τ <+: τ'.set i x := p.elim fun t e => ⟨t.set (i - τ.length) x, by rw [← e, List.set_append_right _ _ h]⟩
theorem set_at (h : τ[i]? = some x) {y : SObj} : (τ.set i y)[i]? = some y := by rw [List.getElem?_set_self (List.getElem?_eq_some_iff.mp h).1]
theorem set_off {j : Nat} (h : τ[i]? = some x) (n : j ≠ i) {y : SObj} : (τ.set j y)[i]? = some x := (List.getElem?_set_ne n).trans h
theorem app_at (h : σ[n]? = some (.list f)) (hz : (f ++ [v]).length ≤ capL) : mthE .app (.loc n) v σ = some (σ.set n (.list (f ++ [v]))) := by
  show mthO σ v n .app σ[n]? = _
  rw [h]
  show (okLen (f ++ [v])).map (fun l => σ.set n (.list l)) = _
  rw [okLen_i hz]; rfl
theorem ext_at (h : σ[n]? = some (.list f)) (hz : (f ++ l).length ≤ capL) : mthE .ext (.loc n) (.list l) σ = some (σ.set n (.list (f ++ l))) := by
  show mthO σ (.list l) n .ext σ[n]? = _
  rw [h]
  show (okLen (f ++ l)).map (fun l => σ.set n (.list l)) = _
  rw [okLen_i hz]; rfl
theorem upd_at (h : σ[n]? = some (.dict d)) (hz : d.length + l.length ≤ capL) (e : updD d l = some d') : mthE .upd (.loc n) (.list l) σ = some (σ.set n (.dict d')) := by
  show mthO σ (.list l) n .upd σ[n]? = _
  rw [h]
  show (if d.length + l.length ≤ capL then (updD d l).map fun d => σ.set n (.dict d) else none) = _
  rw [if_pos hz, e]; rfl
theorem cond_at (h : σ[n]? = some (.dict d)) : isCon .upd (.loc n) σ = true := by
  show conO .upd σ[n]? = true
  rw [h]; rfl
theorem dict_at (h : σ[n]? = some (.dict d)) : asDict σ (.loc n) = some d := by
  show locD σ[n]? = _
  rw [h]; rfl
theorem put_at {s : Nat} (h : σ[n]? = some (.dict d)) (hz : d.length ≤ capL) : setObj (.loc n) (.str s) v σ = some (σ.set n (.dict (dset (.str s) v d))) := by
  show setObjO (.str s) v n σ σ[n]? = _
  rw [h]
  show (if (true && decide (d.length ≤ capL)) = true then some (σ.set n (.dict (dset (.str s) v d))) else _) = _
  rw [decide_eq_true hz]; rfl
end
noncomputable abbrev vX : Nat := 532163711729714
noncomputable def varV : V := .tup [.str 523367740342387, .str vX]
noncomputable def envD : List (V × V) := [(.str 121, varV), (.str 0, .dict [])]
noncomputable def c1 (c : Oc) : Oc := ⟨c.t, c.F, c.W, c.nu, c.cnt + 1⟩
noncomputable def declV : V := .tup [.int 0, .bool false, .tup [.str 121], .str 0, .tup [.str 1088358388532248576119, .int 0]]
namespace P5
section
variable {c : Oc} {sp n d z : Nat} {ht : Nat} {pk : Int} {τ τ0 : St} {K : V → St → Prop} {nm : Nat → Nat} {ev v u r r' q dom : V} {T : TabK} {i0 i1 i2 : Nat}
theorem stt_at {ht : Int} {x : SObj} {i : Nat} (h : τ[i]? = some x) : (stt c sp ht pk τ)[i + 13]? = some x := h
theorem fresh_eq (F W : SObj) (t : Nat) (nu : List (V × V)) (n sp : Nat) (ht pk : Int) (τ : St) (K : V → St → Prop) : callK prog (n + 1) 4 [.loc 11, .str 121] (stt ⟨t, F, W, nu, 0⟩ sp ht pk τ) K = K (.str vX) (stt ⟨t, F, W, nu, 1⟩ sp ht pk τ) := by kernel_rfl!
theorem ar_eq : ∀ {c : Oc}, T3 c.t → ∀ (nm : Nat → Nat) n sp ht pk τ K, callK prog (n + 5) 13 [.loc 11, allV c.t nm] (stt c sp ht pk τ) K = oK (dget (.str 290271168299111) c.nu) fun v => oK (cmpE (stt c sp ht pk τ) .eq v (.int (nm 66))) fun t => iK t False (K (.int 1) (stt c sp ht pk τ)) := by
  rintro ⟨t, F, W, nu, cnt⟩ (rfl | rfl | rfl) <;> exact fun nm n sp ht pk τ K => by kernel_rfl!
theorem ar_ok (h3 : T3 c.t) (hN : NuOk c nm) (hne : nm 103 ≠ nm 66) {ht : Int} (hn : 5 ≤ n) (hk : K (.int 1) (stt c sp ht pk τ)) : callK prog n 13 [.loc 11, allV c.t nm] (stt c sp ht pk τ) K :=
  eqn (ar_eq h3 nm · sp ht pk τ K) hn (oK_i _ hN.2 (oK_i (decide ((nm 103 : Int) = nm 66)) rfl (iK_f (decide_eq_false fun e => hne (Int.ofNat.inj e)) hk)))
noncomputable def drest : List S := f_Opener_decls_of.body.tail
noncomputable def denv (ev : V) (i0 i1 i2 : Nat) : REnv := [some (.loc 11), some (.tup [declV]), some (.loc (i1 + 13)), some (.loc (i0 + 13)), some (.loc (i2 + 13)), none, none, none, none, none, none, none, none, none, none, none, none, none, none, none]
noncomputable def univV : V := .tup [.str 1088358388532248576119, .int 0]
theorem decls_r {F W : SObj} {t : Nat} {nu : List (V × V)} {rr : Nat} (h0 : τ[i0]? = some (.list [])) (h1 : τ[i1]? = some (.dict [])) (h2 : τ[i2]? = some (.list [])) (n01 : i0 ≠ i1) (n02 : i0 ≠ i2) (n12 : i1 ≠ i2) (p0 : τ0 <+: τ) (q0 : τ0.length ≤ i0) (q1 : τ0.length ≤ i1) (q2 : τ0.length ≤ i2)
    (h32 : OxT T ⟨t, F, W, nu, 0⟩ 0 1 univV dom) (h4 : ∀ sp (ht pk : Int) τ K, K (.str vX) (stt ⟨t, F, W, nu, 1⟩ sp ht pk τ) → T.call 4 [.loc 11, .str 121] (stt ⟨t, F, W, nu, 0⟩ sp ht pk τ) K)
    (h13 : ∀ sp (ht pk : Int) τ K, K (.int 1) (stt ⟨t, F, W, nu, 1⟩ sp ht pk τ) → T.call 13 [.loc 11, dom] (stt ⟨t, F, W, nu, 1⟩ sp ht pk τ) K) (b : sp + (1 + rr) ≤ 20000) (hh : ht + 0 + 1 ≤ 100)
    (z : ∀ sp' pk' τ', sp' + rr ≤ 20000 → τ0 <+: τ' → τ'[i1]? = some (.dict envD) → τ'[i2]? = some (.list []) → K (.tup [.tup [.tup [.str vX, dom]], .loc (i1 + 13), .loc (i2 + 13)]) (stt ⟨t, F, W, nu, 1⟩ sp' ht pk' τ')) :
    kSs prog T drest (denv ev i0 i1 i2) (stt ⟨t, F, W, nu, 0⟩ sp ht pk τ) (outK K) := by
  conv => whnf
  refine h32 sp ht pk τ _ _ rr (.inr ⟨i1, [], rfl, h1, fun _ _ => rfl⟩) b hh fun sp1 pk1 τ1 b1 p1 => ?_
  have h0 := pre_get p1 h0
  have h1 := pre_get p1 h1
  have h2 := pre_get p1 h2
  have p0 := p0.trans p1
  conv => whnf
  unfold kLoopC
  conv => whnf
  refine h4 sp1 ht pk1 τ1 _ ?_
  conv => whnf
  refine h13 sp1 ht pk1 τ1 _ ?_
  conv => whnf
  refine bK_i (con_at (σ := stt ⟨t, F, W, nu, 1⟩ sp1 ht pk1 τ1) (stt_at h0) rfl) ?_
  conv => whnf
  refine oK_i (stt ⟨t, F, W, nu, 1⟩ sp1 ht pk1 (τ1.set i0 (.list [.tup [.str vX, dom]]))) (app_at (σ := stt ⟨t, F, W, nu, 1⟩ sp1 ht pk1 τ1) (stt_at h0) (Nat.le_of_ble_eq_true rfl)) ?_
  have h1 := set_off h1 n01 (y := .list [.tup [.str vX, dom]])
  have h2 := set_off h2 n02 (y := .list [.tup [.str vX, dom]])
  have h0 := set_at h0 (y := .list [.tup [.str vX, dom]])
  have p0 := pre_set (x := .list [.tup [.str vX, dom]]) p0 q0
  generalize τ1.set i0 (.list [.tup [.str vX, dom]]) = τ1 at h0 h1 h2 p0 ⊢
  conv => whnf
  refine bK_i (con_at (σ := stt ⟨t, F, W, nu, 1⟩ sp1 ht pk1 τ1) (stt_at h2) rfl) ?_
  conv => whnf
  unfold kLoopC
  conv => whnf
  refine oK_i (stt ⟨t, F, W, nu, 1⟩ sp1 ht pk1 (τ1.set i2 (.list []))) (ext_at (σ := stt ⟨t, F, W, nu, 1⟩ sp1 ht pk1 τ1) (f := []) (l := []) (stt_at h2) (by decide)) ?_
  have h1 := set_off h1 n12.symm (y := .list [])
  have h0 := set_off h0 n02.symm (y := .list [])
  have h2 := set_at h2 (y := .list [])
  have p0 := pre_set (x := .list []) p0 q2
  generalize τ1.set i2 (.list []) = τ1 at h0 h1 h2 p0 ⊢
  conv => whnf
  refine bK_i (cond_at (σ := stt ⟨t, F, W, nu, 1⟩ sp1 ht pk1 τ1) (stt_at h1)) ?_
  conv => whnf
  unfold kLoopC
  conv => whnf
  refine oK_i (stt ⟨t, F, W, nu, 1⟩ sp1 ht pk1 (τ1.set i1 (.dict [(.str 121, varV)]))) (upd_at (σ := stt ⟨t, F, W, nu, 1⟩ sp1 ht pk1 τ1) (d := []) (l := [.tup [.str 121, varV]]) (stt_at h1) (by decide) rfl) ?_
  have h0 := set_off h0 n01.symm (y := .dict [(.str 121, varV)])
  have h2 := set_off h2 n12 (y := .dict [(.str 121, varV)])
  have h1 := set_at h1 (y := .dict [(.str 121, varV)])
  have p0 := pre_set (x := .dict [(.str 121, varV)]) p0 q1
  generalize τ1.set i1 (.dict [(.str 121, varV)]) = τ1 at h0 h1 h2 p0 ⊢
  conv => whnf
  refine bK_i (congrArg Option.isSome (dict_at (σ := stt ⟨t, F, W, nu, 1⟩ sp1 ht pk1 τ1) (stt_at h1))) ?_
  conv => whnf
  refine oK_i _ (dict_at (σ := stt ⟨t, F, W, nu, 1⟩ sp1 ht pk1 τ1) (stt_at h1)) ?_
  conv => whnf
  unfold kLoopC
  conv => whnf
  refine oK_i (stt ⟨t, F, W, nu, 1⟩ sp1 ht pk1 (τ1.set i1 (.dict envD))) (put_at (σ := stt ⟨t, F, W, nu, 1⟩ sp1 ht pk1 τ1) (s := 0) (v := .dict []) (stt_at h1) (by decide)) ?_
  have h0 := set_off h0 n01.symm (y := .dict envD)
  have h2 := set_off h2 n12 (y := .dict envD)
  have h1 := set_at h1 (y := .dict envD)
  have p0 := pre_set (x := .dict envD) p0 q1
  generalize τ1.set i1 (.dict envD) = τ1 at h0 h1 h2 p0 ⊢
  conv => whnf
  refine oK_i (.tup [.tup [.str vX, dom]]) ?_ ?_
  · show ((asList (stt ⟨t, F, W, nu, 1⟩ sp1 ht pk1 τ1) (.loc (i0 + 13))).bind okLen).map V.tup = _
    rw [list_at (stt_at h0)]; rfl
  exact z sp1 pk1 τ1 b1 p0 h1 h2
end
end P5
end Mine

namespace Mine
open PySem
noncomputable def xN : V := .tup [.str 1023794727099668889702, .int 0, .str 121]
noncomputable def binN (one : V) : V := .tup [.str 435406826897519, .int 0, .str 222298223, xN, one]
noncomputable def kindN (k : Bool) : Nat := if k = true then 431008786677869 else 1069911648856593924198
noncomputable def qN (k : Bool) (one : V) : V := .tup [.str 2205081783335414972318482549, .int 0, .str (kindN k), .tup [declV], binN one]
noncomputable def inV (r : V) : V := .tup [.str 222298223, varV, r]
namespace P5
section
variable {c c' : Oc} {sp n d z : Nat} {ht : Nat} {pk : Int} {τ τ0 : St} {K : V → St → Prop} {nm : Nat → Nat} {ev v u r r' q dom one : V} {T : TabK} {i1 i2 : Nat}
theorem spend1_x (h1 : sp + 1 ≤ 20000) (h2 : ht + 1 ≤ 100) (hk : ∀ pk', K .none (stt c (sp + 1) ht pk' τ)) : kSs prog T f_Opener_spend.body (enter f_Opener_spend [.loc 11, .int 1, .int 1]) (stt c sp ht pk τ) (outK K) := by
  conv => whnf
  refine iK_f (decide_eq_false fun q => Nat.not_lt.mpr h1 (Int.ofNat_lt.mp q)) ?_
  conv => whnf
  refine iK_f (decide_eq_false fun q => Nat.not_lt.mpr h2 (Int.ofNat_lt.mp q)) ?_
  exact hk _
theorem truth_x {R : Nat → St → Prop} (h16 : ∀ K, (∀ pk', K .none (stt c (sp + 1) (ht + 1 : Nat) pk' τ)) → T.call 16 [.loc 11, .int 1, .int 0] (stt c sp (ht + 1 : Nat) pk τ) K)
    (h27 : ∀ pk K, (∀ sp' pk' τ', R sp' τ' → K r (stt c' sp' (ht + 1 : Nat) pk' τ')) → T.call 27 [.loc 11, v, ev] (stt c (sp + 1) (ht + 1 : Nat) pk τ) K)
    (z : ∀ sp' pk' τ', R sp' τ' → K r (stt c' sp' ht pk' τ')) : kSs prog T f_Opener_truth.body (enter f_Opener_truth [.loc 11, v, ev]) (stt c sp ht pk τ) (outK K) := by
  conv => whnf
  refine h16 _ fun pk1 => ?_
  conv => whnf
  refine h27 pk1 _ fun sp' pk' τ' h => ?_
  have w := z sp' pk' τ' h
  rw [← Int.add_sub_cancel (ht : Int) 1] at w
  exact w
theorem truth_i {R : Nat → St → Prop} (hn : 2 ≤ n) (h1 : sp + 1 ≤ 20000) (h2 : ht + 1 ≤ 100) (h27 : ∀ pk K, (∀ sp' pk' τ', R sp' τ' → K r (stt c' sp' (ht + 1 : Nat) pk' τ')) → kSs prog ⟨callK prog (n - 1 - 1)⟩ f_Opener_truth_of.body (enter f_Opener_truth_of [.loc 11, v, ev]) (stt c (sp + 1) (ht + 1 : Nat) pk τ) (outK K))
    (z : ∀ sp' pk' τ', R sp' τ' → K r (stt c' sp' ht pk' τ')) : callK prog n 26 [.loc 11, v, ev] (stt c sp ht pk τ) K :=
  call_i (d := f_Opener_truth) (up1 hn) rfl rfl (truth_x (R := R) (fun K hk => call_i (d := f_Opener_spend) (dn1 hn) rfl rfl (spend_x h1 h2 hk)) (fun pk K hk => call_i (d := f_Opener_truth_of) (dn1 hn) rfl rfl (h27 pk K hk)) z)
theorem used_x (h : τ[i1]? = some (.dict envD)) (h16 : ∀ K, (∀ pk', K .none (stt c (sp + 1) ht pk' τ)) → T.call 16 [.loc 11, .int 1, .int 1] (stt c sp ht pk τ) K) (z : ∀ pk', K varV (stt c (sp + 1) ht pk' τ)) : kSs prog T f_Opener_used.body (enter f_Opener_used [.loc 11, .str 121, .loc (i1 + 13)]) (stt c sp ht pk τ) (outK K) := by
  conv => whnf
  refine bK_i (congrArg Option.isSome (dict_at (σ := stt c sp ht pk τ) (stt_at h))) ?_
  conv => whnf
  refine oK_i _ (dict_at (σ := stt c sp ht pk τ) (stt_at h)) ?_
  conv => whnf
  refine h16 _ fun pk' => ?_
  conv => whnf
  refine oK_i varV ?_ (z pk')
  show (asDict (stt c (sp + 1) ht pk' τ) (.loc (i1 + 13))).bind (fun d => dget (.str 121) d) = _
  rw [dict_at (stt_at h)]; rfl
theorem x_x (h : τ[i1]? = some (.dict envD)) (h18 : ∀ K, (∀ pk', K varV (stt c (sp + 1) ht pk' τ)) → T.call 18 [.loc 11, .str 121, .loc (i1 + 13)] (stt c sp ht pk τ) K) (h37 : ∀ σ K, K varV σ → T.call 37 [.loc 11, varV, .str 510173609197685, .int 0] σ K) (z : ∀ pk', K varV (stt c (sp + 1) ht pk' τ)) :
    kSs prog T f_Opener_expr_of.body (enter f_Opener_expr_of [.loc 11, xN, .loc (i1 + 13)]) (stt c sp ht pk τ) (outK K) := by
  conv => whnf
  refine oK_i true (in_dict_at (σ := stt c sp ht pk τ) (stt_at h)) ?_
  conv => whnf
  refine h18 _ fun pk' => ?_
  conv => whnf
  refine h37 _ _ ?_
  exact z pk'
theorem x_ok (h : τ[i1]? = some (.dict envD)) (hn : 4 ≤ n) (h1 : sp + 2 ≤ 20000) (h2 : ht + 2 ≤ 100) (z : ∀ sp' pk' τ', sp' + 0 ≤ sp + 2 ∧ τ' = τ → K varV (stt c sp' ht pk' τ')) : callK prog n 32 [.loc 11, xN, .loc (i1 + 13)] (stt c sp ht pk τ) K :=
  call_i (d := f_Opener_expr) (up1 hn) rfl rfl (by
    have a16 : ∀ K, (∀ pk', K .none (stt c (sp + 1) (ht + 1 : Nat) pk' τ)) → TabK.call ⟨callK prog (n - 1)⟩ 16 [.loc 11, .int 1, .int 0] (stt c sp (ht + 1 : Nat) pk τ) K := fun K hk => call_i (d := f_Opener_spend) (up1 (dn1 hn)) rfl rfl (spend_x (Nat.le_of_succ_le h1) (Nat.le_of_succ_le h2) hk)
    have a33 : ∀ pk K, (∀ pk', K varV (stt c (sp + 2) (ht + 1 : Nat) pk' τ)) → TabK.call ⟨callK prog (n - 1)⟩ 33 [.loc 11, xN, .loc (i1 + 13)] (stt c (sp + 1) (ht + 1 : Nat) pk τ) K := fun pk K hk =>
      call_i (d := f_Opener_expr_of) (up1 (dn1 hn)) rfl rfl (x_x h (fun K hk => call_i (d := f_Opener_used) (up1 (dn1 (dn1 hn))) rfl rfl (used_x h (fun K hk => call_i (d := f_Opener_spend) (up1 (dn1 (dn1 (dn1 hn)))) rfl rfl (spend1_x h1 h2 hk)) hk)) (fun σ K hk => eqn (k := 1) (p := K varV σ) (fun n => by kernel_rfl!) (up1 (dn1 (dn1 hn))) hk) hk)
    generalize TabK.mk (callK prog (n - 1)) = T at a16 a33
    conv => whnf
    refine a16 _ fun pk1 => ?_
    conv => whnf
    refine a33 pk1 _ fun pk' => ?_
    have w := z (sp + 2) pk' τ ⟨Nat.le_refl _, rfl⟩
    rw [← Int.add_sub_cancel (ht : Int) 1] at w
    exact w)
theorem marked_x (h : Na v) {σ : St} (z : K (.bool false) σ) : kSs prog T f_Opener_is_marked.body (enter f_Opener_is_marked [.loc 11, v]) σ (outK K) := by
  obtain ⟨a, l, rfl, ne, hl⟩ := h
  have e : itemE σ (.tup (.str a :: l)) (.int (0 : Nat)) = some (.str a) := idx_of_at rfl (Nat.le_trans (Nat.succ_le_succ hl) (by decide))
  conv => whnf
  refine oK_i _ e ?_
  conv => whnf
  refine iK_t (congrArg (!·) (decide_eq_false ne)) ?_
  exact z
theorem bounded_x {R : Nat → St → Prop} (h32 : ∀ K, (∀ sp' pk' τ', R sp' τ' → K r (stt c sp' ht pk' τ')) → T.call 32 [.loc 11, one, ev] (stt c sp ht pk τ) K) (h41 : ∀ σ K, K (.bool false) σ → T.call 41 [.loc 11, one] σ K) (h1 : ∀ v σ K, K v σ → T.call 1 [.list [v]] σ K)
    (z : ∀ sp' pk' τ', R sp' τ' → K (inV r) (stt c sp' ht pk' τ')) : kSs prog T f_Opener_bounded.body (enter f_Opener_bounded [.loc 11, varV, one, ev]) (stt c sp ht pk τ) (outK K) := by
  conv => whnf
  refine h32 _ fun sp' pk' τ' h => ?_
  conv => whnf
  refine h41 _ _ ?_
  conv => whnf
  refine h1 _ _ _ ?_
  exact z sp' pk' τ' h
theorem bin_x {R : Nat → St → Prop} (h32 : ∀ K, (∀ sp' pk' τ', sp' + 0 ≤ sp + 2 ∧ τ' = τ → K varV (stt c sp' ht pk' τ')) → T.call 32 [.loc 11, xN, ev] (stt c sp ht pk τ) K) (h42 : ∀ sp' pk' K, sp' ≤ sp + 2 → (∀ sp' pk' τ', R sp' τ' → K (inV r) (stt c sp' ht pk' τ')) → T.call 42 [.loc 11, varV, one, ev] (stt c sp' ht pk' τ) K)
    (z : ∀ sp' pk' τ', R sp' τ' → K (inV r) (stt c sp' ht pk' τ')) : kSs prog T f_Opener_compared.body (enter f_Opener_compared [.loc 11, binN one, ev]) (stt c sp ht pk τ) (outK K) := by
  conv => whnf
  refine h32 _ fun sp' pk' τ' h => ?_
  obtain ⟨h, rfl⟩ := h
  conv => whnf
  exact h42 sp' pk' _ h z
theorem env_no {t : Nat} (h : T3 t) : ∀ s ∈ 103 :: namesN t, s ≠ 121 ∧ s ≠ 0 := by rcases h with rfl | rfl | rfl <;> decide
theorem body_ok (h3 : T3 c.t) (h : τ[i1]? = some (.dict envD)) (hna : Na one) (ho : Ox c 1 3 one r) (hn : 20 ≤ n) (h1 : sp + 20 ≤ 20000) (h2 : ht + 10 ≤ 100) (z : ∀ sp' pk' τ', τ <+: τ' → K (inV r) (stt c sp' ht pk' τ')) : callK prog n 26 [.loc 11, binN one, .loc (i1 + 13)] (stt c sp ht pk τ) K := by
  have p2 := dn1 (dn1 hn)
  have p3 := dn1 p2
  have p4 := dn1 p3
  have evk : EvOk c.t τ (.loc (i1 + 13)) := .inr ⟨i1, envD, rfl, h, fun s m => (if_neg fun e => (env_no h3 s m).1 (of_decide_eq_true e).symm).trans (if_neg fun e => (env_no h3 s m).2 (of_decide_eq_true e).symm)⟩
  refine truth_i (R := fun _ τ' => τ <+: τ') (Nat.le_trans (by decide) hn) (Nat.le_trans (Nat.add_le_add_left (by decide) sp) h1) (Nat.le_trans (Nat.add_le_add_left (by decide) ht) h2) (fun pk K hk => ?_) z
  have a29 : ∀ K, (∀ sp' pk' τ', τ <+: τ' → K (inV r) (stt c sp' (ht + 1 : Nat) pk' τ')) → TabK.call ⟨callK prog (n - 1 - 1)⟩ 29 [.loc 11, binN one, .loc (i1 + 13)] (stt c (sp + 1) (ht + 1 : Nat) pk τ) K := fun K hk =>
    call_i (d := f_Opener_compared) (up1 p2) rfl rfl (bin_x (R := fun _ τ' => τ <+: τ') (fun K hk => x_ok h (Nat.le_trans (by decide) p3) (Nat.le_trans (Nat.add_le_add_left (by decide : 3 ≤ 20) sp) h1) (Nat.le_trans (Nat.add_le_add_left (by decide : 3 ≤ 10) ht) h2) hk)
      (fun sp' pk' K hs hk => call_i (d := f_Opener_bounded) (up1 p3) rfl rfl (bounded_x (R := fun _ τ' => τ <+: τ') (fun K hk => ho _ (Nat.le_trans (by decide) p4) sp' (ht + 1) pk' τ _ K 0 evk (Nat.le_trans (Nat.add_le_add_right hs 3) (Nat.le_trans (Nat.add_le_add_left (by decide : 6 ≤ 20) sp) h1)) (Nat.le_trans (Nat.add_le_add_left (by decide : 3 ≤ 10) ht) h2) fun sp' pk' τ' _ p => hk sp' pk' τ' p)
        (fun σ K hk => call_i (d := f_Opener_is_marked) (up1 p4) rfl rfl (marked_x hna hk)) (fun v σ K hk => eqn (k := 1) (p := K v σ) (fun n => by kernel_rfl!) (up1 p4) hk) hk)) hk)
  generalize TabK.mk (callK prog (n - 1 - 1)) = T at a29 ⊢
  conv => whnf
  refine a29 _ fun sp' pk' τ' p => ?_
  exact hk sp' pk' τ' p
theorem quant_x {k : Bool} {F W : SObj} {t : Nat} {nu : List (V × V)} (h30 : ∀ K, (∀ sp' pk' τ' i1 i2, sp' + 30 ≤ 20000 → τ <+: τ' → τ'[i1]? = some (.dict envD) → τ'[i2]? = some (.list []) → K (.tup [.tup [.tup [.str vX, dom]], .loc (i1 + 13), .loc (i2 + 13)]) (stt ⟨t, F, W, nu, 1⟩ sp' ht pk' τ')) → T.call 30 [.loc 11, .tup [declV], .dict []] (stt ⟨t, F, W, nu, 0⟩ sp ht pk τ) K)
    (h26 : ∀ sp pk τ i1 K, sp + 30 ≤ 20000 → τ[i1]? = some (.dict envD) → (∀ sp' pk' τ', τ <+: τ' → K (inV r) (stt ⟨t, F, W, nu, 1⟩ sp' ht pk' τ')) → T.call 26 [.loc 11, binN one, .loc (i1 + 13)] (stt ⟨t, F, W, nu, 1⟩ sp ht pk τ) K) (h1 : ∀ v σ K, K v σ → T.call 1 [.list [v]] σ K)
    (z : ∀ sp' pk' τ', τ <+: τ' → K (toldV k vX dom r) (stt ⟨t, F, W, nu, 1⟩ sp' ht pk' τ')) : kSs prog T f_Opener_quantified.body (enter f_Opener_quantified [.loc 11, .str (kindN k), .tup [declV], binN one, .dict []]) (stt ⟨t, F, W, nu, 0⟩ sp ht pk τ) (outK K) := by
  conv => whnf
  refine h30 _ fun sp1 pk1 τ1 i1 i2 b1 p1 e1 e2 => ?_
  conv => whnf
  refine h26 sp1 pk1 τ1 i1 _ b1 e1 fun sp2 pk2 τ2 p2 => ?_
  have e2 := stt_at (c := ⟨t, F, W, nu, 1⟩) (sp := sp2) (ht := ht) (pk := pk2) (pre_get p2 e2)
  have z := z sp2 pk2 τ2 (p1.trans p2)
  cases k with
  | true =>
    conv => whnf
    refine oK_i false ?_ z
    show (pyEq (derefO (i2 + 13) (stt ⟨t, F, W, nu, 1⟩ sp2 ht pk2 τ2)[i2 + 13]?) (.list [])).map (!·) = _
    rw [e2]; rfl
  | false =>
    conv => whnf
    refine oK_i _ (add_at e2 (f := []) (k := [inV r]) (Nat.le_of_ble_eq_true rfl)) ?_
    conv => whnf
    refine h1 _ _ _ ?_
    exact z
end
end P5
end Mine

namespace Mine
open PySem
namespace P5
section
variable {c : Oc} {sp n : Nat} {ht : Nat} {pk : Int} {τ : St} {K : V → St → Prop} {nm : Nat → Nat} {v r dom one : V} {T : TabK} {k : Bool} {F W : SObj} {t : Nat} {nu : List (V × V)}
theorem decls_x {ht : Int} (w : kSs prog T drest (denv (.dict []) τ.length (τ ++ [SObj.list []]).length (τ ++ [SObj.list []] ++ [SObj.dict []]).length) (stt c sp ht pk (τ ++ [.list []] ++ [.dict []] ++ [.list []])) (outK K)) :
    kSs prog T f_Opener_decls_of.body (enter f_Opener_decls_of [.loc 11, .tup [declV], .dict []]) (stt c sp ht pk τ) (outK K) := by
  have e : f_Opener_decls_of.body = .asgTs true [3, 2, 4] [(.mut (.list [])), (.mut (.bi .dict [(.var 2)])), (.mut (.list []))] :: drest := rfl
  rw [e]
  generalize drest = D at w ⊢
  conv => whnf
  exact w
theorem decls_ok (h3 : T3 t) (hN : NuT t nu nm) (hne : nm 103 ≠ nm 66) (hn : 20 ≤ n) (h1 : sp + (1 + 30) ≤ 20000) (h2 : ht + 10 ≤ 100)
    (z : ∀ sp' pk' τ' i1 i2, sp' + 30 ≤ 20000 → τ <+: τ' → τ'[i1]? = some (.dict envD) → τ'[i2]? = some (.list []) → K (.tup [.tup [.tup [.str vX, allV t nm]], .loc (i1 + 13), .loc (i2 + 13)]) (stt ⟨t, F, W, nu, 1⟩ sp' ht pk' τ')) :
    callK prog n 30 [.loc 11, .tup [declV], .dict []] (stt ⟨t, F, W, nu, 0⟩ sp ht pk τ) K :=
  have p2 := dn1 hn
  have l1 : (τ ++ [SObj.list []]).length = τ.length + 1 := List.length_append
  have l2 : (τ ++ [SObj.list []] ++ [SObj.dict []]).length = τ.length + 2 := by rw [List.length_append, l1]; rfl
  call_i (d := f_Opener_decls_of) (up1 hn) rfl rfl (decls_x (decls_r (rr := 30) (τ0 := τ) (dom := allV t nm) (pre_get (List.prefix_append _ _) mid_at) mid_at at_end (by rw [l1]; exact Nat.ne_of_lt (Nat.lt_succ_self _)) (by rw [l2]; exact Nat.ne_of_lt (Nat.lt_succ_of_lt (Nat.lt_succ_self _))) (by rw [l1, l2]; exact Nat.ne_of_lt (Nat.lt_succ_self _))
    (by rw [List.append_assoc, List.append_assoc]; exact List.prefix_append ..) (Nat.le_refl _) (by rw [l1]; exact Nat.le_succ _) (by rw [l2]; exact Nat.le_add_right ..)
    ((ox_univ (d := 0) (c := ⟨t, F, W, nu, 0⟩) h3 hN) _ (Nat.le_trans (by decide) p2)) (fun sp ht pk τ K hk => eqn (k := 1) (fun n => fresh_eq F W t nu n sp ht pk τ K) (up1 p2) hk) (fun sp ht pk τ K hk => ar_ok (c := ⟨t, F, W, nu, 1⟩) h3 hN hne (Nat.le_trans (by decide) p2) hk) h1 (Nat.le_trans (Nat.add_le_add_left (by decide : 1 ≤ 10) ht) h2)
    fun sp' pk' τ' b p e1 e2 => z sp' pk' τ' _ _ b p e1 e2))
theorem qof_x (h31 : ∀ K, (∀ sp' pk' τ', τ <+: τ' → K (toldV k vX dom r) (stt ⟨t, F, W, nu, 1⟩ sp' ht pk' τ')) → T.call 31 [.loc 11, .str (kindN k), .tup [declV], binN one, .dict []] (stt ⟨t, F, W, nu, 0⟩ sp ht pk τ) K)
    (z : ∀ sp' pk' τ', τ <+: τ' → K (toldV k vX dom r) (stt ⟨t, F, W, nu, 1⟩ sp' ht pk' τ')) : kSs prog T f_Opener_truth_of.body (enter f_Opener_truth_of [.loc 11, qN k one, .dict []]) (stt ⟨t, F, W, nu, 0⟩ sp ht pk τ) (outK K) := by
  have w : kE prog T (.meth (.var 0) 89448743878319145170253840814305577080801377922401295138917 [(.item (.var 1) (.cst (.int 2))), (.item (.var 1) (.cst (.int 3))), (.item (.var 1) (.cst (.int 4))), (.var 2)]) [some (.loc 11), some (qN k one), some (.dict []), some (.str 2205081783335414972318482549), none, none, none, none, none, none, none] (stt ⟨t, F, W, nu, 0⟩ sp ht pk τ) K := by
    conv => whnf
    exact h31 _ z
  cases k <;> exact w
theorem quant_ok (h3 : T3 t) (hN : NuT t nu nm) (hne : nm 103 ≠ nm 66) (hna : Na one) (ho : Ox ⟨t, F, W, nu, 1⟩ 1 3 one r) (hn : 30 ≤ n) (h1 : sp + 40 ≤ 20000) (h2 : ht + 20 ≤ 100)
    (z : ∀ sp' pk' τ', τ <+: τ' → K (toldV k vX (allV t nm) r) (stt ⟨t, F, W, nu, 1⟩ sp' ht pk' τ')) : callK prog n 26 [.loc 11, qN k one, .dict []] (stt ⟨t, F, W, nu, 0⟩ sp ht pk τ) K := by
  have p2 := dn1 (dn1 hn)
  have p3 := dn1 p2
  refine truth_i (R := fun _ τ' => τ <+: τ') (Nat.le_trans (by decide) hn) (Nat.le_trans (Nat.add_le_add_left (by decide) sp) h1) (Nat.le_trans (Nat.add_le_add_left (by decide) ht) h2) (fun pk K hk => ?_) z
  have e1 : ht + 1 + 10 ≤ 100 := Nat.le_trans (Nat.add_le_add_left (by decide : 11 ≤ 20) ht) h2
  exact qof_x (fun K hk => call_i (d := f_Opener_quantified) (up1 p2) rfl rfl (quant_x (fun K hk => decls_ok h3 hN hne (Nat.le_trans (by decide) p3) (Nat.le_trans (Nat.add_le_add_left (by decide : 32 ≤ 40) sp) h1) e1 hk)
    (fun sp pk τ i1 K b e hk => body_ok (c := ⟨t, F, W, nu, 1⟩) h3 e hna ho (Nat.le_trans (by decide) p3) (Nat.le_trans (Nat.add_le_add_left (by decide) sp) b) e1 hk) (fun v σ K hk => eqn (k := 1) (p := K v σ) (fun n => by kernel_rfl!) (up1 p3) hk) hk)) hk
end
end P5
end Mine

namespace Mine
open PySem
structure OrdOk (t : Nat) (nm : Nat → Nat) (o : List V) : Prop where
  len : o.length ≤ 40
  str : ∀ v ∈ o, ∃ s ∈ keysN t, v = .str s
  at' : ∀ s ∈ 103 :: namesN t, o[nm s]? = some (.str s)
noncomputable def rofD (D : List (V × V)) (o : List V) : List V := o.flatMap fun v => [(dget v D).getD .none]
theorem rat_of {t : Nat} {nm : Nat → Nat} {o : List V} {D : List (V × V)} {w : Nat → List V} (h : OrdOk t nm o) (hD : ∀ s ∈ keysN t, dget (.str s) D = some (.list (w s))) : RAt t (.list (rofD D o)) nm w := fun σ s hs => by
  refine idx_i ?_ (Nat.le_trans (Nat.le_trans (fl_len (f := fun v => [(dget v D).getD V.none]) (c := 1) (fun _ => Nat.le_refl 1) o) (Nat.mul_le_mul_right 1 h.len)) (by decide)) σ
  rw [one_map, List.getElem?_map, h.at' s hs]
  show some ((dget (.str s) D).getD V.none) = _
  rw [hD s (List.mem_cons_of_mem _ hs)]; rfl
noncomputable def WbT (t : Nat) (W : SObj) (τ : St) (v : V) (w : Nat → List V) (D : List (V × V)) : Prop := WOk t w ∧ (∀ s ∈ keysN t, dget (.str s) D = some (.list (w s))) ∧ ((v = .loc 2 ∧ W = .dict D) ∨ ∃ i, v = .loc (i + 13) ∧ τ[i]? = some (.dict D))
theorem WbT.pre {t : Nat} {W : SObj} {τ τ' : St} {v : V} {w : Nat → List V} {D : List (V × V)} (h : WbT t W τ v w D) (p : τ <+: τ') : WbT t W τ' v w D := ⟨h.1, h.2.1, h.2.2.imp id fun ⟨i, e, q⟩ => ⟨i, e, pre_get p q⟩⟩
theorem WbT.at' {t : Nat} {W F : SObj} {τ : St} {v : V} {w : Nat → List V} {D nu : List (V × V)} {cnt ht pk : Int} {sp : Nat} (h : WbT t W τ v w D) : ∃ wi, v = .loc wi ∧ (stt ⟨t, F, W, nu, cnt⟩ sp ht pk τ)[wi]? = some (.dict D) := by
  rcases h.2.2 with ⟨e, q⟩ | ⟨i, e, q⟩
  · exact ⟨2, e, congrArg some q⟩
  · exact ⟨i + 13, e, q⟩
theorem eqL {c : Nat} {l : List V} (h : Rs c l) : pyEq (.list l) (.list l) = some true := by
  have w : (rowsI.all fun k => eqOk 23 (rowV k)) = true := by decide +kernel
  have e : eqOk 24 (.list l) = true := List.all_eq_true.mpr fun v m => (h v m).elim fun k q => by rw [q.2.2]; exact List.all_eq_true.mp w k q.1
  have b : ∀ {l : List V}, Rs c l → beqs l l = true := fun {l} => by
    induction l with
    | nil => exact fun _ => rfl
    | cons v l ih => exact fun h => Bool.and_eq_true_iff.mpr ⟨(h v (List.mem_cons_self ..)).elim fun k q => by rw [q.2.2]; exact beqs_rfl k, ih fun v m => h v (List.mem_cons_of_mem _ m)⟩
  unfold pyEq
  rw [e]
  exact congrArg some (b h)
theorem loopS_ext {st : St → Bool} {bnd : V → REnv → Option REnv} {body : REnv → St → (Out → Prop) → Prop} (J : REnv → Prop) {σ0 : St} (hst : ∀ σ, st σ = true) : ∀ (l : List V) (ρ : REnv) (σ : St) (K : Out → Prop), (∀ v ∈ l, ∀ ρ σ K, J ρ → σ0 <+: σ → (∀ ρ' σ', J ρ' → σ <+: σ' → K (.next ρ' σ')) → ∃ ρ1, bnd v ρ = some ρ1 ∧ body ρ1 σ K) →
    J ρ → σ0 <+: σ → (∀ ρ' σ', J ρ' → σ <+: σ' → K (.next ρ' σ')) → kLoopS st bnd body l ρ σ K
  | [], ρ, σ, K, H, j, p, z => bK_i (hst σ) (z ρ σ j (List.prefix_refl σ))
  | v :: l, ρ, σ, K, H, j, p, z => (H v (List.mem_cons_self ..) ρ σ (nxt (fun ρ σ => kLoopS st bnd body l ρ σ K) K) j p fun ρ' σ' j' p' => loopS_ext J hst l ρ' σ' K (fun v m => H v (List.mem_cons_of_mem _ m)) j' (p.trans p') fun ρ2 σ2 j2 p2 => z ρ2 σ2 j2 (p'.trans p2)).elim fun ρ1 q => loopS_cons ρ1 (hst σ) q.1 q.2
namespace P5
section
variable {T : TabK} {t n wi : Nat} {nm : Nat → Nat} {w : Nat → List V} {D : List (V × V)} {o m ws : List V} {σ : St} {k : Bool} {one told nmv v : V} {K : V → St → Prop}
theorem kept_ok {R dom r : V} {al : List V} {x : Nat} (hn : 21 ≤ n) (hr : ∀ env, Rw R env 20 r m) (hd : ∀ env, Rw R env 20 dom al) (rm : Rs 1 m) (ra : Rs 1 al) (la : al.length ≤ 40) (z : ∀ σ', σ <+: σ' → K (.bool (due k (held m al))) σ') : callK prog n 82 [toldV k x dom r, R] σ K :=
  have p := dn1 hn
  call_i (d := f_law_is_kept) (up1 hn) rfl rfl (kept_x (hd _ _ p) ra la (fun v => Rw.of (d := 0) (fun n _ => rw_var fun σ => (show itemE σ (.dict [(.str x, v)]) (.str x) = some v from if_pos (decide_eq_true rfl))) _ (Nat.le_trans (by decide) p)) (fun env => hr env _ p) rm z)
noncomputable def rtail : List S := [.ite (.cmp .ne (.call 82 [(.var 8), (.comp (.gen (.one 13) (.val (.var 4)) [] (.elt (.item (.var 9) (.var 13)))))]) (.var 11)) [.raise] []]
noncomputable def renv (nmv one told : V) (ws o : List V) (k : Bool) (x9 x10 x11 : Option V) : REnv := [some (.loc 11), some (.loc 0), some nmv, some (.list ws), some (.list o), some one, some (.str (kindN k)), some declV, some told, x9, x10, x11, none, none]
theorem rtail_ok (ho : OrdOk t nm o) (hw : σ[wi]? = some (.dict D)) (hD : ∀ s ∈ keysN t, dget (.str s) D = some (.list (w s))) {d : Bool} {x10 : Option V} {K : Out → Prop} (h82 : ∀ K, (∀ σ', σ <+: σ' → K (.bool d) σ') → T.call 82 [told, .list (rofD D o)] σ K)
    (z : ∀ σ', σ <+: σ' → K (.next (renv nmv one told ws o k (some (.loc wi)) x10 (some (.bool d))) σ')) : kSs prog T rtail (renv nmv one told ws o k (some (.loc wi)) x10 (some (.bool d))) σ K := by
  conv => whnf
  refine loopF_ok (P := fun v => ∃ s ∈ keysN t, v = .str s) (fun v => [(dget v D).getD .none]) (σ = ·) 1 ho.str rfl (cap30 ho.len (by decide)) (fun _ _ => rfl) (fun v => Nat.le_refl 1) (fun v hv => ?_) fun σ' i => i ▸ ?_
  · obtain ⟨s, hs, rfl⟩ := hv
    refine ⟨_, rfl, fun σ' ds kk i q z => ?_⟩
    subst i
    conv => whnf
    refine oK_i ((dget (.str s) D).getD .none) ?_ (bK_i (le1 (m := 0) q) (z σ rfl))
    show (locD σ[wi]?).bind (fun d => dget (.str s) d) = _
    rw [hw]
    show dget (.str s) D = _
    rw [hD s hs]; rfl
  · conv => whnf
    refine h82 _ fun σ' p => ?_
    conv => whnf
    refine iK_f (b := !(d == d)) (by cases d <;> rfl) ?_
    exact z σ' p
noncomputable def rbody : List S := .asg (.name 10) (.comp (.gen (.one 12) (.val (.item (.var 9) (.cst (.str 431008786677869)))) [] (.elt (.cmp .in_ (.var 12) (.call 80 [(.var 5), (.var 9)]))))) ::
      .asg (.name 11) (.ite (.cmp .eq (.var 6) (.cst (.str 431008786677869))) (.cmp .notIn (.cst (.bool false)) (.var 10)) (.cmp .in_ (.cst (.bool true)) (.var 10))) :: rtail
theorem rlap_ok (ho : OrdOk t nm o) (hw : σ[wi]? = some (.dict D)) (hD : ∀ s ∈ keysN t, dget (.str s) D = some (.list (w s))) (hW : WOk t w) (rm : Rs 1 m) (h80 : MnT T t w wi one m) {x10 x11 : Option V} {K : Out → Prop} (h82 : ∀ σ K, (∀ σ', σ <+: σ' → K (.bool (due k (held m (w cAll)))) σ') → T.call 82 [told, .list (rofD D o)] σ K)
    (z : ∀ x10 x11 σ', σ <+: σ' → K (.next (renv nmv one told ws o k (some (.loc wi)) x10 x11) σ')) : kSs prog T rbody (renv nmv one told ws o k (some (.loc wi)) x10 x11) σ K := by
  have W : WAt t σ wi w := ⟨D, hw, hD⟩
  have tl : ∀ σ1, σ <+: σ1 → kSs prog T rtail (renv nmv one told ws o k (some (.loc wi)) (some (.list (held m (w cAll)))) (some (.bool (due k (held m (w cAll)))))) σ1 K := fun σ1 p => rtail_ok ho (pre_get p hw) hD (h82 σ1) fun σ2 p2 => z _ _ σ2 (p.trans p2)
  unfold rbody
  generalize rtail = X at tl ⊢
  conv => whnf
  refine oK_i _ (W.get all_key) ?_
  conv => whnf
  refine loopF_ok (P := Rc 1) (fun v => [.bool (m.any fun y => V.beq y v)]) (fun σ' => σ <+: σ') 1 hW.all.ok (List.prefix_refl σ) (cap30 hW.all.l40 (by decide)) (fun _ _ => rfl) (fun v => Nat.le_refl 1) (fun v hv => ⟨_, rfl, fun σ1 ds kk p q z => ?_⟩) fun σ1 p => ?_
  · conv => whnf
    refine h80 σ1 _ (W.pre p) fun σ2 p2 => ?_
    conv => whnf
    refine oK_i _ (in_i σ2 hv.eq fun y hy => (rm y hy).eq) ?_
    exact bK_i (le1 (m := 0) q) (z σ2 (p.trans p2))
  · have hb := fun y => held_bool (m := m) (l := w cAll) (y := y)
    cases k with
    | true =>
      conv => whnf
      exact oK_i _ (congrArg (Option.map (!·)) (inB (l := held m (w cAll)) hb)) (tl σ1 p)
    | false =>
      conv => whnf
      exact oK_i _ (inB (l := held m (w cAll)) hb) (tl σ1 p)
end
end P5
end Mine

namespace Mine
open PySem
namespace P5
section
variable {T : TabK} {t n sp k0 : Nat} {nm : Nat → Nat} {nu : List (V × V)} {L o ws : List V} {W : SObj} {τ : St} {pk : Int} {K : V → St → Prop}
noncomputable def rrest : List S := [.for_ (.one 9) (.val (.var 3)) rbody, .ret (.cst (.bool true))]
theorem rrest_ok {k : Bool} {one nmv : V} {told : V} {σ : St} {m : (Nat → List V) → List (V × V) → List V} (ho : OrdOk t nm o) (hws : ∀ v ∈ ws, ∃ wi w D, v = .loc wi ∧ σ[wi]? = some (.dict D) ∧ (∀ s ∈ keysN t, dget (.str s) D = some (.list (w s))) ∧ WOk t w ∧ Rs 1 (m w D) ∧ MnT T t w wi one (m w D) ∧ ∀ σ K, (∀ σ', σ <+: σ' → K (.bool (due k (held (m w D) (w cAll)))) σ') → T.call 82 [told, .list (rofD D o)] σ K)
    (z : ∀ σ', σ <+: σ' → K (.bool true) σ') : kSs prog T rrest (renv nmv one told ws o k none none none) σ (outK K) := by
  conv => whnf
  refine loopS_ext (σ0 := σ) (fun ρ => ∃ x9 x10 x11, ρ = renv nmv one told ws o k x9 x10 x11) (fun _ => rfl) ws _ σ _ (fun v hv ρ σ1 K j p z => ?_) ⟨_, _, _, rfl⟩ (List.prefix_refl σ) fun ρ' σ' j p => ?_
  · obtain ⟨x9, x10, x11, rfl⟩ := j
    obtain ⟨wi, w, D, rfl, hw, hD, hW, rm, h80, h82⟩ := hws v hv
    exact ⟨_, rfl, rlap_ok ho (pre_get p hw) hD hW rm h80 h82 fun x10 x11 σ2 p2 => z _ σ2 ⟨_, _, _, rfl⟩ p2⟩
  · exact z σ' p
theorem kinds : ∀ v ∈ List.range 2, ∃ k, ∀ σ, itemE σ (.tup [.str 431008786677869, .str 1069911648856593924198]) (.int (v : Nat)) = some (.str (kindN k)) := List.forall_mem_cons.mpr ⟨⟨true, fun _ => rfl⟩, List.forall_mem_cons.mpr ⟨⟨false, fun _ => rfl⟩, List.forall_mem_nil _⟩⟩
theorem right_x (ho : OrdOk t nm o) {r : Nat} (h75 : ∀ σ, N75 T L σ) (h76 : ∀ σ, GnT T L σ t 76 1 (G1 t nu nm 1) 6)
    (h26 : ∀ (k : Bool) (one r : V) F sp pk τ (K : V → St → Prop), Na one → (∀ F W cnt, Ox ⟨t, F, W, nu, cnt⟩ 1 3 one r) → sp + 40 ≤ 20000 → (∀ sp' pk' τ', τ <+: τ' → K (toldV k vX (allV t nm) r) (stt ⟨t, F, W, nu, 1⟩ sp' (0 : Nat) pk' τ')) → T.call 26 [.loc 11, qN k one, .dict []] (stt ⟨t, F, W, nu, 0⟩ sp (0 : Nat) pk τ) K)
    (hS : ∀ (k : Bool) (one r : V), Se t nm 1 1 one r → ∀ v w D, WbT t W τ v w D → ∃ m, Rs 1 m ∧ (∀ wi, MnT T t w wi one m) ∧ ∀ σ K, (∀ σ', σ <+: σ' → K (.bool (due k (held m (w cAll)))) σ') → T.call 82 [toldV k vX (allV t nm) r, .list (rofD D o)] σ K)
    (hws : ∀ v ∈ ws, ∃ w D, WbT t W τ v w D) (b : k0 + (6 + (1 + r)) ≤ 10000) (b2 : sp + 40 ≤ 20000) (z : ∀ σ, K (.bool true) σ) :
    kSs prog T f_law_is_quantified_right.body (enter f_law_is_quantified_right [.loc 11, .loc 0, .list (nmsV t), .list ws, .list o]) (stt ⟨t, feedO L k0, W, nu, 0⟩ sp (0 : Nat) pk τ) (outK K) := by
  have tl : ∀ (k : Bool) (one r : V) F sp pk τ', Se t nm 1 1 one r → τ <+: τ' → kSs prog T rrest (renv (.list (nmsV t)) one (toldV k vX (allV t nm) r) ws o k none none none) (stt ⟨t, F, W, nu, 1⟩ sp (0 : Nat) pk τ') (outK K) := fun k one r F sp pk τ' se p => by
    have hm : ∀ w D, ∃ m, ∀ v, WbT t W τ v w D → Rs 1 m ∧ (∀ wi, MnT T t w wi one m) ∧ ∀ σ K, (∀ σ', σ <+: σ' → K (.bool (due k (held m (w cAll)))) σ') → T.call 82 [toldV k vX (allV t nm) r, .list (rofD D o)] σ K := fun w D => by
      by_cases h : ∃ v, WbT t W τ v w D
      · obtain ⟨v, h⟩ := h
        obtain ⟨m, hm⟩ := hS k one r se v w D h
        exact ⟨m, fun _ _ => hm⟩
      · exact ⟨[], fun v h' => absurd ⟨v, h'⟩ h⟩
    refine rrest_ok (m := fun w D => Classical.choose (hm w D)) ho (fun v hv => ?_) fun σ' _ => z σ'
    obtain ⟨w, D, h⟩ := hws v hv
    obtain ⟨wi, e, e2⟩ := (h.pre p).at' (F := F) (nu := nu) (cnt := 1) (sp := sp) (ht := (0 : Nat)) (pk := pk)
    have hc := Classical.choose_spec (hm w D) v h
    exact ⟨wi, w, D, e, e2, h.2.1, h.1, hc.1, hc.2.1 wi, hc.2.2⟩
  have e : f_law_is_quantified_right.body = .asgTs false [5, 6] [(.call 76 [(.var 1), (.var 2), (.cst (.int 1))]), (.item (.tup [(.cst (.str 431008786677869)), (.cst (.str 1069911648856593924198))]) (.call 75 [(.var 1), (.cst (.int 2))]))] ::
    .asg (.name 7) (.tup [(.cst (.int 0)), (.cst (.bool false)), (.tup [(.cst (.str 121))]), (.cst (.str 0)), (.tup [(.cst (.str 1088358388532248576119)), (.cst (.int 0))])]) ::
    .asg (.name 8) (.meth (.var 0) 2263110195006889023082856553 [(.tup [(.cst (.str 2205081783335414972318482549)), (.cst (.int 0)), (.var 6), (.tup [(.var 7)]), (.tup [(.cst (.str 435406826897519)), (.cst (.int 0)), (.cst (.str 222298223)), (.tup [(.cst (.str 1023794727099668889702)), (.cst (.int 0)), (.cst (.str 121))]), (.var 5)])]), (.dict [])]) ::
    .ite (.cmp .ne (.item (.var 8) (.cst (.int 0))) (.ite (.cmp .eq (.var 6) (.cst (.str 431008786677869))) (.cst (.str 431008786677869)) (.cst (.str 4137613899626305218353401740394612)))) [.raise] [] :: rrest := rfl
  rw [e]
  generalize rrest = X at tl ⊢
  conv => whnf
  refine h76 _ k0 _ (1 + r) b fun one k1 g b1 => ?_
  obtain ⟨r1, se, hna, hox⟩ := g
  conv => whnf
  refine h75 _ _ k1 _ (by decide) (Nat.le_trans (Nat.le_add_right ..) b1) (all_lt (n := 2) fun v hv => ?_)
  obtain ⟨k, ek⟩ := kinds v hv
  conv => whnf
  refine oK_i _ (ek _) ?_
  conv => whnf
  refine h26 k one r1 _ sp pk τ _ (hna.1 rfl) (fun F W cnt => (hox F W cnt).2) b2 fun sp' pk' τ' p => ?_
  have tl := tl k one r1 (feedO L (k1 + 1)) sp' pk' τ' se p
  cases k <;> (conv => whnf) <;> exact tl
end
end P5
end Mine

namespace Mine
open PySem
noncomputable def ord0 (t : Nat) : List V := nmsV t ++ [.str 103]
noncomputable def ordV (t v : Nat) : List V := (ord0 t).drop v ++ (ord0 t).take v
noncomputable def nuV (t v : Nat) : List (V × V) := (List.range (ord0 t).length).map fun k => (cond (V.beq ((ordV t v).getD k .none) (.str 103)) (.str 290271168299111) ((ordV t v).getD k .none), .int k)
noncomputable def nmV (t v s : Nat) : Nat := (ordV t v).findIdx fun x => V.beq x (.str s)
noncomputable def cfgs : List (Nat × Nat) := [(1, 4), (2, 5), (3, 6)].flatMap fun p => (List.range p.2).map fun v => (p.1, v)
theorem cfg_mem {t v : Nat} (h : T3 t) (hv : (v : Int) < ((ord0 t).length : Int)) : (t, v) ∈ cfgs := by
  have hv := List.mem_range.mpr (Int.ofNat_lt.mp hv)
  rcases h with rfl | rfl | rfl
  · exact List.mem_flatMap.mpr ⟨(1, 4), by decide, List.mem_map.mpr ⟨v, hv, rfl⟩⟩
  · exact List.mem_flatMap.mpr ⟨(2, 5), by decide, List.mem_map.mpr ⟨v, hv, rfl⟩⟩
  · exact List.mem_flatMap.mpr ⟨(3, 6), by decide, List.mem_map.mpr ⟨v, hv, rfl⟩⟩
noncomputable def cfgOk (p : Nat × Nat) : Bool := ((103 :: namesN p.1).all fun s => ((ordV p.1 p.2)[nmV p.1 p.2 s]?).any (V.beq · (.str s)) && (dget (if s = 103 then .str 290271168299111 else .str s) (nuV p.1 p.2)).any (V.beq · (.int (nmV p.1 p.2 s)))) && (decide ((ordV p.1 p.2).length ≤ 40) && (nmV p.1 p.2 103 != nmV p.1 p.2 66 && ((ordV p.1 p.2).all fun v => (103 :: namesN p.1).any fun s => V.beq v (.str s))))
theorem cfg_all : cfgs.all cfgOk = true := by decide +kernel
theorem any_eq {o : Option V} {v : V} (h : o.any (V.beq · v) = true) : o = some v := by
  cases o with
  | none => exact absurd h Bool.false_ne_true
  | some x => exact congrArg some (beq_eq x h)
theorem cfg_ok {t v : Nat} (h : (t, v) ∈ cfgs) : OrdOk t (nmV t v) (ordV t v) ∧ P5.NuT t (nuV t v) (nmV t v) ∧ nmV t v 103 ≠ nmV t v 66 := by
  have q := Bool.and_eq_true_iff.mp (List.all_eq_true.mp cfg_all _ h)
  have q2 := Bool.and_eq_true_iff.mp q.2
  have q3 := Bool.and_eq_true_iff.mp q2.2
  have at' := fun s m => Bool.and_eq_true_iff.mp (List.all_eq_true.mp q.1 s m)
  have n103 : ∀ s ∈ namesN t, s ≠ 103 := fun s m e => by
    subst e
    have w : (cfgs.all fun p => !(namesN p.1).contains 103) = true := by decide +kernel
    have w := List.all_eq_true.mp w _ h
    rw [List.contains_iff_mem.mpr m] at w
    exact absurd w Bool.false_ne_true
  refine ⟨⟨of_decide_eq_true q2.1, fun v m => ?_, fun s m => any_eq (at' s m).1⟩, ⟨fun s m => ?_, any_eq (at' 103 (List.mem_cons_self ..)).2⟩, fun e => ?_⟩
  · obtain ⟨s, hs, e⟩ := List.any_eq_true.mp (List.all_eq_true.mp q3.2 v m)
    exact ⟨s, List.mem_cons_of_mem _ hs, beq_eq v e⟩
  · have w := (at' s (List.mem_cons_of_mem _ m)).2
    rw [if_neg (n103 s m)] at w
    exact any_eq w
  · have w := q3.1
    rw [show (nmV (t, v).1 (t, v).2 103 != nmV (t, v).1 (t, v).2 66) = (nmV t v 103 != nmV t v 66) from rfl, e, bne_self_eq_false] at w
    exact absurd w Bool.false_ne_true
mutual
theorem beq_rf : ∀ v : V, V.beq v v = true
  | .none => rfl
  | .bool b => by cases b <;> rfl
  | .int i => decide_eq_true rfl
  | .str s => decide_eq_true rfl
  | .loc n => decide_eq_true rfl
  | .tup l => beqs_rf l
  | .list l => beqs_rf l
  | .dict l => beqp_rf l
theorem beqs_rf : ∀ l : List V, beqs l l = true
  | [] => rfl
  | v :: l => Bool.and_eq_true_iff.mpr ⟨beq_rf v, beqs_rf l⟩
theorem beqp_rf : ∀ l : List (V × V), beqp l l = true
  | [] => rfl
  | (a, b) :: l => Bool.and_eq_true_iff.mpr ⟨beq_rf a, Bool.and_eq_true_iff.mpr ⟨beq_rf b, beqp_rf l⟩⟩
end
namespace P5
section
variable {T : TabK} {t n sp k v : Nat} {nm : Nat → Nat} {nu : List (V × V)} {L o ws : List V} {F W : SObj} {τ : St} {σ : St} {pk : Int} {K : V → St → Prop} {s a3 a4 a5 a6 a7 a8 a9 a10 a11 a12 a13 : Option V}
noncomputable def lawD (i : Nat) : List S := f_law.body.drop i
noncomputable def lenv (s a2 a3 a4 a5 a6 a7 a8 a9 a10 a11 a12 a13 : Option V) : REnv := [s, some (.loc 0), a2, a3, a4, a5, a6, a7, a8, a9, a10, a11, a12, a13, none, none, none, none]
theorem tops_at : ∀ v ∈ List.range 3, ∃ t, T3 t ∧ cut [V.str 66, .str 67, .str 68] none (some (1 + (v : Int))) = topsV t :=
  List.forall_mem_cons.mpr ⟨⟨1, .inl rfl, rfl⟩, List.forall_mem_cons.mpr ⟨⟨2, .inr (.inl rfl), rfl⟩, List.forall_mem_cons.mpr ⟨⟨3, .inr (.inr rfl), rfl⟩, List.forall_mem_nil _⟩⟩⟩
theorem law_1 {xs : List V} (hx : xs.length ≤ 63) (hi : ∀ x ∈ xs, ∃ i, x = V.int i) (h75 : ∀ L σ, okL L → N75 T L σ)
    (z : ∀ t L, T3 t → okL L → kSs prog T (lawD 2) (lenv (some (.list xs)) (some (.list (topsV t))) none none none none none none none none none none none) [feedO L 1] (outK K)) : kSs prog T f_law.body (enter f_law [.list xs]) [] (outK K) := by
  have e : f_law.body = .asg (.name 1) (.mut (.dict [(.cst (.str 1934282252167833826015314036)), (.bi .list [(.sl (.var 0) (.cst .none) (.cst (.int 48)))]), (.cst (.str 1069911653254644629621)), (.cst (.int 0))])) ::
    .asg (.name 2) (.sl (.list [(.cst (.str 66)), (.cst (.str 67)), (.cst (.str 68))]) (.cst .none) (.bin .add (.cst (.int 1)) (.call 75 [(.var 1), (.cst (.int 3))]))) :: lawD 2 := rfl
  have hL : okL (cut xs none (some 48)) := ⟨by
    refine Nat.le_trans (List.Sublist.length_le (List.drop_sublist _ _)) (Nat.le_trans (List.length_take_le _ _) ?_)
    show (max 0 (min (48 : Int) xs.length)).toNat ≤ 48
    omega, fun x m => hi x (List.mem_of_mem_take (List.mem_of_mem_drop m))⟩
  rw [e]
  generalize lawD 2 = X at z ⊢
  conv => whnf
  refine oK_i (.list (cut xs none (some 48))) (if_pos (Nat.le_trans hx (by decide))) ?_
  conv => whnf
  refine oK_i (.list (cut xs none (some 48))) ?_ ?_
  · show (okLen (cut xs none (some 48))).map V.list = _
    rw [okLen_i (Nat.le_trans hL.1 (by decide))]; rfl
  conv => whnf
  refine h75 (cut xs none (some 48)) [] hL 3 0 _ (by decide) (by decide) (all_lt (n := 3) fun v hv => ?_)
  obtain ⟨t, h3, e⟩ := tops_at v hv
  conv => whnf
  rw [e]
  exact z t _ h3 hL
theorem law_2 : ∀ {t : Nat}, T3 t → ∀ X T F s K, kSs prog T ((lawD 2).take 5 ++ X) (lenv s (some (.list (topsV t))) none none none none none none none none none none none) [F] K = kSs prog T X (lenv s (some (.list (topsV t))) (some own) (some (.loc 1)) (some (.list (nmsV t))) (some (.list (ord0 t))) none none none none none none none) [F, .list (itemsN t)] K := by
  rintro t (rfl | rfl | rfl) <;> exact fun X T F s K => by kernel_rfl!
theorem law_3 (h75 : ∀ σ, N75 T L σ) (h3 : T3 t) {a2 : Option V} (hk : k ≤ 10000) (z : ∀ v : Nat, (t, v) ∈ cfgs → kSs prog T (lawD 8) (lenv s a2 a3 a4 a5 (some (.list (ord0 t))) (some (.int v)) none none none none none none) (feedO L (k + 1) :: σ) (outK K)) :
    kSs prog T (lawD 7) (lenv s a2 a3 a4 a5 (some (.list (ord0 t))) none none none none none none none) (feedO L k :: σ) (outK K) := by
  have e : lawD 7 = .asg (.name 7) (.call 75 [(.var 1), (.bi .len [(.var 6)])]) :: lawD 8 := rfl
  have hz : (ord0 t).length ≤ capL ∧ 0 < (ord0 t).length := by rcases h3 with rfl | rfl | rfl <;> decide
  rw [e]
  generalize lawD 8 = X at z ⊢
  conv => whnf
  refine oK_i _ (len_L _ hz.1) ?_
  conv => whnf
  exact h75 σ _ k _ (Int.ofNat_lt.mpr hz.2) hk fun v hv => z v (cfg_mem h3 hv)
theorem law_4 : ∀ p ∈ cfgs, ∀ X T s a3 a4 a5 σ K, kSs prog T ((lawD 8).take 2 ++ X) (lenv s (some (.list (topsV p.1))) a3 a4 a5 (some (.list (ord0 p.1))) (some (.int (p.2 : Nat))) none none none none none none) σ K = kSs prog T X (lenv s (some (.list (topsV p.1))) a3 a4 a5 (some (.list (ordV p.1 p.2))) (some (.int (p.2 : Nat))) (some (.dict (nuV p.1 p.2))) none none none none none) σ K := by
  unfold cfgs
  repeat (first | exact List.forall_mem_nil _ | refine List.forall_mem_cons.mpr ⟨fun X T s a3 a4 a5 σ K => by kernel_rfl!, ?_⟩)
end
end P5
end Mine

namespace Mine
open PySem
namespace P5
section
variable {T : TabK} {t n sp k r : Nat} {nm : Nat → Nat} {nu : List (V × V)} {L o ws : List V} {F W : SObj} {τ : St} {σ : St} {pk : Int} {K : V → St → Prop} {s a2 a3 a4 a5 a6 a7 a8 a9 a10 a11 a12 a13 : Option V} {node told : V}
theorem law_5 (h83 : WoT T L t) (b : k + (200 + r) ≤ 10000) (z : ∀ D w k', WOk t w → (∀ s ∈ keysN t, dget (.str s) D = some (.list (w s))) → k' + r ≤ 10000 → kSs prog T (lawD 11) (lenv s (some (.list (topsV t))) a3 a4 a5 a6 a7 a8 (some (.list [.loc 2])) none none none none) [feedO L k', .list (itemsN t), .dict D] (outK K)) :
    kSs prog T (lawD 10) (lenv s (some (.list (topsV t))) a3 a4 a5 a6 a7 a8 none none none none none) [feedO L k, .list (itemsN t)] (outK K) := by
  have e : lawD 10 = .asg (.name 9) (.list [(.call 83 [(.var 1), (.var 2)])]) :: lawD 11 := rfl
  rw [e]
  generalize lawD 11 = X at z ⊢
  conv => whnf
  refine h83 k [.list (itemsN t)] _ r b fun w D k' hW hD b' => ?_
  exact z D w k' hW hD b'
noncomputable def newX : X := .new 1 [(.new 2 [(.var 4)]), (.cst .none), (.var 4), (.var 8)]
theorem new_eq : ∀ {t : Nat}, T3 t → ∀ n F W nu s a2 a3 a5 a6 a7 a9 K, kE prog ⟨callK prog (n + 12)⟩ newX (lenv s a2 a3 (some (.loc 1)) a5 a6 a7 (some (.dict nu)) a9 none none none none) [F, .list (itemsN t), W] K = K (.loc 11) (stt ⟨t, F, W, nu, 0⟩ 0 (0 : Nat) 0 []) := by
  rintro t (rfl | rfl | rfl) <;> exact fun n F W nu s a2 a3 a5 a6 a7 a9 K => by kernel_rfl!
theorem law_6 {a9 : Option V} (hnew : ∀ K, K (.loc 11) (stt ⟨t, F, W, nu, 0⟩ 0 (0 : Nat) 0 []) → kE prog T newX (lenv s a2 a3 (some (.loc 1)) a5 a6 a7 (some (.dict nu)) a9 none none none none) [F, .list (itemsN t), W] K)
    (z : kSs prog T (lawD 12) (lenv s a2 a3 (some (.loc 1)) a5 a6 a7 (some (.dict nu)) a9 (some (.loc 11)) none none none) (stt ⟨t, F, W, nu, 0⟩ 0 (0 : Nat) 0 []) (outK K)) :
    kSs prog T (lawD 11) (lenv s a2 a3 (some (.loc 1)) a5 a6 a7 (some (.dict nu)) a9 none none none none) [F, .list (itemsN t), W] (outK K) := by
  have e : lawD 11 = .asg (.name 10) newX :: lawD 12 := rfl
  rw [e]
  generalize lawD 12 = X at z ⊢
  have h := hnew (fun v σ => kSs prog T X ((lenv s a2 a3 (some (.loc 1)) a5 a6 a7 (some (.dict nu)) a9 none none none none).set 10 (some v)) σ (outK K)) z
  exact h
theorem law_7 (h75 : ∀ σ, N75 T L σ) (h76 : ∀ σ, GnT T L σ t 76 3 (G1 t nu nm 3) 14) (h77 : ∀ σ, GnT T L σ t 77 3 (G2 t nu nm 3) 14) (b : k + (15 + r) ≤ 10000)
    (z : ∀ node c k', Gd t nu nm 3 7 c node → k' + r ≤ 10000 → kSs prog T (lawD 13) (lenv s a2 a3 a4 (some (.list (nmsV t))) a6 a7 a8 a9 a10 (some node) none none) (feedO L k' :: σ) (outK K)) :
    kSs prog T (lawD 12) (lenv s a2 a3 a4 (some (.list (nmsV t))) a6 a7 a8 a9 a10 none none none) (feedO L k :: σ) (outK K) := by
  have e : lawD 12 = .asg (.name 11) (.ite (.cmp .eq (.call 75 [(.var 1), (.cst (.int 2))]) (.cst (.int 0))) (.call 77 [(.var 1), (.var 5), (.cst (.int 3))]) (.call 76 [(.var 1), (.var 5), (.cst (.int 3))])) :: lawD 13 := rfl
  have b1 : k + 1 + (14 + r) ≤ 10000 := bd1 b
  rw [e]
  generalize lawD 13 = X at z ⊢
  conv => whnf
  refine h75 σ _ k _ (by decide) (bds b) (all_lt (n := 2) (List.forall_mem_cons.mpr ⟨?_, List.forall_mem_cons.mpr ⟨?_, List.forall_mem_nil _⟩⟩))
  · conv => whnf
    refine h77 σ _ _ r b1 fun v k' g b2 => ?_
    exact z v 2 k' g b2
  · conv => whnf
    refine h76 σ _ _ r b1 fun v k' g b2 => ?_
    exact z v 1 k' g b2
theorem law_8 (h83 : WoT T L t) {ht : Int} (b : k + (200 + (200 + r)) ≤ 10000) {D0 : List (V × V)} {w0 : Nat → List V} (hW0 : WbT t W τ (.loc 2) w0 D0)
    (z : ∀ ws k' τ', τ <+: τ' → (∀ v ∈ ws, ∃ w D, WbT t W τ' v w D) → k' + r ≤ 10000 → kSs prog T (lawD 14) (lenv s (some (.list (topsV t))) a3 a4 a5 a6 a7 a8 (some (.list ws)) a10 a11 none none) (stt ⟨t, feedO L k', W, nu, 0⟩ sp ht pk τ') (outK K)) :
    kSs prog T (lawD 13) (lenv s (some (.list (topsV t))) a3 a4 a5 a6 a7 a8 (some (.list [.loc 2])) a10 a11 none none) (stt ⟨t, feedO L k, W, nu, 0⟩ sp ht pk τ) (outK K) := by
  have e : lawD 13 = .asg (.name 9) (.bin .add (.var 9) (.comp (.gen (.one 16) (.range (.cst (.int 2))) [] (.elt (.call 83 [(.var 1), (.var 2)]))))) :: lawD 14 := rfl
  rw [e]
  generalize lawD 14 = X at z ⊢
  conv => whnf
  unfold kLoopC
  conv => whnf
  refine h83 k (sttR t W nu 0 sp ht pk τ) _ (200 + r) b fun w1 D1 k1 hW1 hD1 b1 => ?_
  conv => whnf
  refine h83 k1 (sttR t W nu 0 sp ht pk (τ ++ [.dict D1])) _ r b1 fun w2 D2 k2 hW2 hD2 b2 => ?_
  conv => whnf
  refine z [.loc 2, .loc (τ.length + 13), .loc ((τ ++ [SObj.dict D1]).length + 13)] k2 (τ ++ [.dict D1] ++ [.dict D2]) ((List.prefix_append ..).trans (List.prefix_append ..)) (fun v hv => ?_) b2
  rcases List.mem_cons.mp hv with rfl | hv
  · exact ⟨w0, D0, hW0.pre ((List.prefix_append ..).trans (List.prefix_append ..))⟩
  · rcases List.mem_cons.mp hv with rfl | hv
    · exact ⟨w1, D1, hW1, hD1, .inr ⟨τ.length, rfl, mid_at⟩⟩
    · rw [List.mem_singleton.mp hv]
      exact ⟨w2, D2, hW2, hD2, .inr ⟨_, rfl, at_end⟩⟩
theorem law_9 (h32 : ∀ sp pk τ K, sp + 7 ≤ 10000 → (∀ sp' pk' τ', sp' ≤ sp + 7 → τ <+: τ' → K told (stt ⟨t, F, W, nu, 0⟩ sp' (0 : Nat) pk' τ')) → T.call 32 [.loc 11, node, .dict []] (stt ⟨t, F, W, nu, 0⟩ sp (0 : Nat) pk τ) K) (hr : Er 3 told)
    (z : ∀ sp' pk' τ', sp' ≤ 14 → τ <+: τ' → kSs prog T (lawD 16) (lenv s a2 a3 a4 a5 a6 a7 a8 a9 (some (.loc 11)) (some node) (some told) none) (stt ⟨t, F, W, nu, 0⟩ sp' (0 : Nat) pk' τ') (outK K)) :
    kSs prog T (lawD 14) (lenv s a2 a3 a4 a5 a6 a7 a8 a9 (some (.loc 11)) (some node) none none) (stt ⟨t, F, W, nu, 0⟩ 0 (0 : Nat) pk τ) (outK K) := by
  have e : lawD 14 = .asg (.name 12) (.meth (.var 10) 940784479923051954291 [(.var 11), (.dict [])]) :: .ite (.cmp .ne (.meth (.var 10) 940784479923051954291 [(.var 11), (.dict [])]) (.var 12)) [.raise] [] :: lawD 16 := rfl
  obtain ⟨l, rfl⟩ := hr.1
  have ee : pyEq (.tup l) (.tup l) = some true := by
    have q := hr.2 24 (by decide)
    unfold pyEq
    rw [q]
    exact congrArg some (beqs_rf l)
  rw [e]
  generalize lawD 16 = X at z ⊢
  conv => whnf
  refine h32 0 pk τ _ (by decide) fun sp1 pk1 τ1 b1 p1 => ?_
  conv => whnf
  refine h32 sp1 pk1 τ1 _ (Nat.le_trans (Nat.add_le_add_right b1 7) (by decide)) fun sp2 pk2 τ2 b2 p2 => ?_
  conv => whnf
  refine oK_i (!true) (congrArg (Option.map (!·)) ee) ?_
  exact z sp2 pk2 τ2 (Nat.le_trans b2 (Nat.le_trans (Nat.add_le_add_right b1 7) (by decide))) (p1.trans p2)
noncomputable def lbody : List S := [.ite (.cmp .ne (.call 81 [(.var 12), (.comp (.gen (.one 17) (.val (.var 6)) [] (.elt (.item (.var 13) (.var 17))))), (.dict [])]) (.call 80 [(.var 11), (.var 13)])) [.raise] []]
theorem llap {wi c : Nat} {D : List (V × V)} {w : Nat → List V} {l : List V} (ho : OrdOk t nm o) (hw : σ[wi]? = some (.dict D)) (hD : ∀ s ∈ keysN t, dget (.str s) D = some (.list (w s))) (rl : Rs c l) (h81 : RwT T (.list (rofD D o)) (.dict []) told l) (h80 : MnT T t w wi node l) {K : Out → Prop}
    (z : ∀ σ', σ <+: σ' → K (.next (lenv s a2 a3 a4 a5 (some (.list o)) a7 a8 a9 a10 (some node) (some told) (some (.loc wi))) σ')) : kSs prog T lbody (lenv s a2 a3 a4 a5 (some (.list o)) a7 a8 a9 a10 (some node) (some told) (some (.loc wi))) σ K := by
  have W : WAt t σ wi w := ⟨D, hw, hD⟩
  conv => whnf
  refine loopF_ok (P := fun v => ∃ s ∈ keysN t, v = .str s) (fun v => [(dget v D).getD .none]) (σ = ·) 1 ho.str rfl (cap30 ho.len (by decide)) (fun _ _ => rfl) (fun v => Nat.le_refl 1) (fun v hv => ?_) fun σ' i => i ▸ ?_
  · obtain ⟨s, hs, rfl⟩ := hv
    refine ⟨_, rfl, fun σ' ds kk i q z => ?_⟩
    subst i
    conv => whnf
    refine oK_i ((dget (.str s) D).getD .none) ?_ (bK_i (le1 (m := 0) q) (z σ rfl))
    show (locD σ[wi]?).bind (fun d => dget (.str s) d) = _
    rw [hw]
    show dget (.str s) D = _
    rw [hD s hs]; rfl
  · conv => whnf
    refine h81 σ _ fun σ1 p1 => ?_
    conv => whnf
    refine h80 σ1 _ (W.pre p1) fun σ2 p2 => ?_
    conv => whnf
    refine oK_i (!true) (congrArg (Option.map (!·)) (eqL rl)) ?_
    exact z σ2 (p1.trans p2)
theorem law_11 (ho : OrdOk t nm o) {ht : Int} (hS : ∀ v w D, WbT t W τ v w D → ∃ c l, Rs c l ∧ RwT T (.list (rofD D o)) (.dict []) told l ∧ ∀ wi, MnT T t w wi node l) (hws : ∀ v ∈ ws, ∃ w D, WbT t W τ v w D)
    (h84 : ∀ τ', τ <+: τ' → T.call 84 [.loc 11, .loc 0, .list (nmsV t), .list ws, .list o] (stt ⟨t, F, W, nu, 0⟩ sp ht pk τ') K) :
    kSs prog T (lawD 16) (lenv s a2 a3 a4 (some (.list (nmsV t))) (some (.list o)) a7 a8 (some (.list ws)) (some (.loc 11)) (some node) (some told) none) (stt ⟨t, F, W, nu, 0⟩ sp ht pk τ) (outK K) := by
  have e : lawD 16 = [.for_ (.one 13) (.val (.var 9)) lbody, .ret (.call 84 [(.var 10), (.var 1), (.var 5), (.var 9), (.var 6)])] := rfl
  rw [e]
  conv => whnf
  refine loopS_ext (σ0 := stt ⟨t, F, W, nu, 0⟩ sp ht pk τ) (fun ρ => ∃ x, ρ = lenv s a2 a3 a4 (some (.list (nmsV t))) (some (.list o)) a7 a8 (some (.list ws)) (some (.loc 11)) (some node) (some told) x) (fun _ => rfl) ws _ _ _ (fun v hv ρ σ1 K j p z => ?_) ⟨_, rfl⟩ (List.prefix_refl _) fun ρ' σ' j p => ?_
  · obtain ⟨x, rfl⟩ := j
    obtain ⟨w, D, h⟩ := hws v hv
    obtain ⟨wi, rfl, hw⟩ := h.at' (F := F) (nu := nu) (cnt := 0) (sp := sp) (ht := ht) (pk := pk)
    obtain ⟨c, l, rl, h81, h80⟩ := hS _ w D h
    exact ⟨_, rfl, llap ho (pre_get p hw) h.2.1 rl h81 (h80 wi) fun σ2 p2 => z _ σ2 ⟨_, rfl⟩ p2⟩
  · obtain ⟨x, rfl⟩ := j
    obtain ⟨y, rfl⟩ := p
    exact h84 (τ ++ y) (List.prefix_append ..)
end
end P5
end Mine

namespace Mine
open PySem
namespace P5
section
variable {t n sp k : Nat} {nm : Nat → Nat} {nu : List (V × V)} {L o ws : List V} {W : SObj} {τ : St} {pk : Int} {K : V → St → Prop}
theorem right_ok (hn : 50 ≤ n) (h3 : T3 t) (hN : NuT t nu nm) (hne : nm 103 ≠ nm 66) (hL : okL L) (ho : OrdOk t nm o) (hws : ∀ v ∈ ws, ∃ w D, WbT t W τ v w D) (b : k + 7 ≤ 10000) (b2 : sp + 40 ≤ 20000) (z : ∀ σ, K (.bool true) σ) :
    callK prog n 84 [.loc 11, .loc 0, .list (nmsV t), .list ws, .list o] (stt ⟨t, feedO L k, W, nu, 0⟩ sp (0 : Nat) pk τ) K :=
  have p := dn1 hn
  call_i (d := f_law_is_quantified_right) (up1 hn) rfl rfl (right_x (r := 0) ho (fun σ => next_T hL (up1 p)) (fun σ => (gen_ok h3 hN hL 1 (n - 1) (Nat.le_trans (by decide) p)).1)
    (fun k one r F sp pk τ K hna hox b z => quant_ok h3 hN hne hna (hox F W 1) (Nat.le_trans (by decide) p) b (by decide) z)
    (fun k one r se v w D h => by
      obtain ⟨m, rm, hm, hr⟩ := se w (.list (rofD D o)) h.1 (rat_of ho h.2.1)
      exact ⟨m, rm.ok, fun wi => hm _ (Nat.le_trans (by decide) p) wi, fun σ K hk => kept_ok (Nat.le_trans (by decide) p) (fun env => (hr env).up (by decide)) (fun env => (rw_all h3 h.1 (rat_of ho h.2.1)).up (by decide)) rm.ok h.1.all.ok h.1.all.l40 hk⟩)
    hws b b2 z)
theorem law_ok (hn : 70 ≤ n) {xs : List V} (hx : xs.length ≤ 63) (hi : ∀ x ∈ xs, ∃ i, x = V.int i) (hK : ∀ σ, K (.bool true) σ) : callK prog n 85 [.list xs] [] K := by
  have p := dn1 hn
  have h75 : ∀ L σ, okL L → N75 ⟨callK prog (n - 1)⟩ L σ := fun L σ hL => next_T hL (up1 p)
  refine call_i (d := f_law) (up1 hn) rfl rfl (law_1 hx hi h75 fun t L h3 hL => ?_)
  have h83 := world_ok (n := n - 1) h3 hL (Nat.le_trans (by decide) p)
  rw [show lawD 2 = (lawD 2).take 5 ++ lawD 7 from rfl, law_2 h3]
  refine law_3 (k := 1) (fun σ => h75 L σ hL) h3 (by decide) fun v hc => ?_
  obtain ⟨ho, hN, hne⟩ := cfg_ok hc
  rw [show lawD 8 = (lawD 8).take 2 ++ lawD 10 from rfl, law_4 (t, v) hc]
  refine law_5 (k := 2) (r := 15 + (200 + (200 + 7))) h83 (by decide) fun D w k1 hW hD b1 => ?_
  refine law_6 (fun K hk => ?_) ?_
  · obtain ⟨m, e⟩ : ∃ m, n - 1 = m + 12 := ⟨n - 1 - 12, (Nat.sub_add_cancel (Nat.le_trans (by decide) p)).symm⟩
    rw [e, new_eq h3]
    exact hk
  have g3 := fun σ => gen_ok (σ := σ) h3 hN hL 3 (n - 1) (Nat.le_trans (by decide) p)
  refine law_7 (σ := sttR t (.dict D) (nuV t v) 0 0 (0 : Nat) 0 []) (r := 200 + (200 + 7)) (fun σ => h75 L σ hL) (fun σ => (g3 σ).1) (fun σ => (g3 σ).2) b1 fun node c k2 g b2 => ?_
  obtain ⟨told, se, hna, hox⟩ := g
  refine law_8 (W := .dict D) (nu := nuV t v) (sp := 0) (ht := (0 : Nat)) (pk := 0) (τ := []) (r := 7) h83 b2 ⟨hW, hD, .inl ⟨rfl, rfl⟩⟩ fun ws k3 τ1 p1 hws b3 => ?_
  refine law_9 (fun sp pk τ K b hk => ?_) hna.2 fun sp2 pk2 τ2 b4 p2 => ?_
  · exact (hox (feedO L k3) (.dict D) 0).2 _ (Nat.le_trans (by decide) p) sp 0 pk τ _ K (19993 - sp) (.inl rfl) (by omega) (by decide) fun sp' pk' τ' q pp => hk sp' pk' τ' (by omega) pp
  · refine law_11 ho (fun v' w' D' h => ?_) (fun v' m => (hws v' m).elim fun w' h => h.elim fun D' h => ⟨w', D', h.pre p2⟩) fun τ3 p3 => ?_
    · obtain ⟨l, rl, hm, hr⟩ := se w' (.list (rofD D' (ordV t v))) h.1 (rat_of ho h.2.1)
      exact ⟨c, l, rl.ok, hr _ _ (Nat.le_trans (by decide) p), fun wi => hm _ (Nat.le_trans (by decide) p) wi⟩
    · exact right_ok (Nat.le_trans (by decide) p) h3 hN hne hL ho (fun v' m => (hws v' m).elim fun w' h => h.elim fun D' h => ⟨w', D', (h.pre p2).pre p3⟩) b3 (Nat.le_trans (Nat.add_le_add_right b4 40) (by decide)) hK
theorem hC (script : List Int) (h : script.length ≤ 63) : ∃ N, N ≤ 90 ∧ ∀ K : V → St → Prop, (∀ σ, K (.bool true) σ) → callK P5.prog N 85 [.list (script.map V.int)] [] K :=
  ⟨80, by decide, fun K hK => law_ok (by decide) (by rw [List.length_map]; exact h) (fun x m => (List.mem_map.mp m).elim fun i q => ⟨i, q.2.symm⟩) hK⟩
end
end P5
end Mine

namespace Mine
open PySem PySem.W PyProof.Rows
namespace P5
noncomputable def gt : Gt := { fns := fnN, clss := clsN, consts := conN, flds := flds, mths := mths }
noncomputable abbrev K (H : Params → Frag) (p : Params) (ob : Obj) : Frag := (builtinsNs, ob) :: H p
theorem methB : (mthL.all fun q => decide (q.1 < 3) && q.2.all fun r => r.1 != 0 || (q.1 == 1 && r.2 == 3)) = true := by decide +kernel
theorem biNe : (biNames.all fun q => !(q.1 == ("__name__" : Str))) = true := by decide +kernel
theorem boot : (biNames.all fun q => bootBuiltins q.1 == some q.2) = true := by kernel_rfl!
theorem file0 : ((PySem.Challenge.rw_nz0397_05.row.prog.main.file : Str) == "/claim/cut.py") = true := by decide +kernel
theorem top0 : (PySem.Challenge.rw_nz0397_05.row.prog.main.scope.names.lookup ("super" : Str)).isSome = false := by decide +kernel
noncomputable def signs : List (Str × Tok × PV) := [("+", 368, .str "union" 369), ("&", 370, .str "meet" 371), ("-", 372, .str "minus" 373), (".", 374, .str "join" 375), ("++", 376, .str "override" 377), ("<:", 378, .str "ahead" 379), (":>", 380, .str "behind" 381)]
noncomputable def signV : List (Nat × V) := signs.map fun t => (encS t.1, match t.2.2 with | .str x _ => .str (encS x) | _ => .none)
theorem co7d : prog.glob 7 = some (.dict (signV.map fun q => (.str q.1, q.2))) := by kernel_rfl!
theorem co7x : (conN.all fun q => q.2 != 7 || q.1 == ("SET_SIGNS" : Str)) = true := by decide +kernel
structure Top (H : Params → Frag) : Prop where
  chk : ∀ (p : Params) (ob : Obj), (fnL.all fun q => q.1 == 15 || chkAt prog gt (K H p ob) (nms q.1) (fa q.1) q.2) = true
  fact : ∀ (p : Params) (ob : Obj), factB (K H p ob) prog gt fa ca 3 (fnL.map (·.1)) = true
  sup : ∀ (p : Params) (ob : Obj), supB (K H p ob) prog gt fa ca 15 3 1 f_Opener___init (nms 15) [.var 1, .var 2, .var 3, .var 4] f_Opener___init.body.tail "/claim/cut.py" = true
  noGlob : ∀ (p : Params) (ob : Obj), (biNames.all fun q => nsIn (K H p ob) mainGlobals q.1 == some none) = true
  co : ∀ (p : Params) (ob : Obj), (conN.all fun q => match prog.glob q.2 with
  | none => true
  | some d => q.2 == 7 || oB (nsIn (K H p ob) mainGlobals q.1) fun v => oB v fun v => rvB (K H p ob) d v) = true
  co7 : ∀ (p : Params) (ob : Obj), (K H p ob).lookup 108 = some ⟨.type "dict", none, .dict (mkEs p signs).toArray 7, #[]⟩
  co7n : ∀ (p : Params) (ob : Obj), nsIn (K H p ob) mainGlobals "SET_SIGNS" = some (some (.ref 108))
  co7r : ∀ (p : Params) (ob : Obj), rvdB (K H p ob) signV signs = true
  fn : ∀ (p : Params) (ob : Obj), ((K H p ob).lookup 470).isSome = true
  law : ∀ (p : Params) (ob : Obj), nsIn (K H p ob) mainGlobals "law" = some (some (.ref 706))
theorem Facts {H : Params → Frag} (tp : Top H) {B : Bd} {ob : Obj} (hP : B.P = prog) (hK : B.D.K = K H B.D.w.params ob) (hfa : B.D.fa = fa) (hca : B.D.ca = ca) (hnc : B.D.nc = 3) (X : B.D.K.In B.D.base) (lim : B.D.base.NoLimit) : Mine.Facts B gt := by
  obtain ⟨D, P, T, n⟩ := B
  cases (hP : P = prog)
  refine facts_of (live := fnL.map (·.1)) X lim (fun i h => ?_) (fun i k f h => ?_) (by rw [hK, hfa, hca, hnc]; exact tp.fact _ ob) fun x k h d hd => ?_
  · obtain ⟨d, e⟩ := Option.isSome_iff_exists.mp h
    exact List.mem_map.mpr ⟨_, mem_of_lookup (l := fnL) e, rfl⟩
  · obtain ⟨l, e, _⟩ := Option.bind_eq_some_iff.mp (show (mthL.lookup i).bind _ = some f from h)
    rw [hnc]; exact of_decide_eq_true (and_l (List.all_eq_true.mp methB _ (mem_of_lookup e)))
  · have w := List.all_eq_true.mp (tp.co D.w.params ob) _ (mem_of_lookup (l := conN) h)
    have hd : prog.glob k = some d := hd
    simp only [hd] at w
    rcases Bool.or_eq_true_iff.mp w with e | e
    · have e : k = 7 := eq_of e
      subst e
      have hx : x = "SET_SIGNS" := (Bool.or_eq_true_iff.mp (List.all_eq_true.mp co7x _ (mem_of_lookup (l := conN) h))).elim (fun n => absurd rfl (bne_iff_ne.mp n)) eq_of
      cases co7d.symm.trans hd
      rw [hx, hK]
      exact ⟨_, tp.co7n _ ob, fun N m => rv_dict X m (by rw [hK]; exact tp.co7 _ ob) (by decide) (by decide +kernel) (by rw [hK]; exact tp.co7r _ ob)⟩
    · rw [← hK] at e
      cases hv : nsIn D.K mainGlobals x with
      | none => rw [hv] at e; cases e
      | some v => cases v with
        | none => rw [hv] at e; cases e
        | some v => rw [hv] at e; exact ⟨v, rfl, fun N m => rvB_of X m d v e⟩
theorem go {H : Params → Frag} (tp : Top H) {B : Bd} {ob : Obj} (hP : B.P = prog) (hK : B.D.K = K H B.D.w.params ob) (hfa : B.D.fa = fa) (hca : B.D.ca = ca) (hpr : B.D.prog = PySem.Challenge.rw_nz0397_05.row.prog) (hbt : nsIn B.D.K builtinsNs "super" = some (some (.type "super"))) (h : Hs B 40 gt) (f : Nat) (d : FDef) (hd : B.P.fn f = some d) : FnGo B f d := by
  rw [hP] at hd
  have hd : fnL.lookup f = some d := hd
  cases e : f == 15 with
  | true =>
    have e : f = 15 := eq_of e
    subst e
    have hd : some f_Opener___init = some d := hd
    cases hd
    refine sup_go (f2 := 3) (c1 := 1) (xs := [.var 1, .var 2, .var 3, .var 4]) (ss := f_Opener___init.body.tail) (names := nms 15) (file := "/claim/cut.py") h rfl (fun i f' hm => ?_) hbt (by rw [hpr]; exact file0) (by rw [hpr]; exact top0) (by rw [hP, hK, hfa, hca]; exact tp.sup _ ob)
    rw [hP] at hm
    obtain ⟨l, e1, e2⟩ := Option.bind_eq_some_iff.mp (show (mthL.lookup i).bind (fun l => l.lookup 0) = some f' from hm)
    rcases Bool.or_eq_true_iff.mp (List.all_eq_true.mp (and_r (List.all_eq_true.mp methB _ (mem_of_lookup e1))) _ (mem_of_lookup e2)) with n | n
    · exact absurd rfl (bne_iff_ne.mp n)
    · exact ⟨eq_of (and_l n), eq_of (and_r n)⟩
  | false =>
    refine fn_at h (by decide) (names := nms f) ?_
    rcases Bool.or_eq_true_iff.mp (List.all_eq_true.mp (tp.chk B.D.w.params ob) _ (mem_of_lookup hd)) with n | n
    · rw [show (f == 15) = true from n] at e; cases e
    · rw [hP, hK, hfa]; exact n
end P5
end Mine

namespace Mine.law5
theorem tw10020338291222934560 : True := trivial
theorem tw10022198598924792637 : True := trivial
theorem tw10042712073471906262 : True := trivial
theorem tw10066034632244029321 : True := trivial
theorem tw10071384504358221940 : True := trivial
theorem tw10078744417155607770 : True := trivial
theorem tw10137996909283748655 : True := trivial
theorem tw10150714061979327237 : True := trivial
theorem tw10169500983275952352 : True := trivial
theorem tw10216440906601545456 : True := trivial
theorem tw10262424705986777197 : True := trivial
theorem tw10267277811392468221 : True := trivial
theorem tw10323076462622955606 : True := trivial
theorem tw10333576534453736283 : True := trivial
theorem tw10369473236525736665 : True := trivial
theorem tw10413637006478038673 : True := trivial
theorem tw1043532723225000236 : True := trivial
theorem tw10451413488891817551 : True := trivial
theorem tw10458227158260921383 : True := trivial
theorem tw10481387579806931297 : True := trivial
theorem tw1049305367227663945 : True := trivial
theorem tw10493128134249907490 : True := trivial
theorem tw10508893845502901671 : True := trivial
theorem tw10537145100093356892 : True := trivial
theorem tw10545942681838163602 : True := trivial
theorem tw10566794600388934085 : True := trivial
theorem tw10569884748863397139 : True := trivial
theorem tw10574649328645933991 : True := trivial
theorem tw10598621236849913183 : True := trivial
theorem tw10614706331875677888 : True := trivial
theorem tw10630375151434059405 : True := trivial
theorem tw10647880970411497472 : True := trivial
theorem tw10747261071465767101 : True := trivial
theorem tw10769329722143071098 : True := trivial
theorem tw10816735013706343488 : True := trivial
theorem tw10828420441008828796 : True := trivial
theorem tw10844897665055894323 : True := trivial
theorem tw10850684462572118034 : True := trivial
theorem tw1087104863830711887 : True := trivial
theorem tw10876269582548786533 : True := trivial
theorem tw10883973585174672562 : True := trivial
theorem tw10905131264821348158 : True := trivial
theorem tw10913646324733011441 : True := trivial
theorem tw10914920561550324440 : True := trivial
theorem tw10940015392433065465 : True := trivial
theorem tw10965613742071992577 : True := trivial
theorem tw10974469118350936300 : True := trivial
theorem tw10986167167875312722 : True := trivial
theorem tw11017099665037352892 : True := trivial
theorem tw11039965996568129821 : True := trivial
theorem tw11053161642341508003 : True := trivial
theorem tw11055238068047675202 : True := trivial
theorem tw11089859482272651852 : True := trivial
theorem tw11093472329680728708 : True := trivial
theorem tw11099933520599970061 : True := trivial
theorem tw11108432945123607323 : True := trivial
theorem tw1112631271023158258 : True := trivial
theorem tw11146403486750093420 : True := trivial
theorem tw11162256011185592011 : True := trivial
theorem tw11168269894437782892 : True := trivial
theorem tw11172031313158344815 : True := trivial
theorem tw11195928960950237012 : True := trivial
theorem tw11206954381428779873 : True := trivial
theorem tw1121320333518171222 : True := trivial
theorem tw11216755561572513336 : True := trivial
theorem tw11221257841418971132 : True := trivial
theorem tw1122194525902958722 : True := trivial
theorem tw11229390492986773170 : True := trivial
theorem tw11233209212773394820 : True := trivial
theorem tw11233467370523151792 : True := trivial
theorem tw11266254041543726454 : True := trivial
theorem tw11292698193145812665 : True := trivial
theorem tw11303225693202221643 : True := trivial
theorem tw11310601784811098229 : True := trivial
theorem tw11311998783584427905 : True := trivial
theorem tw11317125847451332686 : True := trivial
theorem tw11324245705468161200 : True := trivial
theorem tw11326300288266900508 : True := trivial
theorem tw11330807892089969068 : True := trivial
theorem tw11335811452744966853 : True := trivial
theorem tw11344594434148108759 : True := trivial
theorem tw11358257676329556764 : True := trivial
theorem tw11374767268949360867 : True := trivial
theorem tw11376661678457201948 : True := trivial
theorem tw11382445149575334408 : True := trivial
theorem tw11392811320055806106 : True := trivial
theorem tw11399305433096870171 : True := trivial
theorem tw11409108671493528726 : True := trivial
theorem tw11411021861422020759 : True := trivial
theorem tw1141480013949271493 : True := trivial
theorem tw1141992183552159052 : True := trivial
theorem tw11420141462645835631 : True := trivial
theorem tw11436492279101046158 : True := trivial
theorem tw11468125293818381429 : True := trivial
theorem tw11491477460694604268 : True := trivial
theorem tw11530334511290780202 : True := trivial
theorem tw11534851321359449033 : True := trivial
theorem tw11547608528497948835 : True := trivial
theorem tw11566954601523820648 : True := trivial
theorem tw11581252074360733698 : True := trivial
theorem tw11600378802389133057 : True := trivial
theorem tw11647075190291399321 : True := trivial
theorem tw11666945328780862965 : True := trivial
theorem tw11679746365823871131 : True := trivial
theorem tw11686288139003851329 : True := trivial
theorem tw11726347818170933908 : True := trivial
theorem tw11729141217388691993 : True := trivial
theorem tw1173258081681818163 : True := trivial
theorem tw11781689545979431011 : True := trivial
theorem tw11788579190174174274 : True := trivial
theorem tw11794977785284601302 : True := trivial
theorem tw11812592993091579796 : True := trivial
theorem tw11813378031166065271 : True := trivial
theorem tw11819360908860945509 : True := trivial
theorem tw11837694605216643887 : True := trivial
theorem tw11843802216486772292 : True := trivial
theorem tw11848177706007023422 : True := trivial
theorem tw11859947725945311438 : True := trivial
theorem tw1186060640906394258 : True := trivial
theorem tw11870433525658525174 : True := trivial
theorem tw11959163825793282991 : True := trivial
theorem tw12003772905494593957 : True := trivial
theorem tw12030227245309470959 : True := trivial
theorem tw12033536759702920699 : True := trivial
theorem tw12066490971465532505 : True := trivial
theorem tw12077719067577131105 : True := trivial
theorem tw12088237440707953202 : True := trivial
theorem tw12100349332730381788 : True := trivial
theorem tw12114116610719357308 : True := trivial
theorem tw12114216725111884074 : True := trivial
theorem tw12135525836493845401 : True := trivial
theorem tw12154758646355651203 : True := trivial
theorem tw12156065249689401754 : True := trivial
theorem tw12159938211124808409 : True := trivial
theorem tw12163939417084224797 : True := trivial
theorem tw12174679730473954989 : True := trivial
theorem tw12203956662320910028 : True := trivial
theorem tw12220826745308475252 : True := trivial
theorem tw12234771282840094272 : True := trivial
theorem tw12247556441651751613 : True := trivial
theorem tw1226786200381814583 : True := trivial
theorem tw12272730361250994943 : True := trivial
theorem tw12282133026372023612 : True := trivial
theorem tw12303633404741853741 : True := trivial
theorem tw12355020592670767350 : True := trivial
theorem tw1235786586061679384 : True := trivial
theorem tw12371219654186542953 : True := trivial
theorem tw12410129154360984644 : True := trivial
theorem tw12425493301307662110 : True := trivial
theorem tw12433800495975841189 : True := trivial
theorem tw1244136158543069072 : True := trivial
theorem tw12453371286909119753 : True := trivial
theorem tw12462399027684798358 : True := trivial
theorem tw12495012139489346725 : True := trivial
theorem tw1250459257891955563 : True := trivial
theorem tw12508222416596878696 : True := trivial
theorem tw12608458971270408187 : True := trivial
theorem tw12610519843605358043 : True := trivial
theorem tw12629230574922894684 : True := trivial
theorem tw12630516955670509286 : True := trivial
theorem tw12638905237089729294 : True := trivial
theorem tw1264110419733900262 : True := trivial
theorem tw12645302766837129650 : True := trivial
theorem tw12667815797622692261 : True := trivial
theorem tw12676774355616445320 : True := trivial
theorem tw12727210558399367951 : True := trivial
theorem tw12732936072062759774 : True := trivial
theorem tw12749329254307235158 : True := trivial
theorem tw12760013439344873800 : True := trivial
theorem tw12763606015676059333 : True := trivial
theorem tw12777213237542524227 : True := trivial
theorem tw12784548980572243682 : True := trivial
theorem tw12795145232717766773 : True := trivial
theorem tw1279589418115905026 : True := trivial
theorem tw12803511781215569562 : True := trivial
theorem tw1281493360080125430 : True := trivial
theorem tw12821327193895907143 : True := trivial
theorem tw12905163151706360073 : True := trivial
theorem tw12956689870439634241 : True := trivial
theorem tw1296373916729908981 : True := trivial
theorem tw12984054728101900342 : True := trivial
theorem tw13017769044029435075 : True := trivial
theorem tw1302171181841463461 : True := trivial
theorem tw13049549927661391178 : True := trivial
theorem tw1309458379748616030 : True := trivial
theorem tw13130072042455248176 : True := trivial
theorem tw13158054033958688381 : True := trivial
theorem tw13184099931389143219 : True := trivial
theorem tw13208272043475059222 : True := trivial
theorem tw13226715403852166758 : True := trivial
theorem tw13234083696101640585 : True := trivial
theorem tw13306946788316877524 : True := trivial
theorem tw13365999012606446134 : True := trivial
theorem tw1338232904600618840 : True := trivial
theorem tw1338501135579415001 : True := trivial
theorem tw13403414445742737458 : True := trivial
theorem tw13405178891426927117 : True := trivial
theorem tw13444000171380815426 : True := trivial
theorem tw13458447816049752468 : True := trivial
theorem tw13488900522979443798 : True := trivial
theorem tw13500156195985187715 : True := trivial
theorem tw13501116348343852101 : True := trivial
theorem tw13507862396258992518 : True := trivial
theorem tw13519861472026759113 : True := trivial
theorem tw13522319813154999065 : True := trivial
theorem tw13543040733784396262 : True := trivial
theorem tw13572691708575997583 : True := trivial
theorem tw13578208816633766782 : True := trivial
theorem tw13589501347099424130 : True := trivial
theorem tw1365447455551147657 : True := trivial
theorem tw13663897159355994589 : True := trivial
theorem tw13683824961345783553 : True := trivial
theorem tw13710099929426968190 : True := trivial
theorem tw13734379934938840412 : True := trivial
theorem tw13763423045236001459 : True := trivial
theorem tw13765362745921098125 : True := trivial
theorem tw13795406033530382589 : True := trivial
theorem tw13798781763480608665 : True := trivial
theorem tw13807227916972965645 : True := trivial
theorem tw13819266628443792561 : True := trivial
theorem tw1383633409857182449 : True := trivial
theorem tw13846979988268895006 : True := trivial
theorem tw13884342772829115372 : True := trivial
theorem tw13903249440055935812 : True := trivial
theorem tw13926166662128319296 : True := trivial
theorem tw13936297072357413799 : True := trivial
theorem tw13941851421982678640 : True := trivial
theorem tw13949093691993228476 : True := trivial
theorem tw13956084698385084529 : True := trivial
theorem tw13957919557448311593 : True := trivial
theorem tw13985088920857856104 : True := trivial
theorem tw14005188838179146999 : True := trivial
theorem tw14008323519597279772 : True := trivial
theorem tw14010345640468775371 : True := trivial
theorem tw14010677542196013999 : True := trivial
theorem tw14014255696545781561 : True := trivial
theorem tw14041406931523617908 : True := trivial
theorem tw14052030176682134925 : True := trivial
theorem tw14055415918800280220 : True := trivial
theorem tw14063120918601748028 : True := trivial
theorem tw14102807385614474376 : True := trivial
theorem tw14105136003142981261 : True := trivial
theorem tw14236906037546141130 : True := trivial
theorem tw14272156581886636984 : True := trivial
theorem tw14284861386616516382 : True := trivial
theorem tw1430764610720864742 : True := trivial
theorem tw14321202047441882062 : True := trivial
theorem tw14343153611446651777 : True := trivial
theorem tw14355162970076585074 : True := trivial
theorem tw14388399851785962550 : True := trivial
theorem tw14412661864884444747 : True := trivial
theorem tw14415071393139832049 : True := trivial
theorem tw1441864682857950517 : True := trivial
theorem tw14431556025102031538 : True := trivial
theorem tw14432414315559254853 : True := trivial
theorem tw14451380004365904234 : True := trivial
theorem tw14453211026757907904 : True := trivial
theorem tw1448168821133130958 : True := trivial
theorem tw14504672108962181551 : True := trivial
theorem tw14514562181229544768 : True := trivial
theorem tw14567847429433681229 : True := trivial
theorem tw14625898992193654847 : True := trivial
theorem tw14630494542185132335 : True := trivial
theorem tw1465975024281715718 : True := trivial
theorem tw14686500753058198959 : True := trivial
theorem tw14689789200940014362 : True := trivial
theorem tw1476530227209127751 : True := trivial
theorem tw14775929750331815590 : True := trivial
theorem tw14788415617129954664 : True := trivial
theorem tw14793872629568949540 : True := trivial
theorem tw14798807727031397708 : True := trivial
theorem tw14800934166590470727 : True := trivial
theorem tw14806954089274311513 : True := trivial
theorem tw14834340330997341307 : True := trivial
theorem tw14843092170152137908 : True := trivial
theorem tw14867153592796612072 : True := trivial
theorem tw14893042245276846541 : True := trivial
theorem tw14916014636891617248 : True := trivial
theorem tw14927675397978094762 : True := trivial
theorem tw14936393014978144212 : True := trivial
theorem tw14956829637578038668 : True := trivial
theorem tw14976136732360449649 : True := trivial
theorem tw14995975869086791597 : True := trivial
theorem tw15002613736249717298 : True := trivial
theorem tw15077376787754618963 : True := trivial
theorem tw15099231547526261826 : True := trivial
theorem tw15102493442260929195 : True := trivial
theorem tw15103228972005419267 : True := trivial
theorem tw1511548062654348540 : True := trivial
theorem tw15132013924602265129 : True := trivial
theorem tw15141603739073080722 : True := trivial
theorem tw15149060264493273297 : True := trivial
theorem tw15155779999616212037 : True := trivial
theorem tw15159830325443199703 : True := trivial
theorem tw15171415844490511233 : True := trivial
theorem tw15181812450362509189 : True := trivial
theorem tw1518733339874292678 : True := trivial
theorem tw15189698284973608795 : True := trivial
theorem tw15191869561070712481 : True := trivial
theorem tw15202609808830759906 : True := trivial
theorem tw15217756948786402916 : True := trivial
theorem tw15239966962824312232 : True := trivial
theorem tw15252340750876078842 : True := trivial
theorem tw15282851670618526587 : True := trivial
theorem tw15290039706081416660 : True := trivial
theorem tw15301126502810997077 : True := trivial
theorem tw15328334934151752851 : True := trivial
theorem tw15328790377893431459 : True := trivial
theorem tw15336155969792046756 : True := trivial
theorem tw15338816435298611824 : True := trivial
theorem tw15339833198986455422 : True := trivial
theorem tw15346993357081131203 : True := trivial
theorem tw15348291588387749921 : True := trivial
theorem tw15357210678817672175 : True := trivial
theorem tw15357971485388236932 : True := trivial
theorem tw15384727252683230058 : True := trivial
theorem tw15392895892115894236 : True := trivial
theorem tw15398517989403162737 : True := trivial
theorem tw15398586867900817957 : True := trivial
theorem tw15417878186170627289 : True := trivial
theorem tw15452701309135737036 : True := trivial
theorem tw15464196458630435898 : True := trivial
theorem tw1548087409758355877 : True := trivial
theorem tw15486735644031569267 : True := trivial
theorem tw15536786916867784036 : True := trivial
theorem tw15538842347907423671 : True := trivial
theorem tw15542789371547009431 : True := trivial
theorem tw15556246780458289401 : True := trivial
theorem tw15584325293594607633 : True := trivial
theorem tw15594078001400829084 : True := trivial
theorem tw15619752808760059496 : True := trivial
theorem tw15645990606648625753 : True := trivial
theorem tw15674248535067661658 : True := trivial
theorem tw1568298356283449687 : True := trivial
theorem tw15700900536365788684 : True := trivial
theorem tw15702110484424323545 : True := trivial
theorem tw15707711022208897076 : True := trivial
theorem tw15708717084995568591 : True := trivial
theorem tw15727281764521771859 : True := trivial
theorem tw15732465513428431761 : True := trivial
theorem tw1575323293373414035 : True := trivial
theorem tw15758669093238847972 : True := trivial
theorem tw15774362532063007655 : True := trivial
theorem tw15784739333723750144 : True := trivial
theorem tw15786734675791997162 : True := trivial
theorem tw1585942638270851156 : True := trivial
theorem tw15879826417887401860 : True := trivial
theorem tw15908337312258677441 : True := trivial
theorem tw15922368792765467889 : True := trivial
theorem tw1594476566119818461 : True := trivial
theorem tw15962961538510951411 : True := trivial
theorem tw15974221268562126490 : True := trivial
theorem tw15980213542156965679 : True := trivial
theorem tw16010146090850920751 : True := trivial
theorem tw16093352753744205756 : True := trivial
theorem tw16095663544807767272 : True := trivial
theorem tw16133371675906463070 : True := trivial
theorem tw16169065055342877833 : True := trivial
theorem tw1620966219194124457 : True := trivial
theorem tw16226408436601390963 : True := trivial
theorem tw16250761835578342026 : True := trivial
theorem tw16288581057130034408 : True := trivial
theorem tw16314077244843738580 : True := trivial
theorem tw16366056665606228702 : True := trivial
theorem tw16415594906215904307 : True := trivial
theorem tw16434438768989132724 : True := trivial
theorem tw16436312076980780011 : True := trivial
theorem tw16437802191667995239 : True := trivial
theorem tw16455726366222647608 : True := trivial
theorem tw16493138523149556720 : True := trivial
theorem tw1649381814649855 : True := trivial
theorem tw16498535317047091707 : True := trivial
theorem tw1652605610977110715 : True := trivial
theorem tw16569016272370494957 : True := trivial
theorem tw16602652308882942097 : True := trivial
theorem tw16605628136219886452 : True := trivial
theorem tw16632000598718084289 : True := trivial
theorem tw16641591542021135431 : True := trivial
theorem tw16689144716920133047 : True := trivial
theorem tw1669575132270102773 : True := trivial
theorem tw16711680320465209459 : True := trivial
theorem tw16719381080443637963 : True := trivial
theorem tw16747209027342256928 : True := trivial
theorem tw16759531889675146051 : True := trivial
theorem tw1676483580851833063 : True := trivial
theorem tw16786499056100176362 : True := trivial
theorem tw16796634368244397612 : True := trivial
theorem tw16797935236557758988 : True := trivial
theorem tw16809967939668549341 : True := trivial
theorem tw16819275908093037386 : True := trivial
theorem tw16848884239502266536 : True := trivial
theorem tw16875309387435269370 : True := trivial
theorem tw16911376427560443658 : True := trivial
theorem tw16923774649315203039 : True := trivial
theorem tw16985338453611262854 : True := trivial
theorem tw16987284438791172689 : True := trivial
theorem tw16990050764819196490 : True := trivial
theorem tw17036248801705516431 : True := trivial
theorem tw1703757441047884659 : True := trivial
theorem tw17063328252453688467 : True := trivial
theorem tw17068357346392422519 : True := trivial
theorem tw17074551809304674762 : True := trivial
theorem tw17097018584206519840 : True := trivial
theorem tw17125911928010122097 : True := trivial
theorem tw17131373069950749788 : True := trivial
theorem tw17185069977429642790 : True := trivial
theorem tw1718930583008256923 : True := trivial
theorem tw17197966903517111469 : True := trivial
theorem tw17207887558463905534 : True := trivial
theorem tw17216868367832811499 : True := trivial
theorem tw17235690681372251394 : True := trivial
theorem tw17257843463891324344 : True := trivial
theorem tw17268434297329139036 : True := trivial
theorem tw17282906639470546710 : True := trivial
theorem tw17300015420153781302 : True := trivial
theorem tw17313220335664217456 : True := trivial
theorem tw17348216212625398131 : True := trivial
theorem tw17363361830322002087 : True := trivial
theorem tw17365676461482078798 : True := trivial
theorem tw1739655665739871916 : True := trivial
theorem tw17411680051393796615 : True := trivial
theorem tw17411752605673537829 : True := trivial
theorem tw17428366864011580512 : True := trivial
theorem tw17431235244609576533 : True := trivial
theorem tw17444499075070575408 : True := trivial
theorem tw17446850308337372179 : True := trivial
theorem tw17456809966398271800 : True := trivial
theorem tw17467805816091237302 : True := trivial
theorem tw17516753323134977889 : True := trivial
theorem tw17524227830308477088 : True := trivial
theorem tw17563929103466309630 : True := trivial
theorem tw1757840907118332383 : True := trivial
theorem tw1759475378084419704 : True := trivial
theorem tw17600009995690728507 : True := trivial
theorem tw17609707492101054284 : True := trivial
theorem tw17615641727957474697 : True := trivial
theorem tw17620542703500586584 : True := trivial
theorem tw17626136211269274200 : True := trivial
theorem tw17663457203652218498 : True := trivial
theorem tw17670691743341382363 : True := trivial
theorem tw17679998653236226571 : True := trivial
theorem tw17682942402717688719 : True := trivial
theorem tw17702450544683197438 : True := trivial
theorem tw17716045796515359069 : True := trivial
theorem tw17728338548013478596 : True := trivial
theorem tw17781993438127077590 : True := trivial
theorem tw1779126942818129217 : True := trivial
theorem tw17795843093205345384 : True := trivial
theorem tw177965917101989756 : True := trivial
theorem tw17815180155507070213 : True := trivial
theorem tw1782111742440580673 : True := trivial
theorem tw17822725487297100579 : True := trivial
theorem tw17849094335844330774 : True := trivial
theorem tw17852571922819007811 : True := trivial
theorem tw17918984460950404328 : True := trivial
theorem tw17922905423758252600 : True := trivial
theorem tw17938938242598477504 : True := trivial
theorem tw1794337418116359968 : True := trivial
theorem tw17957863583405081563 : True := trivial
theorem tw17971616060927288840 : True := trivial
theorem tw17972351363905115166 : True := trivial
theorem tw17972423991185591772 : True := trivial
theorem tw17975176836549908582 : True := trivial
theorem tw18000823871299336895 : True := trivial
theorem tw18024459268812702030 : True := trivial
theorem tw18055236536834409965 : True := trivial
theorem tw18061246276275118511 : True := trivial
theorem tw18090922957393472535 : True := trivial
theorem tw18109087994234298863 : True := trivial
theorem tw18135529478031678856 : True := trivial
theorem tw1814960767881088830 : True := trivial
theorem tw18152811019137286460 : True := trivial
theorem tw18159052812687941304 : True := trivial
theorem tw18183723855633001075 : True := trivial
theorem tw18187091540194058697 : True := trivial
theorem tw18187733137489179522 : True := trivial
theorem tw18222336076438545248 : True := trivial
theorem tw1823099239920742868 : True := trivial
theorem tw1825474831629861210 : True := trivial
theorem tw18271283799246038167 : True := trivial
theorem tw18274941010280042895 : True := trivial
theorem tw18300564235226404682 : True := trivial
theorem tw18301886856358164790 : True := trivial
theorem tw18328118315251821921 : True := trivial
theorem tw18330259979736537531 : True := trivial
theorem tw18338787885355224874 : True := trivial
theorem tw18345507098798709631 : True := trivial
theorem tw18366467258204768122 : True := trivial
theorem tw18394789603474873092 : True := trivial
theorem tw18396539113235545181 : True := trivial
theorem tw18421168378019943804 : True := trivial
theorem tw1843020880727491938 : True := trivial
theorem tw1852277109594572987 : True := trivial
theorem tw1855811220585712740 : True := trivial
theorem tw1864607102306377804 : True := trivial
theorem tw1878280972047016366 : True := trivial
theorem tw1886993506744603233 : True := trivial
theorem tw1907012184662910207 : True := trivial
theorem tw1909006909371139848 : True := trivial
theorem tw1909270068327561371 : True := trivial
theorem tw1948443163685517566 : True := trivial
theorem tw1998992719423384988 : True := trivial
theorem tw2048640548179143589 : True := trivial
theorem tw2087803284448284865 : True := trivial
theorem tw210116385617794004 : True := trivial
theorem tw2105197194184960080 : True := trivial
theorem tw2128902682123172615 : True := trivial
theorem tw2148752708401499353 : True := trivial
theorem tw2166658328228936562 : True := trivial
theorem tw2193806459740274731 : True := trivial
theorem tw2196746950046396195 : True := trivial
theorem tw2272423403153640888 : True := trivial
theorem tw2300329541933084951 : True := trivial
theorem tw2319032278871202934 : True := trivial
theorem tw2321452259603370444 : True := trivial
theorem tw2324883393647400632 : True := trivial
theorem tw2326368401047771073 : True := trivial
theorem tw2327209872859027039 : True := trivial
theorem tw2330000532469659570 : True := trivial
theorem tw2350189267954442357 : True := trivial
theorem tw2376689224314837892 : True := trivial
theorem tw2381012743102171995 : True := trivial
theorem tw2401178084651745420 : True := trivial
theorem tw2403500621023417429 : True := trivial
theorem tw2416936950866634526 : True := trivial
theorem tw2426168760463615732 : True := trivial
theorem tw2513362453449721638 : True := trivial
theorem tw2551032336287377237 : True := trivial
theorem tw2559549873211069253 : True := trivial
theorem tw2593218840038528327 : True := trivial
theorem tw2596622618352259408 : True := trivial
theorem tw2600185931337123491 : True := trivial
theorem tw2603728147536581163 : True := trivial
theorem tw2617769171603204298 : True := trivial
theorem tw2667542896423417102 : True := trivial
theorem tw2671171733006328242 : True := trivial
theorem tw267241171968016890 : True := trivial
theorem tw2700938763558920066 : True := trivial
theorem tw2744420074571847023 : True := trivial
theorem tw2760407555539800275 : True := trivial
theorem tw2762288150714889650 : True := trivial
theorem tw2762641299660199627 : True := trivial
theorem tw2785738770631280984 : True := trivial
theorem tw2797990071339161479 : True := trivial
theorem tw2812254450888292083 : True := trivial
theorem tw2822528274130754636 : True := trivial
theorem tw28261157937498347 : True := trivial
theorem tw2836009397292382994 : True := trivial
theorem tw284520810241270673 : True := trivial
theorem tw2862553943349492747 : True := trivial
theorem tw2881811889839999137 : True := trivial
theorem tw2907034577870246683 : True := trivial
theorem tw2908745314432082144 : True := trivial
theorem tw2915590204059095325 : True := trivial
theorem tw2939403407631022214 : True := trivial
theorem tw2947524784281300642 : True := trivial
theorem tw2987027794667054300 : True := trivial
theorem tw2991486385835771358 : True := trivial
theorem tw3007266586433944322 : True := trivial
theorem tw3068380524817969128 : True := trivial
theorem tw3093078861968879621 : True := trivial
theorem tw3093563667199257183 : True := trivial
theorem tw3111520660594503620 : True := trivial
theorem tw311525319580319527 : True := trivial
theorem tw316232779741372968 : True := trivial
theorem tw3168179882518770412 : True := trivial
theorem tw3171224498866339620 : True := trivial
theorem tw3179847841958627836 : True := trivial
theorem tw3181036852350463809 : True := trivial
theorem tw3182450066016546606 : True := trivial
theorem tw3183818214012590847 : True := trivial
theorem tw3197627426171945938 : True := trivial
theorem tw320090877476347468 : True := trivial
theorem tw3209667009286224168 : True := trivial
theorem tw3216710532944479802 : True := trivial
theorem tw3258105592594267766 : True := trivial
theorem tw3270507877964234907 : True := trivial
theorem tw3277823205362860052 : True := trivial
theorem tw329615891139173083 : True := trivial
theorem tw3307911670173792353 : True := trivial
theorem tw3311530133714707963 : True := trivial
theorem tw3356627491102673270 : True := trivial
theorem tw3392548235032374717 : True := trivial
theorem tw341201523458813996 : True := trivial
theorem tw3416722820534497292 : True := trivial
theorem tw3433811512384097648 : True := trivial
theorem tw3476817005724809317 : True := trivial
theorem tw3490189609565554703 : True := trivial
theorem tw354797362251282025 : True := trivial
theorem tw3584132385770068739 : True := trivial
theorem tw3587087927763741664 : True := trivial
theorem tw3603222488884734307 : True := trivial
theorem tw3612044932216438775 : True := trivial
theorem tw3619848726779235032 : True := trivial
theorem tw3633103871737796589 : True := trivial
theorem tw3651414084551974859 : True := trivial
theorem tw3668622959595826163 : True := trivial
theorem tw3671001720060456457 : True := trivial
theorem tw369887234944101349 : True := trivial
theorem tw374776124029987173 : True := trivial
theorem tw3748244490928032730 : True := trivial
theorem tw3755965735400133434 : True := trivial
theorem tw3756577904831553508 : True := trivial
theorem tw3787106331633643018 : True := trivial
theorem tw3797077707854281580 : True := trivial
theorem tw3844901069023259767 : True := trivial
theorem tw3862837529198615815 : True := trivial
theorem tw3886421110650442737 : True := trivial
theorem tw389535458833164583 : True := trivial
theorem tw3922771982854019685 : True := trivial
theorem tw3986699995337875893 : True := trivial
theorem tw4014553910032520100 : True := trivial
theorem tw4026672604721868018 : True := trivial
theorem tw4088347451587122507 : True := trivial
theorem tw4097820449580958617 : True := trivial
theorem tw4111791115382833393 : True := trivial
theorem tw4138346383603657561 : True := trivial
theorem tw4212564652848999273 : True := trivial
theorem tw4224647598444915536 : True := trivial
theorem tw4226406029830397246 : True := trivial
theorem tw4237198464763266158 : True := trivial
theorem tw4296371871127632700 : True := trivial
theorem tw4297272685746419120 : True := trivial
theorem tw4310980315257363913 : True := trivial
theorem tw4311789848071488995 : True := trivial
theorem tw4382805994042737128 : True := trivial
theorem tw4395879641185307070 : True := trivial
theorem tw4401219403417571884 : True := trivial
theorem tw4407201761301660528 : True := trivial
theorem tw4419251856653901519 : True := trivial
theorem tw4444390823711699625 : True := trivial
theorem tw4460696503626568704 : True := trivial
theorem tw4467780183225272262 : True := trivial
theorem tw4475104039676430613 : True := trivial
theorem tw4478904177219809081 : True := trivial
theorem tw4491132039546761847 : True := trivial
theorem tw4528179253231539607 : True := trivial
theorem tw4533422936026991003 : True := trivial
theorem tw4538159806799364079 : True := trivial
theorem tw4546360272810709810 : True := trivial
theorem tw4575916974729458780 : True := trivial
theorem tw458256025970046894 : True := trivial
theorem tw4584178377870119612 : True := trivial
theorem tw4602039889416490481 : True := trivial
theorem tw4639191201693126508 : True := trivial
theorem tw4648330738906436641 : True := trivial
theorem tw4651372300998010053 : True := trivial
theorem tw4684536820061144025 : True := trivial
theorem tw4689199937576988832 : True := trivial
theorem tw4702174077529656550 : True := trivial
theorem tw4723946952573580995 : True := trivial
theorem tw4727520414441788734 : True := trivial
theorem tw4741533479010485751 : True := trivial
theorem tw4743500124042181270 : True := trivial
theorem tw4757523954699544398 : True := trivial
theorem tw4768022187159458408 : True := trivial
theorem tw4779044324572741087 : True := trivial
theorem tw4806656906505062447 : True := trivial
theorem tw4806658356027455132 : True := trivial
theorem tw4914831096876607689 : True := trivial
theorem tw495095956322684884 : True := trivial
theorem tw4972457906405585069 : True := trivial
theorem tw4993009567776961789 : True := trivial
theorem tw5012234878161487549 : True := trivial
theorem tw5018920210250343281 : True := trivial
theorem tw5076744474687315121 : True := trivial
theorem tw5076809423025709589 : True := trivial
theorem tw5109388917207181074 : True := trivial
theorem tw5148318875837941179 : True := trivial
theorem tw5165088273153517102 : True := trivial
theorem tw518539476281020361 : True := trivial
theorem tw519778062928125398 : True := trivial
theorem tw5209048937874574220 : True := trivial
theorem tw5226515632718272073 : True := trivial
theorem tw5287893019402412748 : True := trivial
theorem tw5363427365368737918 : True := trivial
theorem tw5364971198694848278 : True := trivial
theorem tw5380324378251491537 : True := trivial
theorem tw5389398067479929489 : True := trivial
theorem tw5402467487538689889 : True := trivial
theorem tw5416734000585871549 : True := trivial
theorem tw5444525477799735389 : True := trivial
theorem tw5461343221730311416 : True := trivial
theorem tw5491973418699271877 : True := trivial
theorem tw5611254935698901270 : True := trivial
theorem tw5635743959305162379 : True := trivial
theorem tw5653929168791121537 : True := trivial
theorem tw566295838653329665 : True := trivial
theorem tw5706828310005881064 : True := trivial
theorem tw573542643850726822 : True := trivial
theorem tw5746967466856303668 : True := trivial
theorem tw5771182834015959116 : True := trivial
theorem tw5801679510166015163 : True := trivial
theorem tw5820590717315584888 : True := trivial
theorem tw584253582614324922 : True := trivial
theorem tw5870260838078158737 : True := trivial
theorem tw5891429745263016389 : True := trivial
theorem tw5893432360205259700 : True := trivial
theorem tw5895086304464117269 : True := trivial
theorem tw5909043290195883817 : True := trivial
theorem tw5920226279241634641 : True := trivial
theorem tw5938917221437111092 : True := trivial
theorem tw5955521877305702836 : True := trivial
theorem tw5964435333374249597 : True := trivial
theorem tw5967643164413646715 : True := trivial
theorem tw5970702942135782776 : True := trivial
theorem tw5976328478540540587 : True := trivial
theorem tw5981782373976622031 : True := trivial
theorem tw6014846453608075124 : True := trivial
theorem tw6025464535632295692 : True := trivial
theorem tw6073776817691937793 : True := trivial
theorem tw608551669145557619 : True := trivial
theorem tw608971624254941873 : True := trivial
theorem tw609513956539069079 : True := trivial
theorem tw6119910077827406975 : True := trivial
theorem tw6124111990115463390 : True := trivial
theorem tw6143795763241767300 : True := trivial
theorem tw6153055264970975104 : True := trivial
theorem tw6177416709947889103 : True := trivial
theorem tw6194245965001036438 : True := trivial
theorem tw6199291790311510669 : True := trivial
theorem tw6231185091374071615 : True := trivial
theorem tw6243461784650829260 : True := trivial
theorem tw6244291476208756711 : True := trivial
theorem tw6269984135520516943 : True := trivial
theorem tw6270749032516536061 : True := trivial
theorem tw6275017916375856160 : True := trivial
theorem tw6279372683362146852 : True := trivial
theorem tw6302120200161044023 : True := trivial
theorem tw6304737774443054202 : True := trivial
theorem tw6320206655165965581 : True := trivial
theorem tw6343333330603840571 : True := trivial
theorem tw6378499831388927650 : True := trivial
theorem tw6398550911874411533 : True := trivial
theorem tw6401015056536769638 : True := trivial
theorem tw6415052171442531201 : True := trivial
theorem tw6423191844378205847 : True := trivial
theorem tw6425475958672774399 : True := trivial
theorem tw6477464807283932361 : True := trivial
theorem tw6481671383389540121 : True := trivial
theorem tw6482432781236167299 : True := trivial
theorem tw6510582763374880787 : True := trivial
theorem tw6521598001823927621 : True := trivial
theorem tw6540226647012378959 : True := trivial
theorem tw6563007815811632009 : True := trivial
theorem tw6578835767176680122 : True := trivial
theorem tw6591358809147064078 : True := trivial
theorem tw6602139483490721856 : True := trivial
theorem tw6613528179731103118 : True := trivial
theorem tw6622008467691231850 : True := trivial
theorem tw6695280785343439698 : True := trivial
theorem tw6752152041244351492 : True := trivial
theorem tw6773339419600263833 : True := trivial
theorem tw6813798220759579411 : True := trivial
theorem tw6814984624539998398 : True := trivial
theorem tw6879521789694365631 : True := trivial
theorem tw6909872282088708520 : True := trivial
theorem tw6918699128121105234 : True := trivial
theorem tw691985168908207277 : True := trivial
theorem tw6925851468073994329 : True := trivial
theorem tw6938241626001429031 : True := trivial
theorem tw6949923761912745969 : True := trivial
theorem tw6961452803561178075 : True := trivial
theorem tw6968314731077832937 : True := trivial
theorem tw6969031391348439958 : True := trivial
theorem tw6970957982948793945 : True := trivial
theorem tw697767673735913759 : True := trivial
theorem tw698375396133130321 : True := trivial
theorem tw6986074377028694791 : True := trivial
theorem tw6992490961714649089 : True := trivial
theorem tw7040276395858043564 : True := trivial
theorem tw7042488078294732730 : True := trivial
theorem tw7059484882660438835 : True := trivial
theorem tw7062071173686878288 : True := trivial
theorem tw7144019349384262944 : True := trivial
theorem tw7144656996879166470 : True := trivial
theorem tw7148414743709408656 : True := trivial
theorem tw7196027142234256127 : True := trivial
theorem tw7207405637012390879 : True := trivial
theorem tw7216683205855404306 : True := trivial
theorem tw7218654812393203677 : True := trivial
theorem tw7227229509031912645 : True := trivial
theorem tw7246774898757216618 : True := trivial
theorem tw7247121180407896080 : True := trivial
theorem tw7291049897352622336 : True := trivial
theorem tw730151745243453696 : True := trivial
theorem tw7314729458024927331 : True := trivial
theorem tw7318521510429847083 : True := trivial
theorem tw732213848258670187 : True := trivial
theorem tw7377913721218917417 : True := trivial
theorem tw7404271926237531337 : True := trivial
theorem tw7404396969942818904 : True := trivial
theorem tw7406018352353883166 : True := trivial
theorem tw7470542575248395187 : True := trivial
theorem tw7515813914174977252 : True := trivial
theorem tw751634131043846340 : True := trivial
theorem tw7568747342323784248 : True := trivial
theorem tw7599394606221179700 : True := trivial
theorem tw7610843934208004111 : True := trivial
theorem tw7613431361149937355 : True := trivial
theorem tw7624225269976869511 : True := trivial
theorem tw7648821706499084925 : True := trivial
theorem tw7650598009009573454 : True := trivial
theorem tw7664252032937855994 : True := trivial
theorem tw7666874558539166958 : True := trivial
theorem tw7690275707318430188 : True := trivial
theorem tw7691659838610182085 : True := trivial
theorem tw7692369863197582704 : True := trivial
theorem tw7698397758029075281 : True := trivial
theorem tw7748722093274211588 : True := trivial
theorem tw7804548176959592039 : True := trivial
theorem tw7837314562979902455 : True := trivial
theorem tw7854530583164357687 : True := trivial
theorem tw7863185439240414171 : True := trivial
theorem tw7893840348390118523 : True := trivial
theorem tw7992884029373772890 : True := trivial
theorem tw8019430228447660498 : True := trivial
theorem tw8024808701927547214 : True := trivial
theorem tw8063452541562887971 : True := trivial
theorem tw8097262783022296900 : True := trivial
theorem tw8098103415896333427 : True := trivial
theorem tw8136620083375417421 : True := trivial
theorem tw8147213263478459219 : True := trivial
theorem tw8149453637487355478 : True := trivial
theorem tw8150689814524181265 : True := trivial
theorem tw8209446506060474962 : True := trivial
theorem tw8212933961046000261 : True := trivial
theorem tw8217554704023697049 : True := trivial
theorem tw8318878015066731246 : True := trivial
theorem tw8332198170038596474 : True := trivial
theorem tw8338771033048517462 : True := trivial
theorem tw8343017454170739802 : True := trivial
theorem tw8359581664951004799 : True := trivial
theorem tw8379601169196725537 : True := trivial
theorem tw8394012527675151230 : True := trivial
theorem tw83998146447936010 : True := trivial
theorem tw8400087068761684589 : True := trivial
theorem tw8474290968115800705 : True := trivial
theorem tw850875961319314140 : True := trivial
theorem tw857548008498491391 : True := trivial
theorem tw859676247550901278 : True := trivial
theorem tw861691832940856384 : True := trivial
theorem tw8624092115960512763 : True := trivial
theorem tw8634273385627239190 : True := trivial
theorem tw8659821096862030377 : True := trivial
theorem tw868452848470293763 : True := trivial
theorem tw8717896679543343999 : True := trivial
theorem tw873445295379153441 : True := trivial
theorem tw8738830201171645441 : True := trivial
theorem tw8789890972062595667 : True := trivial
theorem tw8806158489640329905 : True := trivial
theorem tw8833671660515388309 : True := trivial
theorem tw8846904003679396219 : True := trivial
theorem tw891815518661067798 : True := trivial
theorem tw8938049371364845099 : True := trivial
theorem tw9010284619469267596 : True := trivial
theorem tw9090594505079265912 : True := trivial
theorem tw9095855811231298539 : True := trivial
theorem tw9105096581924373831 : True := trivial
theorem tw9116190875624857050 : True := trivial
theorem tw9161330846769907841 : True := trivial
theorem tw916734660957371136 : True := trivial
theorem tw9174923486838795401 : True := trivial
theorem tw9185683010117053572 : True := trivial
theorem tw9185728954666866051 : True := trivial
theorem tw9206986266112520564 : True := trivial
theorem tw9216335976418922860 : True := trivial
theorem tw9219696685623901700 : True := trivial
theorem tw9241040647264573036 : True := trivial
theorem tw924532698336333479 : True := trivial
theorem tw9257635926243639722 : True := trivial
theorem tw9276806287239418663 : True := trivial
theorem tw9289824705629042623 : True := trivial
theorem tw929349535284850878 : True := trivial
theorem tw9307322099170971649 : True := trivial
theorem tw9310210993212320079 : True := trivial
theorem tw9319795017642283832 : True := trivial
theorem tw9321318937661411693 : True := trivial
theorem tw9323940923777180837 : True := trivial
theorem tw933087665315221661 : True := trivial
theorem tw9367810697343948479 : True := trivial
theorem tw9388014381669315855 : True := trivial
theorem tw943228172536477213 : True := trivial
theorem tw9440221981750682042 : True := trivial
theorem tw945709744134731463 : True := trivial
theorem tw9487622294665684940 : True := trivial
theorem tw9490947326919456267 : True := trivial
theorem tw9518283373697026811 : True := trivial
theorem tw9535694194596048665 : True := trivial
theorem tw9537694728860900240 : True := trivial
theorem tw9558352300627248600 : True := trivial
theorem tw9565433247884952306 : True := trivial
theorem tw9566711784444413737 : True := trivial
theorem tw9597098797027266128 : True := trivial
theorem tw9600548378861690361 : True := trivial
theorem tw9606215443999434389 : True := trivial
theorem tw9608448218572223769 : True := trivial
theorem tw964052820889409004 : True := trivial
theorem tw9649027001324999079 : True := trivial
theorem tw965490587132572682 : True := trivial
theorem tw966774479206267091 : True := trivial
theorem tw9735935146501418662 : True := trivial
theorem tw9756482123150466823 : True := trivial
theorem tw977101207082536118 : True := trivial
theorem tw9822737899575012150 : True := trivial
theorem tw9838245986709885931 : True := trivial
theorem tw9847353764265064739 : True := trivial
theorem tw9858010458031592840 : True := trivial
theorem tw9861127863619751983 : True := trivial
theorem tw9870379344974808567 : True := trivial
theorem tw9870834729689479212 : True := trivial
theorem tw9888548953942408906 : True := trivial
theorem tw9890126005705892644 : True := trivial
theorem tw9937499239413880609 : True := trivial
theorem tw9938943208027313934 : True := trivial
theorem tw9943403201161345251 : True := trivial
end Mine.law5

namespace Mine
open PySem PySem.W PyProof.Rows
theorem ints_rv {D : Wd} {N : Nx} : ∀ {xs : List Int} {vs : List PV}, WellAll D.w.params N.s.heap vs (ofPys (xs.map PyData.int)) → RVs D N (xs.map V.int) vs
  | [], _, .nil => rfl
  | i :: xs, vs, x => by
    have x : WellAll D.w.params N.s.heap vs (.int i :: ofPys (xs.map PyData.int)) := x
    cases x with
    | cons a r => cases a with
      | int j t => exact ⟨_, _, rfl, ⟨_, rfl⟩, ints_rv r⟩
theorem list_well {w : World} {h : Heap} {a : Addr} {xs : List Int} (x : Well w.params h (.ref a) (ofPy (.list (xs.map PyData.int)))) : ∃ vs, h.get? a = some { cls := .type "list", data := .seq vs.toArray } ∧ WellAll w.params h vs (ofPys (xs.map PyData.int)) := by
  have x : Well w.params h (.ref a) (.list (ofPys (xs.map PyData.int))) := x
  cases x with
  | list h1 h2 => exact ⟨_, h1, h2⟩
theorem start_ok {D : Wd} {s : Shared} {P : Prog} (hb : D.base = s.heap) (big : ∃ a, 1 < a ∧ (s.heap.get? a).isSome = true) {N f : Nat} {ds : List V} {vs : List PV} {A : Around}
    (tok : TOk ⟨D, P, ⟨callK P N⟩, N⟩) (e : ∀ K : V → St → Prop, (∀ σ, K (.bool true) σ) → callK P N f ds [] K) (rs : RVs D ⟨[], fun a => (s.heap.get? a).isSome = true, [], s⟩ ds vs) (rm : Room N 0 A) {Q E : PV → Shared → Prop}
    (q : ∀ s', (∀ b o, s.heap.get? b = some o → s'.heap.get? b = some o) → s'.gens = s.gens → s'.os = s.os → Q (.bool true) s') : wpAny (model D.prog D.w) A (call (.ref (D.fa f)) vs) Q E s :=
  TOk.run (B := ⟨D, P, ⟨callK P N⟩, N⟩) (G := ⟨default, A, []⟩) (N := ⟨[], fun a => (s.heap.get? a).isSome = true, [], s⟩) (K := fun d _ => d = .bool true) tok (e _ fun _ => rfl) rm
    ⟨fun a o e => by rw [hb] at e; exact e, big, rfl, List.nodup_nil, fun p hp => (nomatch hp), fun p hp => (nomatch hp), fun a _ c => c.elim fun p hp => (nomatch hp.1), fun a h => h, fun a h => by rw [hb] at h; exact h, fun p hp => (nomatch hp), fun n o p h => (nomatch h)⟩ rs
    fun d Y v k a r => by subst k; cases (r : v = .bool true); exact q Y.s (fun b o e => a.kp b o e (fun c => c.elim fun p hp => nomatch hp.1) id) a.gens a.os
theorem P5.elimH {w : Params} {h : Heap} {H : Params → Frag} {p : Prop} (tp : P5.Top H) (k : (H w).In h) (f : ∀ H : Params → Frag, P5.Top H → (H w).In h → p) : p := f H tp k
theorem law5 : PySem.Challenge.rw_nz0397_05.Holds := by
  w_on
  o_law
  k_head
  (case hw => w_witness2)
  k_fill
  intro w s₀ s₁ mg mb G Y fa o pm cd doc dV kV ho hd hcd hD hmg hg args vals as hpre hlay hrd hwl hlo
  refine P5.elimH ?tp (kIn_of Y) ?_
  (case tp => exact ⟨fun p ob => by kernel_rfl!, fun p ob => by kernel_rfl!, fun p ob => by kernel_rfl!, fun p ob => by kernel_rfl!, fun p ob => by kernel_rfl!, fun p ob => by kernel_rfl!, fun p ob => by kernel_rfl!, fun p ob => by kernel_rfl!, fun p ob => by kernel_rfl!, fun p ob => by kernel_rfl!⟩)
  intro Hp tp KX
  have hmg0 := hmg
  have X := (Ground.X G).1
  have V := (Ground.X G).2
  refine Ground.open G ?_
  intro T B D TE TW
  wrow_args hpre hlay hrd hwl hlo
  rename_i xs hs hlay0 hL0 hr0 hl2 as1 as2 a vs1 as3 hL hra hw1 hr1 hI hr2 hlen htr
  clear hd hD ho hcd Y X V D
  obtain ⟨vs, hget, hall⟩ := list_well hw1
  obtain ⟨N, hN, hev⟩ := P5.hC xs (by omega)
  obtain ⟨ob, hob⟩ : ∃ ob, s₁.heap.get? builtinsNs = some ob := by
    obtain ⟨o, es, ep, ho', _⟩ := T.b
    exact ⟨o, ho'⟩
  have X0 : (P5.K Hp w.params ob).In s₁.heap := fun b o e => by
    rw [List.lookup_cons] at e
    split at e
    · rename_i hb; cases e; rw [eq_of_beq hb]; exact hob
    · exact KX b o e
  have T' := topRead_of T
  have bt : ∀ x v, (x == ("__name__" : Str)) = false → bootBuiltins x = some v → nsIn (P5.K Hp w.params ob) builtinsNs x = some (some v) := fun x v hn e => bi_of hob T.b ((T'.builtins x (beq_eq_false_iff_ne.mp hn)).trans e)
  have h470 : ((P5.K Hp w.params ob).lookup 470).isSome = true := tp.fn w.params ob
  obtain ⟨oc, hoc⟩ := Option.isSome_iff_exists.mp h470
  have D0 : Wd := ⟨Challenge.rw_nz0397_05.row.prog, w, P5.K Hp w.params ob, s₁.heap, P5.fa, P5.ca, 3⟩
  have tok := tok_go (D := ⟨Challenge.rw_nz0397_05.row.prog, w, P5.K Hp w.params ob, s₁.heap, P5.fa, P5.ca, 3⟩) (P := P5.prog) (fun n T' ht => P5.go tp (ob := ob) rfl rfl rfl rfl rfl (bt _ _ (by decide +kernel) (by first | boot_by_name | rfl | kernel_rfl))
    ⟨P5.Facts tp (ob := ob) rfl rfl rfl rfl rfl X0 T.nolimit, ht, Nat.le_refl _, fun q hq => ⟨eq_of (List.all_eq_true.mp (tp.noGlob w.params ob) _ hq), bt _ _ (of_not (List.all_eq_true.mp P5.biNe _ hq)) (eq_of (List.all_eq_true.mp P5.boot _ hq))⟩, ok_sorted, ss_ok (Nat.le_refl _)⟩) N
  have efa : fa = 706 := by
    have e1 : nsIn (P5.K Hp w.params ob) mainGlobals "law" = some (some (.ref 706)) := tp.law w.params ob
    have e2 := mg_of X0 T.g e1
    have e3 : mg "law" = some (.ref fa) := hmg0
    rw [e2] at e3
    cases e3; rfl
  subst efa
  clear hmg hmg0
  refine start_ok (D := ⟨Challenge.rw_nz0397_05.row.prog, w, P5.K Hp w.params ob, s₁.heap, P5.fa, P5.ca, 3⟩) (f := 85) rfl ⟨470, by decide, by rw [X0 _ _ hoc]; rfl⟩ tok hev ⟨_, _, rfl, ⟨a, vs.toArray, rfl, by show (s₁.heap.get? a).isSome = true; rw [hget]; rfl, ⟨_, hget⟩, ints_rv hall⟩, rfl⟩ ⟨?_, ?_, rfl⟩ fun s' hk hg' hos => ?_
  · show 301 + 5 * N + min 0 2 + 2 < 1000; omega
  · show 4 + 100 * N + 0 < 9900; omega
  · refine GoodW.toG ⟨.inl ⟨.bool true, .bool true, [], rfl, ?_, .bool true, ?_, ?_⟩, hk, hos, by rw [hg', hg]⟩
    · intro cls; rfl
    · kernel_rfl
    · exact fun _ => ⟨List.nodup_nil, fun a ha => nomatch ha⟩
end Mine

theorem PySem.Challenge.cw_nz0397_05_holds : PySem.Challenge.rw_nz0397_05.Holds :=
  Mine.law5
