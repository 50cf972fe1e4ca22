import PyProof.Rows.All
import Wide.All
import OpenK.AllK
import Wide.FinOn
import Lean
import PySem.Challenge.RW_nz0397_03
set_option autoImplicit false
set_option linter.unusedVariables false
set_option genSizeOf false
set_option genInjectivity false
set_option maxRecDepth 100000
set_option maxHeartbeats 8000000
set_option Elab.async true
set_option tactic.hygienic false
set_option hygiene false
namespace Mine.Internal
inductive V where
 | none | bool (b:Bool) | int (i:Int) | str (s:Nat)
 | tup (l:List V) | list (l:List V) | dict (l:List (V × V)) | loc (n:Nat)
noncomputable def encL (l:List Nat):Nat:=l.foldl (fun a c=>a * 2097152 + (c + 1)) 0
noncomputable def decL:Nat→Nat→List Nat
 | 0,_=>[]
 | k + 1,n=>if n = 0 then [] else decL k (n / 2097152)++[n % 2097152 - 1]
noncomputable def shortS (s:Nat):Bool:=decide ((decL 1001 s).length≤1000)
noncomputable def catS (a b:Nat):Nat:=(decL 1001 b).foldl (fun a c=>a * 2097152 + (c + 1)) a
noncomputable def digs (n:Nat):List Nat:=(Nat.toDigits 10 n).map Char.toNat
mutual
noncomputable def V.beq:V→V→Bool
 | .none,.none=>true
 | .bool a,.bool b=>a == b
 | .int a,.int b=>decide (a = b)
 | .str a,.str b=>decide (a = b)
 | .tup a,.tup b=>beqs a b
 | .list a,.list b=>beqs a b
 | .dict a,.dict b=>beqp a b
 | .loc a,.loc b=>decide (a = b)
 | _,_=>false
noncomputable def beqs:List V→List V→Bool
 | [],[]=>true
 | a :: r,b :: t=>V.beq a b && beqs r t
 | _,_=>false
noncomputable def beqp:List (V × V)→List (V × V)→Bool
 | [],[]=>true
 | (a,c) :: r,(b,d) :: t=>V.beq a b && (V.beq c d && beqp r t)
 | _,_=>false
end
noncomputable def eqOk:Nat→V→Bool
 | _,.none=>true
 | _,.int _=>true
 | _,.str _=>true
 | n + 1,.tup l=>l.all (eqOk n)
 | n + 1,.list l=>l.all (eqOk n)
 | _,_=>false
noncomputable def isBool:V→Bool
 | .bool _=>true
 | _=>false
noncomputable def pyEq (a b:V):Option Bool :=
 if (eqOk 24 a && eqOk 24 b) || (isBool a && isBool b) then some (V.beq a b) else none
noncomputable def pyIn (x:V) (l:List V):Option Bool:=if l.all (fun y=>(pyEq y x).isSome) then some (l.any fun y=>V.beq y x) else none
noncomputable def V.truthy:V→Option Bool
 | .bool b=>some b
 | _=>Option.none
inductive SObj where
 | inst (c:Nat) (fs:List (Nat × V))
 | dict (es:List (V × V))
 | list (l:List V)
 | dead
noncomputable abbrev St:=List SObj
inductive Bop where | add | sub | mul | mod | band | div | shr
inductive Cop where | eq | ne | lt | gt | ge | in_ | notIn | le
inductive Mth where | app | ext | upd | rem
inductive Bi where
 | len | list | tuple | dict | sorted | sortedSet | int | max | sum | abs | lenSet | items
set_option genCtorIdx false in
inductive Tg where
 | one (i:Nat)
 | many (is:List Nat)
mutual
inductive X where
 | cst (v:V)
 | var (i:Nat)
 | glob (k:Nat)
 | tup (es:List X)
 | list (es:List X)
 | dict (kvs:List X)
 | mut (e:X)
 | attr (e:X) (f:Nat)
 | item (e i:X)
 | sidx (cs:List V) (i:X)
 | sl (e lo hi:X)
 | bin (o:Bop) (a b:X)
 | and (es:List X)
 | or (es:List X)
 | cmp (o:Cop) (a b:X)
 | ite (c a b:X)
 | call (f:Nat) (args:List X)
 | meth (o:X) (m:Nat) (args:List X)
 | new (c:Nat) (args:List X)
 | bi (b:Bi) (args:List X)
 | get (e:X) (args:List X)
 | comp (c:C)
 | fstr (es:List X)
 | not (e:X)
 | cntT (e:X)
inductive C where
 | elt (e:X)
 | gen (t:Tg) (s:Src) (ifs:List X) (r:C)
inductive Src where
 | val (e:X)
 | range (e:X)
 | enum (e:X)
 | zip (a b:X)
 | items (e:X)
end
set_option genCtorIdx false in
inductive Tgt where
 | name (i:Nat)
 | attr (o:X) (f:Nat)
 | item (o k:X)
set_option genCtorIdx false in
inductive S where
 | asg (t:Tgt) (e:X)
 | asgT (is:List Nat) (e:X)
 | asgTs (w:Bool) (is:List Nat) (es:List X)
 | mth (m:Mth) (o e:X)
 | expr (e:X)
 | ite (c:X) (a b:List S)
 | for_ (t:Tg) (s:Src) (body:List S)
 | while_ (c:X) (body:List S)
 | ret (e:X)
 | raise
 | asgM (ts:List Tgt) (e:X)
structure FDef where
 params:Nat
 slots:Nat
 body:List S
structure Prog where
 fn:Nat→Option FDef
 meth:Nat→Nat→Option Nat
 init:Nat→Option Nat
 glob:Nat→Option V
noncomputable abbrev REnv:=List (Option V)
noncomputable def capL:Nat:=1000000
noncomputable def getA (fs:List (Nat × V)) (f:Nat):Option V:=fs.lookup f
noncomputable def setA:List (Nat × V)→Nat→V→List (Nat × V)
 | [],f,v=>[(f,v)]
 | (g,w) :: r,f,v=>if g = f then (g,v) :: r else (g,w) :: setA r f v
noncomputable def keyOk:V→Bool
 | .str _=>true
 | _=>false
noncomputable def tupKey:V→Bool
 | .tup l=>l.all fun | .str _=>true | _=>false
 | _=>false
noncomputable def dget (k:V):List (V × V)→Option V
 | []=>none
 | (a,b) :: r=>if V.beq a k then some b else dget k r
noncomputable def dset (k v:V):List (V × V)→List (V × V)
 | []=>[(k,v)]
 | (a,b) :: r=>if V.beq a k then (a,v) :: r else (a,b) :: dset k v r
noncomputable def pairUp:List V→List (V × V)→Option (List (V × V))
 | [],d=>some d
 | k :: v :: r,d=>if keyOk k then pairUp r (dset k v d) else none
 | _,_=>none
noncomputable def idx (n:Nat) (i:Int):Option Nat :=
 if 0≤i then (if i < n∧i≤1000000 then some i.toNat else none) else (if 0≤n + i∧-1000000≤i then some (n + i).toNat else none)
noncomputable def clip (n:Nat) (i:Int):Nat :=
 (max 0 (min (if i < 0 then i + n else i) n)).toNat
noncomputable def rowsI:List (List Int):=[[0],[1],[2]]
noncomputable def rowV (k:List Int):V:=.tup (k.map .int)
noncomputable def rowsA:List V:=rowsI.map rowV
noncomputable def rowOk (r:V):Bool:=rowsA.any (V.beq r)
noncomputable def sortB (l:List V):List V:=rowsA.filter fun r=>l.any fun x=>V.beq x r
noncomputable def setMany:List Nat→List V→REnv→REnv
 | i :: is,v :: vs,ρ=>setMany is vs (ρ.set i (some v))
 | _,_,ρ=>ρ
noncomputable def bindTg (ρ:REnv):Tg→V→Option REnv
 | .one i,v=>some (ρ.set i (some v))
 | .many is,.tup l=>if is.length = l.length then some (setMany is l ρ) else none
 | .many _,_=>none
noncomputable def Tg.slots:Tg→List Nat
 | .one i=>[i]
 | .many is=>is
noncomputable def C.slots:C→List Nat
 | .elt _=>[]
 | .gen t _ _ r=>t.slots++r.slots
noncomputable def clr (is:List Nat) (ρ:REnv):REnv:=is.foldl (fun ρ i=>ρ.set i none) ρ
noncomputable def locL:Option SObj→Option (List V)
 | some (.list l)=>some l
 | _=>none
noncomputable def locD:Option SObj→Option (List (V × V))
 | some (.dict l)=>some l
 | _=>none
noncomputable def asList (σ:St):V→Option (List V)
 | .tup l=>some l
 | .list l=>some l
 | .loc n=>locL σ[n]?
 | _=>none
noncomputable def asListL:V→Option (List V)
 | .list l=>some l
 | _=>none
noncomputable def asListT:V→Option (List V)
 | .tup l=>some l
 | _=>none
noncomputable def asSeqV:V→Option (List V)
 | .list l=>some l
 | .tup l=>some l
 | _=>none
noncomputable def asDictV:V→Option (List (V × V))
 | .dict l=>some l
 | _=>none
noncomputable def locOf:V→Option Nat
 | .loc n=>some n
 | _=>none
noncomputable def asDict (σ:St):V→Option (List (V × V))
 | .dict l=>some l
 | .loc n=>locD σ[n]?
 | _=>none
noncomputable def still (g:Option Nat) (l:List V) (σ:St):Prop:=match g with
 | none=>True
 | some n=>σ[n]? = some (.list l)
noncomputable def stO (l:List V):Option SObj→Bool
 | some (.list k)=>beqs k l
 | _=>false
noncomputable def stillB (g:Option Nat) (l:List V) (σ:St):Bool:=match g with
 | none=>true
 | some n=>stO l σ[n]?
noncomputable def asLst (σ:St):V→Option (List V)
 | .list l=>some l
 | .loc n=>locL σ[n]?
 | _=>none
noncomputable def derefO (n:Nat):Option SObj→V
 | some (.list l)=>.list l
 | _=>.loc n
noncomputable def deref (σ:St):V→V
 | .loc n=>derefO n σ[n]?
 | v=>v
noncomputable def okLen (l:List V):Option (List V):=if l.length≤capL then some l else none
noncomputable def kvS (k v:V):Option (Nat × V):=match k with
 | .str s=>some (s,v)
 | _=>none
noncomputable def kvL (l:List V):Option (Nat × V):=match l with
 | [k,v]=>kvS k v
 | _=>none
noncomputable def kvOf (x:V):Option (Nat × V):=match x with
 | .tup l=>kvL l
 | _=>none
noncomputable def updD (d:List (V × V)):List V→Option (List (V × V))
 | []=>some d
 | x :: r=>(kvOf x).bind fun p=>updD (dset (.str p.1) p.2 d) r
noncomputable def asInt:V→Option Int
 | .int i=>some i
 | _=>none
noncomputable def asTup:V→Option (List V)
 | .tup l=>some l
 | _=>none
noncomputable def one (l:List V) (f:V→Option V):Option V:=match l with
 | [v]=>f v
 | _=>none
noncomputable def lenE (σ:St) (v:V):Option V:=match v with
 | .dict l=>if l.length≤capL then some (.int l.length) else none
 | v=>((asList σ v).bind okLen).map fun l=>.int l.length
noncomputable def dictE (σ:St) (v:V):Option V:=match v with
 | .list l=>((okLen l).bind (updD [])).map .dict
 | v=>(asDict σ v).bind fun l=>if l.length≤capL then some (.dict l) else none
noncomputable def getS (l:List (V × V)) (k v:V):Option V:=match k with
 | .str s=>some ((dget (.str s) l).getD v)
 | _=>none
noncomputable def getL (l:List (V × V)) (a:List V):Option V:=match a with
 | [k,v]=>getS l k v
 | _=>none
noncomputable def sumL:Int→List V→Option V
 | a,[]=>some (.int a)
 | a,x :: r=>(asInt x).bind fun i=>sumL (a + i) r
noncomputable def cntB:List V→Nat→Option Nat
 | [],n=>some n
 | x :: r,n=>x.truthy.bind fun b=>cntB r (bif b then n + 1 else n)
noncomputable def stepU (σ:List V) (x:V):List V:=if (σ.any fun y=>V.beq y x) = true then σ else σ++[x]
noncomputable def biE (σ:St) (b:Bi) (l:List V):Option V:=match b with
 | .len=>one l (lenE σ)
 | .list=>one l fun v=>((asList σ v).bind okLen).map .list
 | .tuple=>one l fun v=>((asList σ v).bind okLen).map .tup
 | .dict=>one l (dictE σ)
 | .sorted=>none
 | .sortedSet=>one l fun v=>(asListL v).bind fun l=>if l.all rowOk = true∧l.length≤capL then some (.list (sortB l)) else none
 | .int=>one l fun v=>(asInt v).map .int
 | .max=>match l with
  | [a,b]=>(asInt a).bind fun a=>(asInt b).map fun b=>.int (if a < b then b else a)
  | _=>none
 | .sum=>one l fun v=>(asListL v).bind (sumL 0)
 | .abs=>one l fun v=>(asInt v).map fun i=>.int (if i < 0 then -i else i)
 | .lenSet=>one l fun v=>(asTup v).bind fun l=>if (l.all fun x=>(asInt x).isSome) = true∧l.length≤1000 then some (.int (l.foldl stepU []).length) else none
 | .items=>one l fun v=>(asDictV v).bind fun l=>if l.length≤capL then some (.list (l.map fun (q:V × V)=>V.tup [q.1,q.2])) else none
noncomputable def addE (σ:St) (a b:V):Option V:=match a with
 | .int a=>(asInt b).map fun b=>.int (a + b)
 | .tup a=>(asTup b).bind fun b=>(okLen (a++b)).map .tup
 | a=>(asLst σ a).bind fun a=>(asLst σ b).bind fun b=>(okLen (a++b)).map .list
noncomputable def binE (σ:St) (o:Bop) (a b:V):Option V:=match o with
 | .add=>addE σ a b
 | .sub=>(asInt a).bind fun a=>(asInt b).map fun b=>.int (a - b)
 | .mul=>(asInt a).bind fun a=>(asInt b).bind fun b=>if a.natAbs≤1000000∧b.natAbs≤1000000 then some (.int (a * b)) else none
 | .mod=>(asInt a).bind fun a=>(asInt b).bind fun b=>if 0 < b then some (.int (a % b)) else none
 | .band=>(asInt a).bind fun a=>(asInt b).bind fun b=>if 0≤a∧0≤b then some (.int ((a.toNat &&& b.toNat:Nat):Int)) else none
 | .div=>(asInt a).bind fun a=>(asInt b).bind fun b=>if 0 < b∧(a.natAbs≤1000000∧b≤1000000) then some (.int (a / b)) else none
 | .shr=>(asInt a).bind fun a=>(asInt b).bind fun b=>if 0≤b then some (.int (a.fdiv (2 ^ b.toNat))) else none
noncomputable def inD (k:V) (l:List (V × V)):Option Bool:=if keyOk k then some (dget k l).isSome else if tupKey k && l.isEmpty then some false else none
noncomputable def inE (σ:St) (k d:V):Option Bool:=match asList σ d with
 | some l=>pyIn k l
 | none=>(asDict σ d).bind (inD k)
noncomputable def cmpI (a b:V) (f:Int→Int→Bool):Option Bool:=(asInt a).bind fun a=>(asInt b).map fun b=>f a b
noncomputable def cmpE (σ:St) (o:Cop) (a b:V):Option Bool:=match o with
 | .eq=>pyEq (deref σ a) (deref σ b)
 | .ne=>(pyEq (deref σ a) (deref σ b)).map (!·)
 | .lt=>cmpI a b fun a b=>decide (a < b)
 | .gt=>cmpI a b fun a b=>decide (b < a)
 | .ge=>cmpI a b fun a b=>decide (b≤a)
 | .in_=>inE σ a b
 | .notIn=>(inE σ a b).map (!·)
 | .le=>cmpI a b fun a b=>decide (a≤b)
noncomputable def itemE (σ:St) (o i:V):Option V:=match i with
 | .int k=>(asList σ o).bind fun l=>(idx l.length k).bind fun j=>l[j]?
 | .str s=>(asDict σ o).bind fun d=>dget (.str s) d
 | _=>none
noncomputable def strOf:V→Option Nat
 | .str s=>if shortS s then some s else none
 | .int i=>if (0≤i∧i≤1000000)∧shortS (encL (digs i.toNat)) = true then some (encL (digs i.toNat)) else none
 | _=>none
noncomputable def methO (P:Prog) (k n:Nat):Option SObj→Option (Nat × Nat)
 | some (.inst c fs)=>if (getA fs n).isSome then none else (P.meth c n).map fun f=>(k,f)
 | _=>none
noncomputable def findMeth (P:Prog) (v:V) (n:Nat) (σ:St):Option (Nat × Nat):=match v with
 | .loc k=>methO P k n σ[k]?
 | _=>none
set_option genCtorIdx false in
inductive Out where
 | next (ρ:REnv) (σ:St)
 | ret (v:V) (σ:St)
noncomputable def setObjO (k v:V) (n:Nat) (σ:St):Option SObj→Option St
 | some (.dict d)=>if keyOk k && decide (d.length≤capL) then some (σ.set n (.dict (dset k v d))) else if tupKey k && d.isEmpty then some (σ.set n .dead) else none
 | _=>none
noncomputable def setObj (o:V) (k v:V) (σ:St):Option St:=match o with
 | .loc n=>setObjO k v n σ σ[n]?
 | _=>none
noncomputable def setFldO (f:Nat) (v:V) (n:Nat) (σ:St):Option SObj→Option St
 | some (.inst c fs)=>if decide (fs.length≤1000) then some (σ.set n (.inst c (setA fs f v))) else none
 | _=>none
noncomputable def setFld (o:V) (f:Nat) (v:V) (σ:St):Option St:=match o with
 | .loc n=>setFldO f v n σ σ[n]?
 | _=>none
noncomputable def isS:V→Bool
 | .str _=>true
 | _=>false
noncomputable def removeV (v:V) (l:List V):Option (List V):=if l.all isS && isS v && decide (l.length≤capL) then (l.findIdx? fun y=>V.beq y v).map fun j=>l.eraseIdx j else none
noncomputable def mthO (σ:St) (v:V) (n:Nat) (m:Mth):Option SObj→Option St
 | some (.list l)=>match m with
  | .app=>(okLen (l++[v])).map fun l=>σ.set n (.list l)
  | .ext=>(asList σ v).bind fun k=>(okLen (l++k)).map fun l=>σ.set n (.list l)
  | .rem=>(removeV v l).map fun l=>σ.set n (.list l)
  | .upd=>none
 | some (.dict d)=>match m with
  | .upd=>(asListL v).bind fun l=>if d.length + l.length≤capL then (updD d l).map fun d=>σ.set n (.dict d) else none
  | _=>none
 | _=>none
noncomputable def conO (m:Mth):Option SObj→Bool
 | some (.list _)=>match m with
  | .upd=>false
  | _=>true
 | some (.dict _)=>match m with
  | .upd=>true
  | _=>false
 | _=>false
noncomputable def isCon (m:Mth) (w:V) (σ:St):Bool:=match w with
 | .loc n=>conO m σ[n]?
 | _=>false
noncomputable def mthE (m:Mth) (w v:V) (σ:St):Option St:=match w with
 | .loc n=>mthO σ v n m σ[n]?
 | _=>none
noncomputable def objOf:V→Option SObj
 | .list l=>some (.list l)
 | .dict l=>some (.dict l)
 | _=>none
noncomputable def enter (d:FDef) (args:List V):REnv:=args.map some++List.replicate (d.slots - args.length) none
noncomputable def oK {α:Type}:Option α→(α→Prop)→Prop
 | some a,k=>k a
 | none,_=>False
noncomputable def bK (b:Bool) (p:Prop):Prop:=match b with
 | true=>p
 | false=>False
noncomputable def iK (b:Bool) (p q:Prop):Prop:=match b with
 | true=>p
 | false=>q
noncomputable def fldO (f:Nat):Option SObj→Option V
 | some (.inst _ fs)=>getA fs f
 | _=>none
noncomputable def attrE (v:V) (f:Nat) (σ:St):Option V:=match v with
 | .loc n=>fldO f σ[n]?
 | _=>none
noncomputable def sidxE (cs:List V) (v:V):Option V:=(asInt v).bind fun k=>(idx cs.length k).bind fun j=>cs[j]?
noncomputable def cut {α:Type} (l:List α) (lo hi:Option Int):List α:=(l.take (hi.elim l.length (clip l.length))).drop (lo.elim 0 (clip l.length))
noncomputable def cutE (v:V) (lo hi:Option Int):Option V:=match v with
 | .list l=>if l.length≤capL then some (.list (cut l lo hi)) else none
 | .tup l=>if l.length≤capL then some (.tup (cut l lo hi)) else none
 | _=>none
noncomputable def endE:V→Option (Option Int)
 | .none=>some none
 | .int i=>some (some i)
 | _=>none
noncomputable def sliceE (v a h:V):Option V:=(endE a).bind fun a=>(endE h).bind fun h=>cutE v a h
noncomputable def rangeE (v:V):Option (List V):=(asInt v).bind fun n=>if -1000000≤n∧n≤1000000 then some ((List.range n.toNat).map fun (k:Nat)=>V.int k) else none
structure TabK where
 call:Nat→List V→St→(V→St→Prop)→Prop
noncomputable def kLoopC0 (st:St→Bool) (bnd:V→Option REnv) (ifs:REnv→St→(Bool→St→Prop)→Prop) (body:List V→REnv→St→(List V→St→Prop)→Prop):List V→List V→St→(List V→St→Prop)→Prop
 | [],ds,σ,k=>bK (st σ) (k ds σ)
 | v :: r,ds,σ,k=>bK (st σ) (oK (bnd v) fun ρ=>ifs ρ σ fun t σ=>iK t (body ds ρ σ fun ds σ=>kLoopC0 st bnd ifs body r ds σ k) (kLoopC0 st bnd ifs body r ds σ k))
@[irreducible] noncomputable def kLoopC (st:St→Bool) (bnd:V→Option REnv) (ifs:REnv→St→(Bool→St→Prop)→Prop) (body:List V→REnv→St→(List V→St→Prop)→Prop) (l ds:List V) (σ:St) (k:List V→St→Prop):Prop:=kLoopC0 st bnd ifs body l ds σ k
section
variable (P:Prog) (T:TabK)
mutual
noncomputable def kE:X→REnv→St→(V→St→Prop)→Prop
 | .cst v,_,σ,k=>k v σ
 | .var i,ρ,σ,k=>oK ((ρ[i]?).bind id) fun v=>k v σ
 | .glob g,_,σ,k=>oK (P.glob g) fun v=>k v σ
 | .tup es,ρ,σ,k=>kEs es ρ σ fun l σ=>k (.tup l) σ
 | .list es,ρ,σ,k=>kEs es ρ σ fun l σ=>k (.list l) σ
 | .dict es,ρ,σ,k=>kEs es ρ σ fun l σ=>oK (pairUp l []) fun d=>k (.dict d) σ
 | .mut e,ρ,σ,k=>kE e ρ σ fun v σ=>oK (objOf v) fun o=>k (.loc σ.length) (σ++[o])
 | .attr e f,ρ,σ,k=>kE e ρ σ fun v σ=>oK (attrE v f σ) fun w=>k w σ
 | .item e i,ρ,σ,k=>kE e ρ σ fun a σ=>kE i ρ σ fun b σ=>oK (itemE σ a b) fun w=>k w σ
 | .sidx cs i,ρ,σ,k=>kE i ρ σ fun b σ=>oK (sidxE cs b) fun w=>k w σ
 | .sl e l h,ρ,σ,k=>kE e ρ σ fun a σ=>kE l ρ σ fun b σ=>kE h ρ σ fun c σ=>oK (sliceE a b c) fun w=>k w σ
 | .bin o a b,ρ,σ,k=>kE a ρ σ fun x σ=>kE b ρ σ fun y σ=>oK (binE σ o x y) fun w=>k w σ
 | .and es,ρ,σ,k=>kAnd es ρ σ k
 | .or es,ρ,σ,k=>kOr es ρ σ k
 | .cmp o a b,ρ,σ,k=>kE a ρ σ fun x σ=>kE b ρ σ fun y σ=>oK (cmpE σ o x y) fun t=>k (.bool t) σ
 | .ite c a b,ρ,σ,k=>kE c ρ σ fun t σ=>oK t.truthy fun t=>iK t (kE a ρ σ k) (kE b ρ σ k)
 | .call f as,ρ,σ,k=>kEs as ρ σ fun l σ=>T.call f l σ k
 | .meth o n as,ρ,σ,k=>kE o ρ σ fun v σ=>oK (findMeth P v n σ) fun kf=>kEs as ρ σ fun l σ=>T.call kf.2 (.loc kf.1 :: l) σ k
 | .new c as,ρ,σ,k=>kEs as ρ σ fun l σ=>oK (P.init c) fun f=>T.call f (.loc σ.length :: l) (σ++[.inst c []]) fun r σ'=>bK (V.beq r .none) (k (.loc σ.length) σ')
 | .bi b as,ρ,σ,k=>kEs as ρ σ fun l σ=>oK (biE σ b l) fun w=>k w σ
 | .get e as,ρ,σ,k=>kE e ρ σ fun d σ=>bK (asDict σ d).isSome (kEs as ρ σ fun l σ=>oK (asDict σ d) fun d=>oK (getL d l) fun w=>k w σ)
 | .comp c,ρ,σ,k=>kC c [] (clr c.slots ρ) σ fun l σ=>k (.list l) σ
 | .fstr es,ρ,σ,k=>kFs es 0 ρ σ fun z σ=>k (.str z) σ
 | .not e,ρ,σ,k=>kE e ρ σ fun v σ=>oK v.truthy fun b=>k (.bool (!b)) σ
 | .cntT e,ρ,σ,k=>kE e ρ σ fun v σ=>oK (asListL v) fun l=>oK (cntB l 0) fun n=>k (.int n) σ
noncomputable def kEs:List X→REnv→St→(List V→St→Prop)→Prop
 | [],_,σ,k=>k [] σ
 | e :: r,ρ,σ,k=>kE e ρ σ fun v σ=>kEs r ρ σ fun l σ=>k (v :: l) σ
noncomputable def kFs:List X→Nat→REnv→St→(Nat→St→Prop)→Prop
 | [],z,_,σ,k=>bK (shortS z) (k z σ)
 | e :: r,z,ρ,σ,k=>kE e ρ σ fun v σ=>oK (strOf v) fun y=>bK (shortS (catS z y)) (kFs r (catS z y) ρ σ k)
noncomputable def kAnd:List X→REnv→St→(V→St→Prop)→Prop
 | [],_,_,_=>False
 | e :: r,ρ,σ,k=>kE e ρ σ fun v σ=>iK r.isEmpty (k v σ) (oK v.truthy fun t=>iK t (kAnd r ρ σ k) (k (.bool false) σ))
noncomputable def kOr:List X→REnv→St→(V→St→Prop)→Prop
 | [],_,_,_=>False
 | e :: r,ρ,σ,k=>kE e ρ σ fun v σ=>iK r.isEmpty (k v σ) (oK v.truthy fun t=>iK t (k (.bool true) σ) (kOr r ρ σ k))
noncomputable def kIfs:List X→REnv→St→(Bool→St→Prop)→Prop
 | [],_,σ,k=>k true σ
 | e :: r,ρ,σ,k=>kE e ρ σ fun v σ=>oK v.truthy fun t=>iK t (kIfs r ρ σ k) (k false σ)
noncomputable def kSrc:Src→REnv→St→(List V × Option Nat→St→Prop)→Prop
 | .val e,ρ,σ,k=>kE e ρ σ fun v σ=>oK (asList σ v) fun l=>k (l,locOf v) σ
 | .range e,ρ,σ,k=>kE e ρ σ fun v σ=>oK (rangeE v) fun l=>k (l,none) σ
 | .enum e,ρ,σ,k=>kE e ρ σ fun v σ=>oK (asListL v) fun l=>k (((List.range l.length).zip l |>.map fun (q:Nat × V)=>V.tup [.int q.1,q.2]),none) σ
 | .zip a b,ρ,σ,k=>kE a ρ σ fun v σ=>kE b ρ σ fun w σ=>oK (asListT v) fun l=>oK (asSeqV w) fun l'=>bK (decide (l'.length = l.length)) (k (((l.zip l').map fun (x:V × V)=>V.tup [x.1,x.2]),none) σ)
 | .items e,ρ,σ,k=>kE e ρ σ fun v σ=>oK (asDictV v) fun l=>k ((l.map fun (q:V × V)=>V.tup [q.1,q.2]),none) σ
noncomputable def kC:C→List V→REnv→St→(List V→St→Prop)→Prop
 | .elt e,ds,ρ,σ,k=>kE e ρ σ fun v σ=>bK (decide (ds.length≤capL)) (k (ds++[v]) σ)
 | .gen t s ifs r,ds,ρ,σ,k=>kSrc s ρ σ fun lg σ=>kLoopC (stillB lg.2 lg.1) (bindTg ρ t) (fun ρ σ k=>kIfs ifs ρ σ k) (fun ds ρ σ k=>kC r ds ρ σ k) lg.1 ds σ k
end
end
noncomputable def kLoopS (st:St→Bool) (bnd:V→REnv→Option REnv) (body:REnv→St→(Out→Prop)→Prop):List V→REnv→St→(Out→Prop)→Prop
 | [],ρ,σ,k=>bK (st σ) (k (.next ρ σ))
 | v :: r,ρ,σ,k=>bK (st σ) (oK (bnd v ρ) fun ρ=>body ρ σ fun o=>match o with
  | .next ρ σ=>kLoopS st bnd body r ρ σ k
  | .ret v σ=>k (.ret v σ))
noncomputable def kWhile0 (c:REnv→St→(Bool→St→Prop)→Prop) (body:REnv→St→(Out→Prop)→Prop):Nat→REnv→St→(Out→Prop)→Prop
 | 0,_,_,_=>False
 | n + 1,ρ,σ,k=>c ρ σ fun t σ=>iK t (body ρ σ fun o=>match o with
  | .next ρ σ=>kWhile0 c body n ρ σ k
  | .ret v σ=>k (.ret v σ)) (k (.next ρ σ))
@[irreducible] noncomputable def kWhile (c:REnv→St→(Bool→St→Prop)→Prop) (body:REnv→St→(Out→Prop)→Prop) (n:Nat) (ρ:REnv) (σ:St) (k:Out→Prop):Prop:=kWhile0 c body n ρ σ k
noncomputable def rvs {α:Type} (w:Bool) (l:List α):List α:=match w with
 | true=>l.reverse
 | false=>l
section
variable (P:Prog) (T:TabK)
noncomputable def kAsg (e:X) (ρ:REnv) (σ:St) (k:Out→Prop):Tgt→Prop
 | .name i=>kE P T e ρ σ fun v σ=>k (.next (ρ.set i (some v)) σ)
 | .attr o f=>kE P T e ρ σ fun v σ=>kE P T o ρ σ fun w σ=>oK (setFld w f v σ) fun σ=>k (.next ρ σ)
 | .item o i=>kE P T e ρ σ fun v σ=>kE P T o ρ σ fun w σ=>kE P T i ρ σ fun j σ=>oK (setObj w j v σ) fun σ=>k (.next ρ σ)
noncomputable def kSto (v:V) (ρ:REnv) (σ:St) (k:REnv→St→Prop):Tgt→Prop
 | .name i=>k (ρ.set i (some v)) σ
 | .attr o f=>kE P T o ρ σ fun w σ=>oK (setFld w f v σ) fun σ=>k ρ σ
 | .item o i=>kE P T o ρ σ fun w σ=>kE P T i ρ σ fun j σ=>oK (setObj w j v σ) fun σ=>k ρ σ
noncomputable def kStM:List Tgt→List V→REnv→St→(REnv→St→Prop)→Prop
 | [],_,ρ,σ,k=>k ρ σ
 | t :: ts,l,ρ,σ,k=>oK l.head? fun v=>kSto P T v ρ σ (fun ρ σ=>kStM ts l.tail ρ σ k) t
mutual
noncomputable def kS:S→REnv→St→(Out→Prop)→Prop
 | .asg t e,ρ,σ,k=>kAsg P T e ρ σ k t
 | .asgT is e,ρ,σ,k=>kE P T e ρ σ fun v σ=>oK (bindTg ρ (.many is) v) fun ρ=>k (.next ρ σ)
 | .asgTs w is es,ρ,σ,k=>kEs P T es ρ σ fun l σ=>bK (decide (is.length = l.length)) (k (.next (setMany (rvs w is) (rvs w l) ρ) σ))
 | .mth m o e,ρ,σ,k=>kE P T o ρ σ fun w σ=>bK (isCon m w σ) (kE P T e ρ σ fun v σ=>oK (mthE m w v σ) fun σ=>k (.next ρ σ))
 | .expr e,ρ,σ,k=>kE P T e ρ σ fun _ σ=>k (.next ρ σ)
 | .ite c a b,ρ,σ,k=>kE P T c ρ σ fun t σ=>oK t.truthy fun t=>iK t (kSs a ρ σ k) (kSs b ρ σ k)
 | .for_ t s body,ρ,σ,k=>kSrc P T s ρ σ fun lg σ=>kLoopS (stillB lg.2 lg.1) (fun v ρ=>bindTg ρ t v) (fun ρ σ k=>kSs body ρ σ k) lg.1 ρ σ k
 | .while_ c body,ρ,σ,k=>kWhile (fun ρ σ k=>kE P T c ρ σ fun t σ=>oK t.truthy fun t=>k t σ) (fun ρ σ k=>kSs body ρ σ k) 5000 ρ σ k
 | .ret e,ρ,σ,k=>kE P T e ρ σ fun v σ=>k (.ret v σ)
 | .raise,_,_,_=>False
 | .asgM ts e,ρ,σ,k=>kE P T e ρ σ fun v σ=>oK (asListT v) fun l=>bK (decide (ts.length = l.length)) (kStM P T ts l ρ σ fun ρ σ=>k (.next ρ σ))
noncomputable def kSs:List S→REnv→St→(Out→Prop)→Prop
 | [],ρ,σ,k=>k (.next ρ σ)
 | s :: r,ρ,σ,k=>kS s ρ σ fun o=>match o with
  | .next ρ σ=>kSs r ρ σ k
  | .ret v σ=>k (.ret v σ)
end
end
noncomputable def outK (k:V→St→Prop):Out→Prop
 | .next _ σ=>k .none σ
 | .ret v σ=>k v σ
noncomputable def callK (P:Prog):Nat→Nat→List V→St→(V→St→Prop)→Prop
 | 0,_,_,_,_=>False
 | n + 1,f,args,σ,k=>oK (P.fn f) fun d=>bK (decide (args.length = d.params)) (kSs P ⟨callK P n⟩ d.body (enter d args) σ (outK k))
end Mine.Internal
namespace Mine.Internal
open PySem PySem.W PyProof.Rows
noncomputable abbrev PV:=PySem.Value
noncomputable abbrev PE:=PySem.Expr
noncomputable abbrev PEnv:=PySem.Env
noncomputable def encS (x:Str):Nat:=encL x.cps.toList
noncomputable def strOk (x:Str):Bool:=x.cps.toList.all fun c=>decide (c < 1114112)
theorem encL_snoc (l:List Nat) (c:Nat):encL (l++[c]) = encL l * 2097152 + (c + 1):=by
 delta encL; rw [List.foldl_append,List.foldl_cons,List.foldl_nil]
theorem dec_step {a c:Nat} (h:c < 2097151):(a * 2097152 + (c + 1)) / 2097152 = a∧(a * 2097152 + (c + 1)) % 2097152 - 1 = c:=by
 have h:c + 1 < 2097152:=Nat.succ_lt_succ h
 rw [Nat.add_comm (a * 2097152)]
 exact ⟨by rw [Nat.add_mul_div_right _ _ (by decide),Nat.div_eq_of_lt h,Nat.zero_add],by rw [Nat.add_mul_mod_self_right,Nat.mod_eq_of_lt h,Nat.add_sub_cancel]⟩
theorem enc_step {a b c d:Nat} (hc:c < 2097151) (hd:d < 2097151) (h:a * 2097152 + (c + 1) = b * 2097152 + (d + 1)):a = b∧c = d :=
 have x:=dec_step (a:=a) hc
 have y:=dec_step (a:=b) hd
 ⟨x.1.symm.trans ((congrArg (· / 2097152) h).trans y.1),x.2.symm.trans ((congrArg (· % 2097152 - 1) h).trans y.2)⟩
theorem enc_rev:∀ (a b:List Nat),(∀ c∈a,c < 2097151)→(∀ c∈b,c < 2097151)→encL a.reverse = encL b.reverse→a = b
 | [],[],_,_,_=>rfl
 | [],y :: t,_,_,h=>by rw [List.reverse_cons,encL_snoc] at h; exact absurd h (Nat.ne_of_lt (Nat.lt_of_lt_of_le (Nat.succ_pos y) (Nat.le_add_left _ _)))
 | x :: r,[],_,_,h=>by rw [List.reverse_cons,encL_snoc] at h; exact absurd h.symm (Nat.ne_of_lt (Nat.lt_of_lt_of_le (Nat.succ_pos x) (Nat.le_add_left _ _)))
 | x :: r,y :: t,ha,hb,h=>by
  rw [List.reverse_cons,List.reverse_cons,encL_snoc,encL_snoc] at h
  have e:=enc_step (ha x (List.mem_cons_self ..)) (hb y (List.mem_cons_self ..)) h
  rw [e.2,enc_rev r t (fun c hc=>ha c (List.mem_cons_of_mem _ hc)) (fun c hc=>hb c (List.mem_cons_of_mem _ hc)) e.1]
theorem encS_inj {x y:Str} (hx:strOk x = true) (hy:strOk y = true) (h:encS x = encS y):x = y:=by
 have up:∀ {z:Str},strOk z = true→∀ c∈z.cps.toList.reverse,c < 2097151:=fun hz c hc=>Nat.lt_trans (of_decide_eq_true (List.all_eq_true.mp hz c (List.mem_reverse.mp hc))) (by decide)
 have e:=enc_rev x.cps.toList.reverse y.cps.toList.reverse (up hx) (up hy) (by rw [List.reverse_reverse,List.reverse_reverse]; exact h)
 cases x; cases y
 exact congrArg Str.mk (Array.toList_inj.mp (List.reverse_inj.mp e))
noncomputable abbrev Mp:=List (Addr × Addr)
noncomputable def chg (μ:Mp) (a:Addr):Prop:=∃ p∈μ,p.2 = a
noncomputable def IsTp (h:Heap) (a:Addr) (vs:Array PV):Prop:=∃ k,h.get? a = some { cls:=.type "tuple",dict:=none,data:=.seq vs k,slots:=#[] }
noncomputable def IsLs (h:Heap) (a:Addr) (vs:Array PV):Prop:=∃ k,h.get? a = some { cls:=.type "list",dict:=none,data:=.seq vs k,slots:=#[] }
theorem IsTp.tup {h:Heap} {a:Addr} {vs:Array PV} (x:IsTp h a vs):h.IsTuple a vs:=x.elim fun k ho=>⟨_,ho,rfl,k,rfl⟩
theorem IsLs.list {h:Heap} {a:Addr} {vs:Array PV} (x:IsLs h a vs):h.IsList a vs:=x.elim fun k ho=>⟨_,ho,rfl,k,rfl⟩
structure Wd where
 prog:Program
 w:World
 K:Frag
 base:Heap
 fa:Nat→Addr
 ca:Nat→Addr
 nc:Nat
noncomputable abbrev SK (D:Wd):=strKind D.prog D.w
structure Nx where
 μ:Mp
 W:Addr→Prop
 σ:St
 s:Shared
noncomputable def Nx.has (y:Nx) (a:Addr):Prop:=(y.s.heap.get? a).isSome = true
noncomputable def IsDc (D:Wd) (h:Heap) (a:Addr) (kvs:List (Str × PV)):Prop:=1 < a∧h.DictOf (SK D) a kvs
section
variable (D:Wd) (y:Nx)
mutual
noncomputable def RV:V→PV→Prop
 | .none,v=>v = .none
 | .bool b,v=>v = .bool b
 | .int i,v=>∃ t,v = .int i t
 | .str s,v=>∃ x t,v = .str x t∧strOk x = true∧encS x = s
 | .tup l,v=>∃ a vs,v = .ref a∧y.W a∧IsTp y.s.heap a vs∧RVs l vs.toList
 | .list l,v=>∃ a vs,v = .ref a∧y.W a∧IsLs y.s.heap a vs∧RVs l vs.toList
 | .dict l,v=>∃ a kvs,v = .ref a∧y.W a∧IsDc D y.s.heap a kvs∧RVd l kvs
 | .loc n,v=>∃ p,v = .ref p.1∧y.μ[n]? = some p
noncomputable def RVs:List V→List PV→Prop
 | [],vs=>vs = []
 | d :: r,vs=>∃ v t,vs = v :: t∧RV d v∧RVs r t
noncomputable def RVd:List (V × V)→List (Str × PV)→Prop
 | [],vs=>vs = []
 | (k,d) :: r,vs=>∃ n v t,vs = (n,v) :: t∧(k = .str (encS n)∧strOk n = true)∧RV d v∧RVd r t
end
end
structure Le (y z:Nx):Prop where
 w:∀ a o,y.W a→y.s.heap.get? a = some o→z.s.heap.get? a = some o∧z.W a
 m:∀ (n:Nat) (p:Addr × Addr),y.μ[n]? = some p→z.μ[n]? = some p
theorem Le.refl (y:Nx):Le y y:=⟨fun _ _ w e=>⟨e,w⟩,fun _ _ e=>e⟩
theorem Le.trans {x y z:Nx} (a:Le x y) (b:Le y z):Le x z:=⟨fun _ _ w e=>b.w _ _ (a.w _ _ w e).2 (a.w _ _ w e).1,fun _ _ e=>b.m _ _ (a.m _ _ e)⟩
theorem IsTp.le {y z:Nx} (l:Le y z) {a:Addr} {vs:Array PV} (w:y.W a) (x:IsTp y.s.heap a vs):z.W a∧IsTp z.s.heap a vs:=x.elim fun k e=>⟨(l.w _ _ w e).2,k,(l.w _ _ w e).1⟩
theorem IsLs.le {y z:Nx} (l:Le y z) {a:Addr} {vs:Array PV} (w:y.W a) (x:IsLs y.s.heap a vs):z.W a∧IsLs z.s.heap a vs:=x.elim fun k e=>⟨(l.w _ _ w e).2,k,(l.w _ _ w e).1⟩
theorem IsDc.at {D:Wd} {h h':Heap} {a:Addr} {kvs:List (Str × PV)} (x:IsDc D h a kvs) (e:∀ o,h.get? a = some o→h'.get? a = some o):IsDc D h' a kvs:=⟨x.1,x.2.at e⟩
theorem IsDc.le {D:Wd} {y z:Nx} (l:Le y z) {a:Addr} {kvs:List (Str × PV)} (w:y.W a) (x:IsDc D y.s.heap a kvs):z.W a∧IsDc D z.s.heap a kvs :=
 ⟨Exists.elim x.2 fun o q=>Exists.elim q fun es q=>Exists.elim q fun k q=>(l.w _ _ w q.1).2,x.at fun o e=>(l.w _ _ w e).1⟩
section
variable {D:Wd} {y z:Nx}
mutual
theorem RV_le (l:Le y z):∀ (d:V) (v:PV),RV D y d v→RV D z d v
 | .none,v,r=>r
 | .bool _,v,r=>r
 | .int _,v,r=>r
 | .str _,v,r=>r
 | .tup k,v,⟨a,vs,e,w,t,rs⟩=>have q:=t.le l w; ⟨a,vs,e,q.1,q.2,RVs_le l k _ rs⟩
 | .list k,v,⟨a,vs,e,w,t,rs⟩=>have q:=t.le l w; ⟨a,vs,e,q.1,q.2,RVs_le l k _ rs⟩
 | .dict k,v,⟨a,vs,e,w,t,rs⟩=>have q:=t.le l w; ⟨a,vs,e,q.1,q.2,RVd_le l k _ rs⟩
 | .loc n,v,⟨p,e,q⟩=>⟨p,e,l.m n p q⟩
theorem RVs_le (l:Le y z):∀ (d:List V) (v:List PV),RVs D y d v→RVs D z d v
 | [],v,r=>r
 | d :: k,v,⟨u,t,e,r1,r2⟩=>⟨u,t,e,RV_le l d u r1,RVs_le l k t r2⟩
theorem RVd_le (l:Le y z):∀ (d:List (V × V)) (v:List (Str × PV)),RVd D y d v→RVd D z d v
 | [],v,r=>r
 | (k,d) :: r,v,⟨n,u,t,e,k1,r1,r2⟩=>⟨n,u,t,e,k1,RV_le l d u r1,RVd_le l r t r2⟩
end
theorem RVs_length:∀ {d:List V} {v:List PV},RVs D y d v→v.length = d.length
 | [],v,r=>congrArg List.length r
 | _ :: l,v,⟨u,t,e,_,r2⟩=>(congrArg List.length e).trans (congrArg (· + 1) (RVs_length r2))
theorem RVs_get:∀ {d:List V} {v:List PV},RVs D y d v→∀ {i:Nat} {x:V},d[i]? = some x→∃ u,v[i]? = some u∧RV D y x u:=by
 intro d
 induction d with
 | nil=>intro v r i x e; cases e
 | cons x0 l ih =>
  intro v r i x e
  obtain ⟨u,t,rfl,r1,r2⟩:=r
  cases i with
  | zero=>exact ⟨u,rfl,Option.some.inj e ▸ r1⟩
  | succ i=>exact ih r2 (i:=i) e
theorem RVs_append:∀ {d:List V} {v:List PV} {d':List V} {v':List PV},RVs D y d v→RVs D y d' v'→RVs D y (d++d') (v++v')
 | [],v,d',v',r,r'=>(show v = [] from r) ▸ r'
 | _ :: l,v,d',v',⟨u,t,e,r1,r2⟩,r'=>⟨u,t++v',congrArg (·++v') e,r1,RVs_append r2 r'⟩
theorem RVs_take:∀ {d:List V} {v:List PV} (n:Nat),RVs D y d v→RVs D y (d.take n) (v.take n)
 | _,_,0,_=>rfl
 | [],v,n + 1,r=>congrArg (List.take (n + 1)) r
 | _ :: l,v,n + 1,⟨u,t,e,r1,r2⟩=>⟨u,t.take n,congrArg (List.take (n + 1)) e,r1,RVs_take n r2⟩
theorem RVs_drop {d:List V}:∀ {v:List PV} (n:Nat),RVs D y d v→RVs D y (d.drop n) (v.drop n):=by
 induction d with
 | nil =>
  intro v n r
  cases n with
  | zero=>exact r
  | succ n=>exact congrArg (List.drop (n + 1)) r
 | cons x l ih =>
  intro v n r
  cases n with
  | zero=>exact r
  | succ n =>
   obtain ⟨u,t,rfl,r1,r2⟩:=r
   exact ih n r2
end
noncomputable def RC (D:Wd) (y:Nx) (a:Addr):V→Prop
 | .list l=>∃ vs,IsLs y.s.heap a vs∧RVs D y l vs.toList
 | .dict l=>∃ kvs,IsDc D y.s.heap a kvs∧RVd D y l kvs
 | _=>False
section
variable (D:Wd) (y:Nx)
noncomputable def FldOk (m:Str→Option PV) (fs:List (Nat × V)):Prop :=
 ∀ x:Str,strOk x = true→match getA fs (encS x) with
  | some d=>∃ v,m x = some v∧RV D y d v
  | none=>m x = none
noncomputable def OR (p:Addr × Addr):SObj→Prop
 | .inst c fs=>(c < D.nc∧y.s.heap.get? p.1 = some (instObj (D.ca c) p.2))∧p.1 ≠ p.2∧∃ m ns,y.s.heap.Ns1 p.2 m∧FldOk D y m fs∧Within m ns∧ns.length≤fs.length
 | .dict l=>p.1 = p.2∧RC D y p.1 (.dict l)
 | .list l=>p.1 = p.2∧RC D y p.1 (.list l)
 | .dead=>True
structure Sm:Prop where
 gi:∀ a o,D.base.get? a = some o→y.s.heap.get? a = some o
 big:∃ a,1 < a∧y.W a
 len:y.μ.length = y.σ.length
 nodup:(y.μ.map (·.2)).Nodup
 new:∀ p∈y.μ,D.base.get? p.2 = none
 apart:∀ p∈y.μ,∀ q∈y.μ,p.1 = q.2→p.1 = p.2
 wk:∀ a,y.W a→¬ chg y.μ a
 wd:∀ a,y.W a→y.has a
 cs:∀ a,(D.base.get? a).isSome = true→y.W a
 lt:∀ p∈y.μ,y.has p.1∧y.has p.2
 obj:∀ (n:Nat) (o:SObj) (p:Addr × Addr),y.σ[n]? = some o→y.μ[n]? = some p→OR D y p o
structure Aft (F:Addr→Prop) (z:Nx):Prop where
 sm:Sm D z
 le:Le y z
 kp:∀ a o,y.s.heap.get? a = some o→¬ chg y.μ a→¬ F a→z.s.heap.get? a = some o
 ex:∀ a,y.has a→z.has a
 mn:∀ p∈z.μ,p∈y.μ ∨ (¬ y.has p.1∧¬ y.has p.2)
 wn:∀ a,z.W a→y.W a ∨ ¬ y.has a
 gens:z.s.gens = y.s.gens
 os:z.s.os = y.s.os
end
structure Pv (y:Nx) (b:Addr):Prop where
 lt:y.has b
 nw:¬ y.W b
 nm:∀ p∈y.μ,p.1 ≠ b∧p.2 ≠ b
noncomputable def noA:Addr→Prop:=fun _=>False
section
variable {D:Wd} {x y z:Nx} {F:Addr→Prop}
theorem RC_le (l:Le y z) {a:Addr} {d:V} (h:∀ o,y.s.heap.get? a = some o→z.s.heap.get? a = some o) (r:RC D y a d):RC D z a d:=by
 cases d with
 | list k=>exact r.elim fun vs q=>⟨vs,q.1.elim fun n e=>⟨n,h _ e⟩,RVs_le l k _ q.2⟩
 | dict k=>exact r.elim fun vs q=>⟨vs,q.1.at h,RVd_le l k _ q.2⟩
 | _=>exact r
theorem RC_RV {a:Addr} {d:V} (w:y.W a) (r:RC D y a d):RV D y d (.ref a):=by
 cases d with
 | list k=>exact r.elim fun vs q=>⟨a,vs,rfl,w,q⟩
 | dict k=>exact r.elim fun vs q=>⟨a,vs,rfl,w,q⟩
 | _=>exact r.elim
theorem FldOk_le (l:Le y z) {m:Str→Option PV} {fs:List (Nat × V)} (f:FldOk D y m fs):FldOk D z m fs:=fun x hx=>by
 have:=f x hx
 cases e:getA fs (encS x) with
 | some d=>rw [e] at this; exact this.elim fun v q=>⟨v,q.1,RV_le l d v q.2⟩
 | none=>rw [e] at this; exact this
theorem OR_le (l:Le y z) {p:Addr × Addr} (h1:∀ o,y.s.heap.get? p.1 = some o→z.s.heap.get? p.1 = some o) (h2:∀ o,y.s.heap.get? p.2 = some o→z.s.heap.get? p.2 = some o) {o:SObj} (r:OR D y p o):OR D z p o:=by
 cases o with
 | inst c fs=>exact ⟨⟨r.1.1,h1 _ r.1.2⟩,r.2.1,r.2.2.elim fun m q=>q.elim fun ns q=>⟨m,ns,q.1.at h2,FldOk_le l q.2.1,q.2.2⟩⟩
 | dict k=>exact ⟨r.1,RC_le l h1 r.2⟩
 | list k=>exact ⟨r.1,RC_le l h1 r.2⟩
 | dead=>exact trivial
theorem has_of {a:Addr} {o:Obj} (e:y.s.heap.get? a = some o):y.has a:=Option.isSome_iff_exists.mpr ⟨o,e⟩
theorem has_lt {a:Addr} (h:y.has a):a < y.s.heap.objs.size:=(Option.isSome_iff_exists.mp h).elim fun o e=>Heap.lt_size e
theorem Sm.one (m:Sm D y):1 < y.s.heap.objs.size:=m.big.elim fun a h=>Nat.lt_trans h.1 (has_lt (m.wd a h.2))
theorem no_new:¬ y.has y.s.heap.objs.size:=fun h=>Nat.lt_irrefl _ (has_lt h)
theorem Aft.refl (s:Sm D y):Aft D y F y:=⟨s,.refl y,fun _ _ e _ _=>e,fun _ h=>h,fun _ h=>.inl h,fun _ h=>.inl h,rfl,rfl⟩
theorem Aft.chg (a:Aft D y F z) {b:Addr} (l:y.has b) (n:¬ chg y.μ b):¬ chg z.μ b:=fun ⟨p,hp,e⟩=>(a.mn p hp).elim (fun h=>n ⟨p,h,e⟩) fun h=>h.2 (by rw [e]; exact l)
theorem Aft.trans (a:Aft D x F y) (b:Aft D y F z):Aft D x F z :=
 ⟨b.sm,a.le.trans b.le,fun c o e n f=>b.kp c o (a.kp c o e n f) (a.chg (has_of e) n) f,fun c h=>b.ex c (a.ex c h),fun p h=>(b.mn p h).elim (a.mn p) fun h=>.inr ⟨fun g=>h.1 (a.ex _ g),fun g=>h.2 (a.ex _ g)⟩,
  fun c w=>(b.wn c w).elim (a.wn c) fun h=>.inr fun g=>h (a.ex _ g),b.gens.trans a.gens,b.os.trans a.os⟩
theorem Aft.up (a:Aft D x noA y):Aft D x F y:=⟨a.sm,a.le,fun c o e n _=>a.kp c o e n id,a.ex,a.mn,a.wn,a.gens,a.os⟩
theorem Aft.hide (a:Aft D y F z) (h:∀ b,F b→¬ y.has b):Aft D y noA z:=⟨a.sm,a.le,fun b o e n _=>a.kp b o e n fun f=>h b f (has_of e),a.ex,a.mn,a.wn,a.gens,a.os⟩
theorem Aft.old (a:Aft D y noA z) {b:Addr} {o:Obj} (n:¬ Mine.Internal.chg y.μ b) (e:y.s.heap.get? b = some o):z.s.heap.get? b = some o:=a.kp b o e n id
theorem Pv.go {b:Addr} (p:Pv y b) (a:Aft D y F z):Pv z b :=
 ⟨a.ex b p.lt,fun w=>(a.wn b w).elim p.nw fun h=>h p.lt,fun q h=>(a.mn q h).elim (p.nm q) fun h=>⟨fun e=>h.1 (by rw [e]; exact p.lt),fun e=>h.2 (by rw [e]; exact p.lt)⟩⟩
theorem Pv.nc {b:Addr} (p:Pv y b):¬ chg y.μ b:=fun ⟨q,h,e⟩=>(p.nm q h).2 e
noncomputable def Nx.at (y:Nx) (s:Shared):Nx:=⟨y.μ,y.W,y.σ,s⟩
theorem has_kept {s:Shared} (k:∀ b o,y.s.heap.get? b = some o→¬ F b→s.heap.get? b = some o) {a:Addr} (h:y.has a) (f:¬ F a):(y.at s).has a:=(Option.isSome_iff_exists.mp h).elim fun o e=>Option.isSome_iff_exists.mpr ⟨o,k a o e f⟩
theorem Sm.turn {s:Shared} (m:Sm D y) (hF:∀ b,F b→Pv y b) (k:∀ b o,y.s.heap.get? b = some o→¬ F b→s.heap.get? b = some o):Le y (y.at s)∧Sm D (y.at s) :=
 have l:Le y (y.at s):=⟨fun a o w e=>⟨k a o e fun f=>(hF a f).nw w,w⟩,fun _ _ e=>e⟩
 have f1:∀ p∈y.μ,¬ F p.1∧¬ F p.2:=fun p h=>⟨fun f=>((hF _ f).nm p h).1 rfl,fun f=>((hF _ f).nm p h).2 rfl⟩
 have f2:∀ a,y.W a→¬ F a:=fun a w f=>(hF a f).nw w
 ⟨l,fun a o e=>k a o (m.gi a o e) (f2 a (m.cs a (Option.isSome_iff_exists.mpr ⟨o,e⟩))),m.big,m.len,m.nodup,m.new,m.apart,m.wk,fun a w=>has_kept k (m.wd a w) (f2 a w),m.cs,
  fun p h=>⟨has_kept k (m.lt p h).1 (f1 p h).1,has_kept k (m.lt p h).2 (f1 p h).2⟩,fun n o p e1 e2=>have h:=f1 p (List.mem_of_getElem? e2)
   OR_le l (fun o e=>k _ o e h.1) (fun o e=>k _ o e h.2) (m.obj n o p e1 e2)⟩
theorem Aft.turn {s:Shared} (m:Sm D y) (hF:∀ b,F b→Pv y b) (k:∀ b o,y.s.heap.get? b = some o→¬ F b→s.heap.get? b = some o) (z:∀ a,F a→(y.at s).has a) (g:s.gens = y.s.gens) (os:s.os = y.s.os):Aft D y F (y.at s) :=
 ⟨(m.turn hF k).2,(m.turn hF k).1,fun a o e _ f=>k a o e f,fun a h=>(Classical.em (F a)).elim (z a) (has_kept k h),fun _ h=>.inl h,fun _ h=>.inl h,g,os⟩
theorem Aft.turn1 {b:Addr} {h':Heap} {t:Nat} (m:Sm D y) (p:Pv y b) (k:∀ c o,c ≠ b→y.s.heap.get? c = some o→h'.get? c = some o) (e:∃ o,h'.get? b = some o):Aft D y (fun c=>c = b) (y.at { y.s with heap:=h',toks:=t }) :=
 Aft.turn m (fun c e=>e ▸ p) (fun c o e n=>k c o n e) (fun a q=>by rw [q]; exact Option.isSome_iff_exists.mpr e) rfl rfl
theorem Aft.lose {P:Addr→Prop} {s:Shared} (a:Aft D x F y) (n:∀ b,P b→¬ x.has b) (p:∀ b,P b→Pv y b) (k:∀ c o,y.s.heap.get? c = some o→¬ P c→s.heap.get? c = some o) (g:s.gens = y.s.gens) (os:s.os = y.s.os):Aft D x F (y.at s) :=
 have w:=a.sm.turn (F:=P) p k
 ⟨w.2,a.le.trans w.1,fun c o e h h'=>k c o (a.kp c o e h h') fun q=>n c q (has_of e),fun c h=>has_kept k (a.ex c h) fun q=>n c q h,a.mn,a.wn,g.trans a.gens,os.trans a.os⟩
theorem Aft.then {P:Addr→Prop} (a:Aft D x F y) (b:Aft D y P z) (n:∀ c,P c→¬ x.has c):Aft D x F z :=
 ⟨b.sm,a.le.trans b.le,fun c o e h f=>b.kp c o (a.kp c o e h f) (a.chg (has_of e) h) fun q=>n c q (has_of e),fun c h=>b.ex c (a.ex c h),fun p h=>(b.mn p h).elim (a.mn p) fun h=>.inr ⟨fun g=>h.1 (a.ex _ g),fun g=>h.2 (a.ex _ g)⟩,
  fun c w=>(b.wn c w).elim (a.wn c) fun h=>.inr fun g=>h (a.ex _ g),b.gens.trans a.gens,b.os.trans a.os⟩
structure More (y:Nx) (s:Shared):Prop where
 k:∀ b o,y.s.heap.get? b = some o→s.heap.get? b = some o
 g:s.gens = y.s.gens
 o:s.os = y.s.os
theorem More.refl (y:Nx):More y y.s:=⟨fun _ _ e=>e,rfl,rfl⟩
theorem More.push {s:Shared} (m:More y s) (o:Obj):More y { s with heap:=s.heap.push o }:=⟨fun b o e=>Heap.get?_push_of_some _ (m.k b o e),m.g,m.o⟩
theorem More.toks {s:Shared} (m:More y s) (t:Nat):More y { s with toks:=t }:=⟨m.k,m.g,m.o⟩
theorem More.ex {s:Shared} (m:More y s) (a:Addr) (h:y.has a):(y.at s).has a:=(Option.isSome_iff_exists.mp h).elim fun o g=>Option.isSome_iff_exists.mpr ⟨o,m.k a o g⟩
theorem More.aft {s:Shared} (m:More y s) (h:Sm D y):Aft D y noA (y.at s):=Aft.turn h (fun _ f=>f.elim) (fun b o e _=>m.k b o e) (fun _ f=>f.elim) m.g m.o
theorem More.no {s:Shared} (m:More y s):¬ y.has s.heap.objs.size:=fun h=>no_new (m.ex _ h)
theorem More.pv {s:Shared} (m:More y s) (h:Sm D y) {b:Addr} {o:Obj} (h1:¬ y.has b) (h2:s.heap.get? b = some o):Pv (y.at s) b :=
 ⟨Option.isSome_iff_exists.mpr ⟨o,h2⟩,fun w=>h1 (h.wd b w),fun p hp=>⟨fun e=>h1 (e ▸ (h.lt p hp).1),fun e=>h1 (e ▸ (h.lt p hp).2)⟩⟩
noncomputable def Nx.wi (y:Nx) (b:Addr):Nx:=⟨y.μ,fun a=>y.W a ∨ a = b,y.σ,y.s⟩
theorem Le.wi {b:Addr}:Le y (y.wi b):=⟨fun _ _ w e=>⟨e,.inl w⟩,fun _ _ e=>e⟩
theorem Aft.wi {b:Addr} (a:Aft D x F y) (p:Pv y b) (h:¬ x.has b):Aft D x F (y.wi b) :=
 have m:=a.sm
 ⟨⟨m.gi,m.big.elim fun a h=>⟨a,h.1,.inl h.2⟩,m.len,m.nodup,m.new,m.apart,fun a w=>w.elim (m.wk a) fun e=>e ▸ p.nc,fun a w=>w.elim (m.wd a) fun e=>by rw [e]; exact p.lt,fun a h=>.inl (m.cs a h),m.lt,fun n o q e1 e2=>OR_le Le.wi (fun _ e=>e) (fun _ e=>e) (m.obj n o q e1 e2)⟩,
  a.le.trans Le.wi,a.kp,a.ex,a.mn,fun c w=>w.elim (a.wn c) fun e=>.inr (e ▸ h),a.gens,a.os⟩
noncomputable def Nx.lo (y:Nx) (p:Addr × Addr) (o:SObj):Nx:=⟨y.μ++[p],y.W,y.σ++[o],y.s⟩
theorem at_end {α:Type} {l:List α} {x:α}:(l++[x])[l.length]? = some x:=by rw [List.getElem?_append_right (Nat.le_refl _),Nat.sub_self]; rfl
theorem at_snoc {α:Type} {l:List α} {x z:α} {n:Nat} (e:(l++[x])[n]? = some z):l[n]? = some z ∨ (n = l.length∧z = x):=by
 rcases Nat.lt_trichotomy n l.length with h | h | h
 ·exact .inl ((List.getElem?_append_left h).symm.trans e)
 ·exact .inr ⟨h,Option.some.inj ((h ▸ e).symm.trans at_end)⟩
 ·have:=(List.getElem?_eq_some_iff.mp e).1
  rw [List.length_append] at this
  exact absurd h (Nat.not_lt.mpr (Nat.le_of_lt_succ this))
theorem Le.lo {p:Addr × Addr} {o:SObj}:Le y (y.lo p o):=⟨fun _ _ w e=>⟨e,w⟩,fun n q e=>(List.getElem?_append_left (List.getElem?_eq_some_iff.mp e).1).trans e⟩
theorem mem_snoc {α:Type} {l:List α} {x z:α} (h:z∈l++[x]):z∈l ∨ z = x:=(List.mem_append.mp h).imp id List.mem_singleton.mp
theorem Aft.lo {p:Addr × Addr} {o:SObj} (a:Aft D x F y) (p1:Pv y p.1) (p2:Pv y p.2) (h:¬ x.has p.1∧¬ x.has p.2) (hb:D.base.get? p.2 = none) (r:OR D (y.lo p o) p o):Aft D x F (y.lo p o):=by
 have m:=a.sm
 refine ⟨⟨m.gi,m.big,?_,?_,fun q h=>(mem_snoc h).elim (m.new q) fun e=>e ▸ hb,fun q h r h' e=>?_,fun c w ⟨q,h,e⟩=>(mem_snoc h).elim (fun h=>m.wk c w ⟨q,h,e⟩) fun g=>p2.nw (by rw [← g]; exact e ▸ w),m.wd,m.cs,fun q h=>(mem_snoc h).elim (m.lt q) fun e=>by rw [e]; exact ⟨p1.lt,p2.lt⟩,fun n o' q e1 e2=>?_⟩,
  a.le.trans Le.lo,a.kp,a.ex,fun q g=>(mem_snoc g).elim (a.mn q) fun e=>.inr (e ▸ h),a.wn,a.gens,a.os⟩
 ·show (y.μ++[p]).length = (y.σ++[o]).length
  rw [List.length_append,List.length_append,m.len]; rfl
 ·show ((y.μ++[p]).map (·.2)).Nodup
  rw [List.map_append]
  refine List.nodup_append.mpr ⟨m.nodup,List.nodup_cons.mpr ⟨List.not_mem_nil,.nil⟩,fun c h1 d h2 e=>?_⟩
  obtain ⟨q,hq,rfl⟩:=List.mem_map.mp h1
  exact (p2.nm q hq).2 (e.trans (List.mem_singleton.mp h2))
 ·rcases mem_snoc h with h | g <;> rcases mem_snoc h' with h' | g'
  ·exact m.apart q h r h' e
  ·exact absurd (g' ▸ e) (p2.nm q h).1
  ·exact absurd (g ▸ e).symm (p1.nm r h').2
  ·rw [g] at e ⊢; rw [g'] at e; exact e
 ·rcases at_snoc e1 with e1 | ⟨e,g⟩ <;> rcases at_snoc e2 with e2 | ⟨e',g'⟩
  ·exact OR_le Le.lo (fun _ e=>e) (fun _ e=>e) (m.obj n o' q e1 e2)
  ·exact absurd ((List.getElem?_eq_some_iff.mp e1).1:n < y.σ.length) (by rw [e',m.len]; exact Nat.lt_irrefl _)
  ·exact absurd ((List.getElem?_eq_some_iff.mp e2).1:n < y.μ.length) (by rw [e,m.len]; exact Nat.lt_irrefl _)
  ·rw [g,g']; exact r
end
end Mine.Internal
namespace Mine.Internal
open PySem PySem.W PyProof.Rows
structure Ck where
 names:List (Str × Nat)
 sc:Scope
 own:Str→Bool
noncomputable def allOwn:Str→Bool:=fun _=>true
noncomputable def ownC (sc:Scope) (x:Str):Bool:=sc.names.lookup x == some .cell
noncomputable def isLoc:Option NameKind→Bool
 | some .local=>true
 | some .cell=>true
 | some .free=>true
 | _=>false
noncomputable def At (h:Heap) (env:PEnv) (x:Str) (u:PV):Prop :=
 (env.kindOf x = some .local∧∃ m,h.Ns env.locals m∧m x = some u) ∨
 ((env.kindOf x = some .cell ∨ env.kindOf x = some .free)∧∃ c,env.cells.lookup x = some c∧h.IsCell c (some u))
structure Eo (c:Ck) (env:PEnv) (y:Nx):Prop where
 sc:env.scope = c.sc
 kind:env.scope.kind = .function
 gl:env.globals = mainGlobals
 bi:env.builtins = builtinsNs
 loc:y.has env.locals∧¬ chg y.μ env.locals
 cells:∀ q∈env.cells,y.has q.2∧¬ chg y.μ q.2
 fr:env.frame.isSome = true
 cx:∀ x,c.sc.names.lookup x = some .cell ∨ c.sc.names.lookup x = some .free→(env.cells.lookup x).isSome = true
structure Room (n u:Nat) (A:Around):Prop where
 depth:A.depth + 5 * n + min u 2 + 2 < recursionLimit
 units:A.units + 100 * n + u < cLine
 hand:A.handled = none
structure Bd where
 D:Wd
 P:Prog
 T:TabK
 n:Nat
structure Ev where
 env:PEnv
 A:Around
 ρ:REnv
noncomputable def Fe (D:Wd) (c:Ck) (e:Ev) (y:Nx):Prop :=
 ∀ x i d,c.names.lookup x = some i→isLoc (e.env.kindOf x) = true→e.ρ[i]? = some (some d)→∃ u,At y.s.heap e.env x u∧RV D y d u
section
variable (B:Bd)
structure Go (u:Nat) (c:Ck) (e:Ev) (y:Nx):Prop where
 rm:Room B.n u e.A
 eo:Eo c e.env y
 fe:Fe B.D c e y
 sm:Sm B.D y
noncomputable abbrev Val (y:Nx) (d:V) (v:PV):Prop:=RV B.D y d v
noncomputable abbrev Vals (y:Nx) (d:List V) (v:List PV):Prop:=RVs B.D y d v
noncomputable def Wp (e:Ev) (y:Nx) {α:Type} (t:Sem α) (Q:α→Shared→Prop) (E:PV→Shared→Prop):Prop:=wpAny (model B.D.prog B.D.w) e.A t Q E y.s
noncomputable def kX (e:Ev) (y:Nx) (x:X) (K:V→St→Prop):Prop:=kE B.P B.T x e.ρ y.σ K
noncomputable def kXs (e:Ev) (y:Nx) (x:List X) (K:List V→St→Prop):Prop:=kEs B.P B.T x e.ρ y.σ K
noncomputable def TE (u:Nat) (c:Ck) (x:X) (t:PEnv→Sem PV):Prop :=
 ∀ (e:Ev) (y:Nx) (Q E:PV→Shared→Prop) (K:V→St→Prop),Go B u c e y→kX B e y x K→(∀ d Y v,K d Y.σ→Aft B.D y noA Y→Val B Y d v→Q v Y.s)→Wp B e y (t e.env) Q E
noncomputable def TEs (u:Nat) (c:Ck) (xs:List X) (t:PEnv→Sem (List PV)):Prop :=
 ∀ (e:Ev) (y:Nx) (Q:List PV→Shared→Prop) (E:PV→Shared→Prop) (K:List V→St→Prop),Go B u c e y→kXs B e y xs K→(∀ d Y v,K d Y.σ→d.length = xs.length→Aft B.D y noA Y→Vals B Y d v→Q v Y.s)→Wp B e y (t e.env) Q E
noncomputable def TB (u:Nat) (c:Ck) (x:X) (t:PEnv→Sem Bool):Prop :=
 ∀ (e:Ev) (y:Nx) (Q:Bool→Shared→Prop) (E:PV→Shared→Prop) (K:Bool→St→Prop),Go B u c e y→kX B e y x (fun d σ=>oK d.truthy fun b=>K b σ)→(∀ b Y,K b Y.σ→Aft B.D y noA Y→Q b Y.s)→Wp B e y (t e.env) Q E
noncomputable def TF (u:Nat) (c:Ck) (x:X) (t:PEnv→Sem PV):Prop :=
 ∀ (e:Ev) (y:Nx) (Q E:PV→Shared→Prop) (K:V→St→Prop),Go B u c e y→kX B e y x K→(∀ d Y a,K d Y.σ→Aft B.D y noA Y→¬ y.has a→Pv Y a→RC B.D Y a d→Q (.ref a) Y.s)→Wp B e y (t e.env) Q E
end
section
variable {B:Bd} {u:Nat} {c:Ck} {e:Ev} {y Y Z:Nx}
theorem mem_of_lookup {α β:Type} [BEq α] [LawfulBEq α] {x:α} {y:β}:∀ {l:List (α × β)},l.lookup x = some y→(x,y)∈l
 | (a,b) :: r,e=>by
  rw [List.lookup_cons] at e
  by_cases q:(x == a) = true
  ·rw [q] at e; cases e; rw [eq_of_beq q]; exact List.mem_cons_self ..
  ·rw [Bool.eq_false_iff.mpr q] at e; exact List.mem_cons_of_mem _ (mem_of_lookup e)
theorem At.keep {h h':Heap} {env:PEnv} {x:Str} {u:PV} (a:At h env x u) (k1:∀ o,h.get? env.locals = some o→h'.get? env.locals = some o) (k2:∀ b o,env.cells.lookup x = some b→h.get? b = some o→h'.get? b = some o):At h' env x u :=
 a.imp (fun q=>⟨q.1,q.2.elim fun m q=>⟨m,q.1.at k1,q.2⟩⟩) fun q=>⟨q.1,q.2.elim fun b q=>⟨b,q.1,q.2.elim fun o r=>⟨o,k2 b o q.1 r.1,r.2⟩⟩⟩
theorem Eo.go (h:Eo c e.env y) {F:Addr→Prop} (a:Aft B.D y F Y):Eo c e.env Y :=
 ⟨h.sc,h.kind,h.gl,h.bi,⟨a.ex _ h.loc.1,a.chg h.loc.1 h.loc.2⟩,fun q hq=>⟨a.ex _ (h.cells q hq).1,a.chg (h.cells q hq).1 (h.cells q hq).2⟩,h.fr,h.cx⟩
theorem Go.to (H:Go B u c e y) (a:Aft B.D y noA Y):Go B u c e Y:=⟨H.rm,H.eo.go a,fun x i d h1 h2 h3 =>
 (H.fe x i d h1 h2 h3).elim fun w q=>⟨w,q.1.keep (fun o g=>a.old H.eo.loc.2 g) fun b o g1 g2=>a.old (H.eo.cells (x,b) (mem_of_lookup g1)).2 g2,RV_le a.le d w q.2⟩,a.sm⟩
theorem Val.on {d:V} {v:PV} {F:Addr→Prop} (a:Aft B.D y F Y) (r:Val B y d v):Val B Y d v:=RV_le a.le d v r
theorem Vals.on {d:List V} {v:List PV} {F:Addr→Prop} (a:Aft B.D y F Y) (r:Vals B y d v):Vals B Y d v:=RVs_le a.le d v r
theorem Go.refl (H:Go B u c e y):Aft B.D y noA y:=Aft.refl H.sm
noncomputable def Nx.tk (y:Nx) (t:Nat):Nx:=y.at { y.s with toks:=t }
theorem toks_ok (m:Sm B.D y) (t:Nat):Aft B.D y noA (y.tk t):=(More.toks (More.refl y) t).aft m
theorem Go.toks (H:Go B u c e y) (t:Nat):Aft B.D y noA (y.tk t):=toks_ok H.sm t
noncomputable def Nx.psh (y:Nx) (o:Obj):Nx:=y.at { y.s with heap:=y.s.heap.push o }
theorem push_at {h:Heap} {o:Obj} (f:o.isFreed = false):(h.push o).get? h.objs.size = some o:=Heap.get?_push_size _ f
theorem push_ok (m:Sm B.D y) {o:Obj} (f:o.isFreed = false):Aft B.D y noA (y.psh o)∧Pv (y.psh o) y.s.heap.objs.size :=
 have w:=More.push (More.refl y) o
 ⟨w.aft m,w.pv m no_new (push_at f)⟩
noncomputable def Nx.tre (y:Nx) (o:Obj):Nx:=(y.psh o).wi y.s.heap.objs.size
theorem tre_ok (m:Sm B.D y) {o:Obj} (f:o.isFreed = false):Aft B.D y noA (y.tre o):=(push_ok m f).1.wi (push_ok m f).2 no_new
theorem len_ok {l:List PV} {k:Nat} (h:l.length≤k) (hk:k≤1000000):l.length≤sizeLine:=Nat.le_trans h (Nat.le_trans hk (by rw [sizeLine_eq]; decide))
theorem TF.te {x:X} {t:PEnv→Sem PV} (h:TF B u c x t):TE B u c x t:=fun e y Q E K H q z=>h e y Q E K H q fun d Y a k f l p r =>
 z d (Y.wi a) _ k (f.wi p l) (RC_RV (.inr rfl) (RC_le Le.wi (fun _ e=>e) r))
theorem oK_of {α:Type} {o:Option α} {k:α→Prop} (h:oK o k) {Z:Prop} (z:∀ a,o = some a→k a→Z):Z:=by
 cases o with
 | none=>exact False.elim h
 | some a=>exact z a rfl h
theorem obj_of {d:V} {K:SObj→Prop} (h:oK (objOf d) K) {a:Addr} {y:Nx} {D:Wd} (r:RC D y a d):∃ o,K o∧OR D y (a,a) o:=by
 cases d <;> first | exact ⟨_,h,rfl,r⟩ | exact False.elim h
theorem base_none {D:Wd} (m:Sm D y) {b:Addr} (h:¬ y.has b):D.base.get? b = none:=by
 cases e:D.base.get? b with
 | none=>rfl
 | some o=>exact absurd (has_of (m.gi b o e)) h
theorem te_mut {x:X} {t:PEnv→Sem PV} (h:TF B u c x t):TE B u c (.mut x) t:=fun e y Q E K H q z=>h e y Q E _ H q fun d Y a k f l p r =>
 let ⟨o,k2,w⟩:=obj_of k r
 z (.loc Y.σ.length) (Y.lo (a,a) o) _ k2 (f.lo p p ⟨l,l⟩ (base_none H.sm l) (OR_le Le.lo (fun _ e=>e) (fun _ e=>e) w)) ⟨(a,a),rfl,by rw [← f.sm.len]; exact at_end⟩
theorem te_none {k:Nat} {p:Pos}:TE B u c (.cst .none) (fun env=>eval (.Constant .none k p) env) :=
 fun e y Q E K H q z=>wpAny_Constant_none (z .none y _ q H.refl rfl)
theorem te_bool {b:Bool} {k:Nat} {p:Pos}:TE B u c (.cst (.bool b)) (fun env=>eval (.Constant (.bool b) k p) env) :=
 fun e y Q E K H q z=>wpAny_Constant_bool (z (.bool b) y _ q H.refl rfl)
theorem te_int {i:Int} {k:Nat} {p:Pos}:TE B u c (.cst (.int i)) (fun env=>eval (.Constant (.int i) k p) env) :=
 fun e y Q E K H q z=>wpAny_Constant_int (z (.int i) (y.tk _) _ q (H.toks _) ⟨_,rfl⟩)
theorem te_neg {j:Int} {k:Nat} {p p':Pos}:TE B u c (.cst (.int (-j))) (fun env=>eval (.UnaryOp .USub (.Constant (.int j) k p) p') env) :=
 fun e y Q E K H q z=>UnaryOp_ (wpAny_Constant_int (neg_int (z (.int (-j)) (y.tk _) _ q (H.toks _) ⟨_,rfl⟩)))
theorem te_str {x:Str} {s:Nat} {k:Nat} {p:Pos} (h1:strOk x = true) (h2:encS x = s):TE B u c (.cst (.str s)) (fun env=>eval (.Constant (.str x) k p) env) :=
 fun e y Q E K H q z=>wpAny_Constant_str (z (.str s) (y.tk _) _ q (H.toks _) ⟨x,_,rfl,h1,h2⟩)
theorem var_of {ρ:REnv} {i:Nat} {v:V} (h:(ρ[i]?).bind id = some v):ρ[i]? = some (some v):=by
 cases e:ρ[i]? with
 | none=>rw [e] at h; cases h
 | some o=>rw [e] at h; exact congrArg some h
theorem Eo.kd (h:Eo c e.env y) (x:Str):e.env.kindOf x = c.sc.names.lookup x:=congrArg (fun s:Scope=>s.names.lookup x) h.sc
theorem te_var {i:Nat} {x:Str} {p:Pos} (h1:c.names.lookup x = some i) (h2:isLoc (c.sc.names.lookup x) = true) (h3:(x == ("__debug__":Str)) = false) (h4:(x == ("__classdict__":Str)) = false) :
  TE B u c (.var i) (fun env=>eval (.Name x p) env):=fun e y Q E K H q z=>oK_of q fun v hv hk =>
 (H.fe x i v h1 ((H.eo.kd x).symm ▸ h2) (var_of hv)).elim fun w r =>
  have fin:=z v y w hk H.refl r.2
  wpAny_Name (r.1.elim (fun r=>r.2.elim fun m n=>wpAny_loadName_local H.eo.kind r.1 n.1 n.2 fin) fun r=>r.2.elim fun b n =>
   r.1.elim (fun k=>wpAny_loadName_cell H.eo.kind k n.1 n.2 fin) fun k=>wpAny_loadName_free H.eo.kind k n.1 n.2 fin h4) h3
theorem tes_nil {p:Pos}:TEs B u c [] (fun env=>spliced (backTo p (starEach [] env))) :=
 fun e y Q E K H q z=>wpAny_pure (z [] y [] q rfl H.refl rfl)
theorem starEach_cons {e:PE} {r:List PE} {env:PEnv} (h:isStarred e = false):starEach (e :: r) env = (false,eval e env) :: starEach r env:=by
 cases e <;> first | rfl | cases h
theorem tes_cons {x:X} {xs:List X} {t:PE} {ts:List PE} {p:Pos} (hs:isStarred t = false) (h1:TE B u c x (fun env=>eval t env)) (h2:TEs B u c xs (fun env=>spliced (backTo p (starEach ts env)))) :
  TEs B u c (x :: xs) (fun env=>spliced (backTo p (starEach (t :: ts) env))):=fun e y Q E K H q z=>by
 show wpAny _ e.A (spliced (backTo p (starEach (t :: ts) e.env))) Q E y.s
 rw [starEach_cons hs]
 exact Calls.spliced_cons (h1 e y _ E _ H q fun d1 Y v1 k1 a1 r1=>h2 e Y _ E _ (H.to a1) k1 fun d2 Z v2 k2 l2 a2 r2 =>
  z (d1 :: d2) Z _ k2 (congrArg (· + 1) l2) (a1.trans a2) ⟨v1,v2,rfl,Val.on a2 r1,r2⟩)
theorem seq_len {d:List V} {v:List PV} {n:Nat} (r:Vals B y d v) (l:d.length = n) (h:n≤1000):v.length≤sizeLine:=len_ok (k:=1000) (by rw [RVs_length r,l]; exact h) (by decide)
theorem te_tup {xs:List X} {ts:List PE} {k:Nat} {p:Pos} (hl:xs.length≤1000) (h1:TEs B u c xs (fun env=>spliced (backTo p (starEach ts env)))) :
  TE B u c (.tup xs) (fun env=>eval (.Tuple ts k p) env):=fun e y Q E K H q z =>
 Tuple_ (h1 e y _ E _ H q fun d Y v k1 l1 a r=>wpAny_newTuple (z (.tup d) (Y.tre _) _ k1 (a.trans (tre_ok a.sm rfl)) ⟨_,_,rfl,.inr rfl,⟨_,push_at rfl⟩,Vals.on (tre_ok a.sm rfl) r⟩) (seq_len r l1 hl))
theorem tf_list {xs:List X} {ts:List PE} {p:Pos} (hl:xs.length≤1000) (h1:TEs B u c xs (fun env=>spliced (backTo p (starEach ts env)))) :
  TF B u c (.list xs) (fun env=>eval (.List ts p) env):=fun e y Q E K H q z =>
 List_ (h1 e y _ E _ H q fun d Y v k1 l1 a r=>wpAny_newList (z (.list d) (Y.psh _) _ k1 (a.trans (push_ok a.sm rfl).1) (fun h=>no_new (a.ex _ h)) (push_ok a.sm rfl).2 ⟨_,⟨_,push_at rfl⟩,Vals.on (push_ok a.sm rfl).1 r⟩) (seq_len r l1 hl))
theorem TB.ite {x x1 x2:X} {t f g:PE} {p:Pos} (h1:TB B u c x (fun env=>isTrue t env (eval t env))) (h2:TB B u c x1 (fun env=>isTrue f env (eval f env))) (h3:TB B u c x2 (fun env=>isTrue g env (eval g env))) :
  TB B u c (.ite x x1 x2) (fun env=>isTrue (.IfExp t f g p) env (eval (.IfExp t f g p) env)):=fun e y Q E K H q z =>
 isTrue_IfExp (h1 e y _ E _ H q fun b Y k1 a=>match b,k1 with
  | true,k1=>h2 e Y Q E K (H.to a) k1 fun b2 Z k2 a2=>z b2 Z k2 (a.trans a2)
  | false,k1=>h3 e Y Q E K (H.to a) k1 fun b2 Z k2 a2=>z b2 Z k2 (a.trans a2))
theorem te_ite {x x1 x2:X} {t f g:PE} {p:Pos} (h1:TB B u c x (fun env=>isTrue t env (eval t env))) (h2:TE B u c x1 (fun env=>eval f env)) (h3:TE B u c x2 (fun env=>eval g env)) :
  TE B u c (.ite x x1 x2) (fun env=>eval (.IfExp t f g p) env):=fun e y Q E K H q z =>
 wpAny_bind (h1 e y _ E _ H q fun b Y k1 a=>match b,k1 with
  | true,k1=>h2 e Y Q E K (H.to a) k1 fun d2 Z v2 k2 a2 r2=>z d2 Z v2 k2 (a.trans a2) r2
  | false,k1=>h3 e Y Q E K (H.to a) k1 fun d2 Z v2 k2 a2 r2=>z d2 Z v2 k2 (a.trans a2) r2)
noncomputable def plainTest (e:PE):Bool:=![0,3,5,15].contains e.ctorIdx
theorem isTrue_eq {e:PE} {env:PEnv} {whole:Sem PV} (h:plainTest e = true):isTrue e env whole = (do let v ← whole; standAt e.pos; holding [v] (truthy v)):=by
 cases e <;> first | rfl | exact absurd h Bool.false_ne_true
theorem truthy_of {d:V} {K:Bool→Prop} (h:oK d.truthy K):∃ b,d = .bool b∧K b:=by
 cases d <;> first | exact ⟨_,rfl,h⟩ | exact False.elim h
theorem tb_te {x:X} {t:PE} (he:plainTest t = true) (h:TE B u c x (fun env=>eval t env)):TB B u c x (fun env=>isTrue t env (eval t env)):=fun e y Q E K H q z =>
 isTrue_plain (h e y _ E _ H q fun d Y v k1 a r=>by
  obtain ⟨b,rfl,k2⟩:=truthy_of k1
  cases (r:v = .bool b)
  exact wpAny_truthy_bool (z b Y k2 a)) (isTrue_eq he)
inductive All2 {α β:Type} (R:α→β→Prop):List α→List β→Prop
 | nil:All2 R [] []
 | cons {a b l k}:R a b→All2 R l k→All2 R (a :: l) (b :: k)
noncomputable def Bks (o:Bool) (B:Bd) (e:Ev) (y:Nx) (xs:List X) (K:V→St→Prop):Prop:=match o with
 | true=>kOr B.P B.T xs e.ρ y.σ K
 | false=>kAnd B.P B.T xs e.ρ y.σ K
theorem tb_all (o:Bool) {xs:List X} {ts:List PE} (h:All2 (fun x t=>TB B u c x (fun env=>isTrue t env (eval t env))) xs ts):∀ (e:Ev) (y:Nx) (Q:Bool→Shared→Prop) (E:PV→Shared→Prop) (K:Bool→St→Prop),Go B u c e y →
  Bks o B e y xs (fun d σ=>oK d.truthy fun b=>K b σ)→(∀ b Y,K b Y.σ→Aft B.D y noA Y→Q b Y.s)→Wp B e y (allTrue (bif o then .Or else .And) ts e.env) Q E:=by
 induction h with
 | nil=>cases o <;> exact fun e y Q E K H q z=>False.elim q
 | cons h1 h2 ih=>cases o with
  | false=>cases h2 with
   | nil=>exact fun e y Q E K H q z=>wpAny_allTrue_And_cons (h1 e y _ E _ H q fun b Y k1 a=>match b,k1 with
    | true,k1=>wpAny_allTrue_And_nil (z _ Y k1 a)
    | false,k1=>z _ Y k1 a)
   | cons _ _=>exact fun e y Q E K H q z=>wpAny_allTrue_And_cons (h1 e y _ E _ H q fun b Y k1 a=>match b,k1 with
    | true,k1=>ih e Y Q E K (H.to a) k1 fun b2 Y2 k2 a2=>z b2 Y2 k2 (a.trans a2)
    | false,k1=>z _ Y k1 a)
  | true=>cases h2 with
   | nil=>exact fun e y Q E K H q z=>wpAny_allTrue_Or_cons (h1 e y _ E _ H q fun b Y k1 a=>match b,k1 with
    | false,k1=>wpAny_allTrue_Or_nil (z _ Y k1 a)
    | true,k1=>z _ Y k1 a)
   | cons _ _=>exact fun e y Q E K H q z=>wpAny_allTrue_Or_cons (h1 e y _ E _ H q fun b Y k1 a=>match b,k1 with
    | false,k1=>ih e Y Q E K (H.to a) k1 fun b2 Y2 k2 a2=>z b2 Y2 k2 (a.trans a2)
    | true,k1=>z _ Y k1 a)
theorem tb_and {xs:List X} {ts:List PE} {p:Pos} (h:All2 (fun x t=>TB B u c x (fun env=>isTrue t env (eval t env))) xs ts):TB B u c (.and xs) (fun env=>isTrue (.BoolOp .And ts p) env (eval (.BoolOp .And ts p) env)) :=
 fun e y Q E K H q z=>wpAny_isTrue_BoolOp (tb_all false h e y Q E K H q z)
theorem tb_or {xs:List X} {ts:List PE} {p:Pos} (h:All2 (fun x t=>TB B u c x (fun env=>isTrue t env (eval t env))) xs ts):TB B u c (.or xs) (fun env=>isTrue (.BoolOp .Or ts p) env (eval (.BoolOp .Or ts p) env)) :=
 fun e y Q E K H q z=>wpAny_isTrue_BoolOp (tb_all true h e y Q E K H q z)
theorem te_and {xs:List X} {ts:List PE} {p:Pos} (h:All2 (fun x t=>TE B u c x (fun env=>eval t env)) xs ts):TE B u c (.and xs) (fun env=>eval (.BoolOp .And ts p) env):=by
 induction h with
 | nil=>exact fun e y Q E K H q z=>False.elim q
 | cons h1 h2 ih=>cases h2 with
  | nil=>exact fun e y Q E K H q z=>BoolOp_one (h1 e y Q E K H q z)
  | cons _ _=>exact fun e y Q E K H q z=>BoolOp_and (h1 e y _ E _ H q fun d Y v k1 a r=>by
    obtain ⟨b,rfl,k2⟩:=truthy_of k1
    cases (r:v = .bool b)
    refine wpAny_truthy_bool ?_
    cases b with
    | true=>exact ih e Y Q E K (H.to a) k2 fun d2 Y2 v2 k2 a2 r2=>z d2 Y2 v2 k2 (a.trans a2) r2
    | false=>exact z (.bool _) Y _ k2 a rfl)
theorem te_or {xs:List X} {ts:List PE} {p:Pos} (h:All2 (fun x t=>TE B u c x (fun env=>eval t env)) xs ts):TE B u c (.or xs) (fun env=>eval (.BoolOp .Or ts p) env):=by
 induction h with
 | nil=>exact fun e y Q E K H q z=>False.elim q
 | cons h1 h2 ih=>cases h2 with
  | nil=>exact fun e y Q E K H q z=>BoolOp_one (h1 e y Q E K H q z)
  | cons _ _=>exact fun e y Q E K H q z=>BoolOp_or (h1 e y _ E _ H q fun d Y v k1 a r=>by
    obtain ⟨b,rfl,k2⟩:=truthy_of k1
    cases (r:v = .bool b)
    refine wpAny_truthy_bool ?_
    cases b with
    | false=>exact ih e Y Q E K (H.to a) k2 fun d2 Y2 v2 k2 a2 r2=>z d2 Y2 v2 k2 (a.trans a2) r2
    | true=>exact z (.bool _) Y _ k2 a rfl)
theorem te_void {k:Nat} {t:PEnv→Sem PV} (h:B.P.glob k = none):TE B u c (.glob k) t:=fun e y Q E K H q z=>by
 have q:oK (B.P.glob k) fun v=>K v y.σ:=q
 rw [h] at q; exact False.elim q
end
end Mine.Internal
namespace Mine.Internal
open PySem PySem.W PyProof.Rows
inductive PP:V→PyData→Prop
 | none:PP .none .none
 | bool (b):PP (.bool b) (.bool b)
 | int (i):PP (.int i) (.int i)
 | str (x):strOk x = true→PP (.str (encS x)) (.str x)
 | tup {l ps}:All2 PP l ps→PP (.tup l) (.tuple ps)
 | list {l ps}:All2 PP l ps→PP (.list l) (.list ps)
theorem strOk_of {x:Str} (h:strOk x = true):PyData.strOk x = true:=by
 delta PyData.strOk
 rw [← Array.all_toList]
 exact h
structure Rd (h:Heap) (n:Nat) (d:V) (v:PV) (p:PyData):Prop where
 rd:∃ as,Reads h v p as
 pp:PP d p
 ly:p.canLay0 = true
 dp:p.depth≤n
structure Rds (h:Heap) (n:Nat) (d:List V) (v:List PV) (p:List PyData):Prop where
 rd:∃ as,ReadsAll h v p as
 pp:All2 PP d p
 ly:PyData.canLayAll0 p = true
 dp:PyData.depthAll p≤n
section
variable {D:Wd} {N:Nx} {h:Heap}
theorem Rd.cons {n:Nat} {d:V} {v:PV} {p:PyData} {l:List V} {t:List PV} {ps:List PyData} (a:Rd h n d v p) (b:Rds h n l t ps):Rds h n (d :: l) (v :: t) (p :: ps) :=
 ⟨a.rd.elim fun as ra=>b.rd.elim fun bs rb=>⟨as++bs,.cons ra rb⟩,.cons a.pp b.pp,Bool.and_eq_true_iff.mpr ⟨a.ly,b.ly⟩,Nat.max_le.mpr ⟨a.dp,b.dp⟩⟩
noncomputable def cok (n:Nat) (d:V):Prop:=eqOk n d = true ∨ isBool d = true
noncomputable def RA (D:Wd) (N:Nx):V→PV→Prop
 | .list l,v=>∃ a,v = .ref a∧RC D N a (.list l)
 | d,v=>RV D N d v
theorem RV.ra {d:V} {v:PV} (r:RV D N d v):RA D N d v:=by
 cases d with
 | list l=>exact r.elim fun a q=>q.elim fun vs q=>⟨a,q.1,vs,q.2.2⟩
 | _=>exact r
theorem RVs_reads {n:Nat} (ih:∀ d v,cok n d→RA D N d v→∃ p,Rd N.s.heap n d v p):∀ {l:List V} {vs:List PV},(∀ d∈l,cok n d)→RVs D N l vs→∃ ps,Rds N.s.heap n l vs ps
 | [],_,_,r=>(show _ = [] from r) ▸ ⟨[],⟨[],.nil⟩,.nil,rfl,Nat.zero_le _⟩
 | d :: l,_,hk,⟨v,t,e,r1,r2⟩=>(ih d v (hk d (List.mem_cons_self ..)) r1.ra).elim fun p a=>(RVs_reads ih (fun e he=>hk e (List.mem_cons_of_mem _ he)) r2).elim fun ps b=>e ▸ ⟨_,a.cons b⟩
theorem cok_items {n:Nat} {l:List V} (h:l.all (eqOk n) = true):∀ d∈l,cok n d:=fun d m=>.inl (List.all_eq_true.mp h d m)
theorem RV_reads (n:Nat):∀ (d:V) (v:PV),cok n d→RA D N d v→∃ p,Rd N.s.heap n d v p:=by
 induction n with
 | zero =>
  intro d v hk r
  cases d with
  | none=>exact (show v = .none from r) ▸ ⟨.none,⟨[],.none⟩,.none,rfl,Nat.zero_le _⟩
  | bool b=>exact (show v = .bool b from r) ▸ ⟨.bool b,⟨[],.bool b⟩,.bool b,rfl,Nat.zero_le _⟩
  | int i=>obtain ⟨t,rfl⟩:=r; exact ⟨.int i,⟨[],.int i t⟩,.int i,rfl,Nat.zero_le _⟩
  | str s=>obtain ⟨x,t,rfl,h1,rfl⟩:=r; exact ⟨.str x,⟨[],.str x t⟩,.str x h1,strOk_of h1,Nat.zero_le _⟩
  | _=>exact hk.elim (fun e=>nomatch e) fun e=>nomatch e
 | succ n ih =>
  intro d v hk r
  cases d with
  | none=>exact (show v = .none from r) ▸ ⟨.none,⟨[],.none⟩,.none,rfl,Nat.zero_le _⟩
  | bool b=>exact (show v = .bool b from r) ▸ ⟨.bool b,⟨[],.bool b⟩,.bool b,rfl,Nat.zero_le _⟩
  | int i=>obtain ⟨t,rfl⟩:=r; exact ⟨.int i,⟨[],.int i t⟩,.int i,rfl,Nat.zero_le _⟩
  | str s=>obtain ⟨x,t,rfl,h1,rfl⟩:=r; exact ⟨.str x,⟨[],.str x t⟩,.str x h1,strOk_of h1,Nat.zero_le _⟩
  | tup l =>
   obtain ⟨a,vs,rfl,_,⟨k,ho⟩,rs⟩:=r
   exact (RVs_reads ih (cok_items (hk.elim id fun e=>nomatch e)) rs).elim fun ps b=>b.rd.elim fun as b1=>⟨.tuple ps,⟨as,.tuple ho rfl rfl b1⟩,.tup b.pp,b.ly,Nat.succ_le_succ b.dp⟩
  | list l =>
   obtain ⟨a,rfl,vs,⟨k,ho⟩,rs⟩:=r
   exact (RVs_reads ih (cok_items (hk.elim id fun e=>nomatch e)) rs).elim fun ps b=>b.rd.elim fun as b1=>⟨.list ps,⟨a :: as,.list ho rfl rfl b1⟩,.list b.pp,b.ly,Nat.succ_le_succ b.dp⟩
  | _=>exact hk.elim (fun e=>nomatch e) fun e=>nomatch e
end
theorem eqOk_bool {n:Nat} {b:Bool} (h:eqOk n (.bool b) = true):False:=by cases n <;> exact nomatch h
theorem eqOk_items {n:Nat} {l:List V} (h:eqOk n (.tup l) = true):∃ k,n = k + 1∧l.all (eqOk k) = true:=match n,h with
 | k + 1,h=>⟨k,rfl,h⟩
theorem eqOk_items' {n:Nat} {l:List V} (h:eqOk n (.list l) = true):∃ k,n = k + 1∧l.all (eqOk k) = true:=match n,h with
 | k + 1,h=>⟨k,rfl,h⟩
theorem str_beq {x y:Str} (hx:strOk x = true) (hy:strOk y = true):(x == y) = decide (encS x = encS y) :=
 Bool.eq_iff_iff.mpr (beq_iff_eq.trans (Iff.trans ⟨fun e=>e ▸ rfl,fun e=>encS_inj hx hy e⟩ decide_eq_true_iff.symm))
noncomputable def EqvAt (n k:Nat):Prop:=∀ (d e:V) (p q:PyData),eqOk n d = true→eqOk k e = true→PP d p→PP e q→PyData.eqv p q = V.beq d e
theorem eqv_all {n k:Nat} (ih:EqvAt n k) {l:List V} {ps:List PyData} (a:All2 PP l ps):∀ {j:List V} {qs:List PyData},All2 PP j qs→l.all (eqOk n) = true→j.all (eqOk k) = true→PyData.eqvAll ps qs = beqs l j:=by
 induction a with
 | nil=>intro j qs b _ _; cases b <;> rfl
 | cons a1 a2 ih2 =>
  intro j qs b h1 h2
  cases b with
  | nil=>rfl
  | cons b1 b2 =>
   have h1:=Bool.and_eq_true_iff.mp h1
   have h2:=Bool.and_eq_true_iff.mp h2
   exact congr (congrArg and (ih _ _ _ _ h1.1 h2.1 a1 b1)) (ih2 b2 h1.2 h2.2)
theorem PP_eqv:∀ (n k:Nat),EqvAt n k:=fun n=>by
 induction n with
 | zero =>
  intro k d e p q h1 h2 a b
  cases a <;> first | exact absurd h1 Bool.false_ne_true | (cases b <;> first | rfl | exact (eqOk_bool h2).elim | exact str_beq ‹_› ‹_›)
 | succ n ih =>
  intro k d e p q h1 h2 a b
  cases a <;> first | exact absurd h1 Bool.false_ne_true | (cases b <;> first | rfl | exact (eqOk_bool h2).elim | exact str_beq ‹_› ‹_› | (obtain ⟨k,rfl,h2⟩:=eqOk_items h2; exact eqv_all (ih k) ‹_› ‹_› h1 h2) | (obtain ⟨k,rfl,h2⟩:=eqOk_items' h2; exact eqv_all (ih k) ‹_› ‹_› h1 h2))
section
variable {B:Bd} {u:Nat} {c:Ck} {G:Ev} {N Y Z:Nx} {Q E:PV→Shared→Prop}
theorem if_of {α:Type} {p:Prop} [Decidable p] {o:Option α} {K:α→Prop} (h:oK (if p then o else none) K):p∧oK o K:=by
 by_cases hp:p
 ·rw [if_pos hp] at h; exact ⟨hp,h⟩
 ·rw [if_neg hp] at h; exact False.elim h
theorem eqv_bool {a b:V} {p q:PyData} (h1:isBool a = true) (h2:isBool b = true) (x:PP a p) (y:PP b q):PyData.eqv p q = V.beq a b:=by
 cases x <;> first | exact absurd h1 Bool.false_ne_true | (cases y <;> first | rfl | exact absurd h2 Bool.false_ne_true)
theorem deref_ok {v:V} {x:PV} (sm:Sm B.D N) (r:Val B N v x):RA B.D N (deref N.σ v) x:=by
 cases v with
 | loc k =>
  obtain ⟨p,rfl,hp⟩:=r
  show RA B.D N (derefO k N.σ[k]?) _
  cases hl:N.σ[k]? with
  | none=>exact ⟨p,rfl,hp⟩
  | some o=>cases o with
   | list l=>exact ⟨p.1,rfl,(sm.obj k _ p hl hp).2⟩
   | _=>exact ⟨p,rfl,hp⟩
 | _=>exact r.ra
theorem eq_sides {a b:V} (h:(pyEq a b).isSome = true):(eqOk 24 a = true∧eqOk 24 b = true) ∨ (isBool a = true∧isBool b = true):=by
 by_cases g:((eqOk 24 a && eqOk 24 b) || (isBool a && isBool b)) = true
 ·exact (Bool.or_eq_true_iff.mp g).imp Bool.and_eq_true_iff.mp Bool.and_eq_true_iff.mp
 ·rw [pyEq,if_neg g] at h; cases h
theorem eq_ok {a b:V} {x y:PV} {K:Bool→Prop} (sm:Sm B.D N) (e:oK (pyEq (deref N.σ a) (deref N.σ b)) K) (ra:Val B N a x) (rb:Val B N b y) (hu:G.A.units + 24 < cLine) :
  ((∀ r,K r→Q (.bool r) N.s)→Wp B G N (compareOp .Eq x y) Q E)∧((∀ r,K r→Q (.bool (!r)) N.s)→Wp B G N (compareOp .NotEq x y) Q E):=by
 have ra:=deref_ok sm ra
 have rb:=deref_ok sm rb
 generalize deref N.σ a = a at *
 generalize deref N.σ b = b at *
 have fin:cok 24 a→cok 24 b→(∀ p q,PP a p→PP b q→PyData.eqv p q = V.beq a b)→K (V.beq a b)→((∀ r,K r→Q (.bool r) N.s)→Wp B G N (compareOp .Eq x y) Q E)∧((∀ r,K r→Q (.bool (!r)) N.s)→Wp B G N (compareOp .NotEq x y) Q E):=fun ca cb hq hK=>by
  obtain ⟨p,⟨as,a1⟩,a2,a3,a4⟩:=RV_reads 24 a x ca ra
  obtain ⟨q,⟨bs,b1⟩,b2,b3,b4⟩:=RV_reads 24 b y cb rb
  rw [← hq p q a2 b2] at hK
  have un:∀ n,G.A.units + min p.depth n < cLine:=fun n=>Nat.lt_of_le_of_lt (Nat.add_le_add_left (Nat.le_trans (Nat.min_le_left _ _) a4) _) hu
  exact ⟨fun z=>PySem.SeqAt.eqOverData _ _ _ _ _ _ _ _ _ _ _ _ a1 b1 a3 b3 (un _) (z _ hK),fun z=>PySem.SeqAt.neOverData _ _ _ _ _ _ _ _ _ _ _ _ a1 b1 a3 b3 (un _) (z _ hK)⟩
 obtain ⟨h,hK⟩:=if_of e
 exact (Bool.or_eq_true_iff.mp h).elim (fun h=>have h:=Bool.and_eq_true_iff.mp h; fin (.inl h.1) (.inl h.2) (fun p q=>PP_eqv 24 24 a b p q h.1 h.2) hK)
  fun h=>have h:=Bool.and_eq_true_iff.mp h; fin (.inr h.1) (.inr h.2) (fun p q=>eqv_bool h.1 h.2) hK
end
noncomputable def copOf:Cop→CmpOp
 | .eq=>.Eq | .ne=>.NotEq | .lt=>.Lt | .gt=>.Gt | .ge=>.GtE | .in_=>.In | .notIn=>.NotIn | .le=>.LtE
section
variable {D:Wd} {N:Nx}
theorem RVd_get {z:Str} (hz:strOk z = true) {Z:Prop}:∀ {l:List (V × V)} {kvs:List (Str × PV)},RVd D N l kvs →
  (dget (.str (encS z)) l = none→valueAt kvs z = none→Z)→(∀ d v,dget (.str (encS z)) l = some d→valueAt kvs z = some v→RV D N d v→Z)→Z
 | [],kvs,r,k1,_=>by cases (r:_ = []); exact k1 rfl rfl
 | (k,d) :: l,kvs,r,k1,k2=>by
  obtain ⟨x,v,t,rfl,⟨rfl,hx⟩,r1,r2⟩:=r
  by_cases e:x = z
  ·subst e
   exact k2 d v (if_pos (decide_eq_true rfl)) (by simp [valueAt]) r1
  ·have e1:dget (.str (encS z)) ((.str (encS x),d) :: l) = dget (.str (encS z)) l:=if_neg fun q=>e (encS_inj hx hz (of_decide_eq_true q))
   have e2:valueAt ((x,v) :: t) z = valueAt t z:=by simp [valueAt,e]
   rw [e1,e2] at k1
   exact RVd_get hz r2 k1 fun d v h1 h2=>k2 d v (e1.trans h1) (e2.trans h2)
end
section
variable {B:Bd} {u:Nat} {c:Ck} {G:Ev} {N Y Z:Nx} {Q E:PV→Shared→Prop}
theorem oK_map {α β:Type} {o:Option α} {f:α→β} {K:β→Prop} (h:oK (o.map f) K):oK o fun a=>K (f a):=by
 cases o <;> exact h
theorem oK_bind {α β:Type} {o:Option α} {f:α→Option β} {K:β→Prop} (h:oK (o.bind f) K):oK o fun a=>oK (f a) K:=by
 cases o <;> exact h
theorem bK_of {b:Bool} {p:Prop} (h:bK b p):b = true∧p:=by cases b <;> first | exact ⟨rfl,h⟩ | exact False.elim h
theorem and_l {a b:Bool} (h:(a && b) = true):a = true:=(Bool.and_eq_true_iff.mp h).1
theorem and_r {a b:Bool} (h:(a && b) = true):b = true:=(Bool.and_eq_true_iff.mp h).2
theorem st_of {k:Nat} {p:Addr × Addr} {f:Option SObj→Prop} (sm:Sm B.D N) (hp:N.μ[k]? = some p) (h:f N.σ[k]?) (h0:f none→False):∃ o,f (some o)∧OR B.D N p o∧N.σ[k]? = some o:=by
 cases hl:N.σ[k]? with
 | none=>rw [hl] at h; exact (h0 h).elim
 | some o=>rw [hl] at h; exact ⟨o,h,sm.obj k o p hl hp,rfl⟩
noncomputable def SqAt (N:Nx) (a:Addr) (vs:Array PV):Prop:=N.s.heap.IsList a vs ∨ N.s.heap.IsTuple a vs
theorem seq_of {v:V} {x:PV} {K:List V→Prop} {Z:Prop} (sm:Sm B.D N) (e:oK (asList N.σ v) K) (r:Val B N v x) (z:∀ l a vs,K l→x = .ref a→SqAt N a vs→Vals B N l vs.toList→Z):Z:=by
 cases v with
 | tup k=>exact r.elim fun a q=>q.elim fun vs q=>z k a vs e q.1 (.inr q.2.2.1.tup) q.2.2.2
 | list k=>exact r.elim fun a q=>q.elim fun vs q=>z k a vs e q.1 (.inl q.2.2.1.list) q.2.2.2
 | loc k=>exact r.elim fun p q=>(st_of (f:=fun o=>oK (locL o) K) sm q.2 e id).elim fun o h=>match o,h with
  | .list l,h=>h.2.1.2.elim fun vs w=>z l p.1 vs h.1 q.1 (.inl w.1.list) w.2
  | .inst _ _,h=>h.1.elim
  | .dict _,h=>h.1.elim
  | .dead,h=>h.1.elim
 | _=>exact False.elim e
theorem SqAt.reads {a:Addr} {vs:Array PV} (ht:SqAt N a vs) {ps:List PyData} {as:List Addr} (r:ReadsAll N.s.heap vs.toList ps as):(∃ bs,Reads N.s.heap (.ref a) (.list ps) bs) ∨ ∃ bs,Reads N.s.heap (.ref a) (.tuple ps) bs :=
 ht.imp (fun h=>h.elim fun o h=>h.2.2.elim fun k hd=>⟨_,.list h.1 h.2.1 hd r⟩) fun h=>h.elim fun o h=>h.2.2.elim fun k hd=>⟨_,.tuple h.1 h.2.1 hd r⟩
theorem dict_of {v:V} {x:PV} {K:List (V × V)→Prop} {Z:Prop} (sm:Sm B.D N) (e:oK (asDict N.σ v) K) (r:Val B N v x) (z:∀ l a kvs,K l→x = .ref a→IsDc B.D N.s.heap a kvs→RVd B.D N l kvs→Z):Z:=by
 cases v with
 | dict k=>exact r.elim fun a q=>q.elim fun vs q=>z k a vs e q.1 q.2.2.1 q.2.2.2
 | loc k=>exact r.elim fun p q=>(st_of (f:=fun o=>oK (locD o) K) sm q.2 e id).elim fun o h=>match o,h with
  | .dict l,h=>h.2.1.2.elim fun vs w=>z l p.1 vs h.1 q.1 w.1 w.2
  | .inst _ _,h=>h.1.elim
  | .list _,h=>h.1.elim
  | .dead,h=>h.1.elim
 | _=>exact False.elim e
theorem not_sys {a:Addr} (h:1 < a):(a == sysModules) = false:=beq_eq_false_iff_ne.mpr fun e=>absurd (e ▸ h:1 < sysModules) (by decide)
theorem key_of {k:V} {x:PV} (h:keyOk k = true) (r:Val B N k x):∃ z t,k = .str (encS z)∧strOk z = true∧x = .str z t∧(SK B.D).is z x = true:=by
 cases k with
 | str y=>obtain ⟨z,t,rfl,h1,rfl⟩:=r; exact ⟨z,t,rfl,h1,rfl,strKind_is _ _ _ _⟩
 | _=>exact absurd h Bool.false_ne_true
theorem any0:(#[]:Array PV).any (fun _=>false) = false:=by simp
theorem un_lt {k n m:Nat} (h:n + m < cLine) (hk:k≤m):n + k < cLine:=Nat.lt_of_le_of_lt (Nat.add_le_add_left hk _) h
noncomputable def Both (B:Bd) (G:Ev) (N:Nx) (E:PV→Shared→Prop) (K:Bool→Prop) (Q:PV→Shared→Prop) (o o':CmpOp) (x y:PV):Prop :=
 ((∀ r t,K r→Q (.bool r) (N.tk t).s)→Wp B G N (compareOp o x y) Q E)∧((∀ r t,K r→Q (.bool (!r)) (N.tk t).s)→Wp B G N (compareOp o' x y) Q E)
theorem any_beq {k:V} {p:PyData} (rp:PP k p) {j:List V} {qs:List PyData} (a:All2 PP j qs):(∀ d∈j,(pyEq d k).isSome = true)→(qs.any fun y=>PyData.eqv y p) = j.any fun y=>V.beq y k:=by
 induction a with
 | nil=>exact fun _=>rfl
 | cons a1 a2 ih=>exact fun h1=>congr (congrArg or ((eq_sides (h1 _ (List.mem_cons_self ..))).elim (fun h=>PP_eqv 24 24 _ k _ p h.1 h.2 a1 rp) fun h=>eqv_bool h.1 h.2 a1 rp)) (ih fun d m=>h1 d (List.mem_cons_of_mem _ m))
theorem in_seq {k:V} {l:List V} {x:PV} {a:Addr} {vs:Array PV} {K:Bool→Prop} (e:oK (pyIn k l) K) (rk:Val B N k x) (rl:Vals B N l vs.toList) (hu:G.A.units + 30 < cLine) (ht:SqAt N a vs):Both B G N E K Q .In .NotIn x (.ref a):=by
 obtain ⟨h,hK⟩:=if_of e
 have h1:=List.all_eq_true.mp h
 cases l with
 | nil =>
  cases (Array.toList_eq_nil_iff.mp rl:vs = #[])
  have hK:K ((#[]:Array PV).any fun _=>false):=any0.symm ▸ hK
  exact ht.elim (fun il=>⟨fun z=>SeqAt.in_listAt (fun _=>false) il (fun y hy=>nomatch hy) (z _ N.s.toks hK),fun z=>SeqAt.notIn_listAt (fun _=>false) il (fun y hy=>nomatch hy) (z _ N.s.toks hK)⟩)
   fun it=>⟨fun z=>SeqAt.in_tupleAt (fun _=>false) it (fun y hy=>nomatch hy) (z _ N.s.toks hK),fun z=>SeqAt.notIn_tupleAt (fun _=>false) it (fun y hy=>nomatch hy) (z _ N.s.toks hK)⟩
 | cons d0 l0 =>
  obtain ⟨p,⟨bs,b1⟩,b2,b3,_⟩:=RV_reads 24 k x ((eq_sides (h1 d0 (List.mem_cons_self ..))).imp (·.2) (·.2)) rk.ra
  obtain ⟨ps,⟨as,a1⟩,a2,a3,a4⟩:=RVs_reads (RV_reads 24) (fun d hd=>(eq_sides (h1 d hd)).imp (·.1) (·.1)) rl
  have hK:K (ps.any fun y=>PyData.eqv y p):=(any_beq b2 a2 h1).symm ▸ hK
  rcases ht.reads a1 with ⟨cs,rc⟩ | ⟨cs,rc⟩
  ·exact ⟨fun z=>SeqAt.in_list_reads rc b1 a3 b3 (by (first | lia | omega)) (z _ N.s.toks hK),fun z=>SeqAt.notIn_list_reads rc b1 a3 b3 (by (first | lia | omega)) (z _ N.s.toks hK)⟩
  ·exact ⟨fun z=>SeqAt.in_tuple_reads rc b1 a3 b3 (by (first | lia | omega)) (z _ N.s.toks hK),fun z=>SeqAt.notIn_tuple_reads rc b1 a3 b3 (by (first | lia | omega)) (z _ N.s.toks hK)⟩
theorem tup_items:∀ {l:List V} {vs:List PV},(l.all fun | .str _=>true | _=>false) = true→Vals B N l vs→∃ ks,ItemsAre (SK B.D) ks vs:=by
 intro l
 induction l with
 | nil=>intro vs _ r; cases (show vs = [] from r); exact ⟨[],.nil⟩
 | cons x l ih =>
  intro vs h r
  obtain ⟨v,t,rfl,r1,r2⟩:=r
  cases x with
  | str s =>
   obtain ⟨x,tk,rfl,_⟩:=r1
   exact (ih (and_r h) r2).elim fun ks i=>⟨x :: ks,.cons (strKind_is _ _ _ _) i⟩
  | _=>exact absurd (and_l h) Bool.false_ne_true
theorem tup_key {k:V} {x:PV} (h:tupKey k = true) (r:Val B N k x):∃ a ks,x = .ref a∧IsTupleKey (SK B.D) N.s.heap ks a:=by
 cases k with
 | tup l=>obtain ⟨a,vs,rfl,_,⟨m,ho⟩,rs⟩:=r; exact (tup_items h rs).elim fun ks i=>⟨a,ks,rfl,_,vs,m,ho,rfl,rfl,i⟩
 | _=>exact absurd h Bool.false_ne_true
theorem dict_nil {K:Type} [DecidableEq K] {D:Wd} {kk:HeapKind D.prog D.w K} {h:Heap} {a:Addr} (d:h.DictOf (SK D) a []):h.DictOfH kk a []:=by
 obtain ⟨o,es,ep,ho,hx,hd,_,hp,_⟩:=d
 refine ⟨o,es,ep,ho,hx,hd,?_,fun x hx=>(nomatch hx),List.nodup_nil⟩
 generalize es.toList = l at hp
 cases hp
 rfl
theorem in_dict {k:V} {l:List (V × V)} {x:PV} {a:Addr} {kvs:List (Str × PV)} {K:Bool→Prop} (e:oK (inD k l) K) (rk:Val B N k x) (t:IsDc B.D N.s.heap a kvs) (rs:RVd B.D N l kvs) (hu:G.A.units + 1 < cLine):Both B G N E K Q .In .NotIn x (.ref a):=by
 by_cases hk:keyOk k = true
 ·have e:K (dget k l).isSome:=by rw [inD,if_pos hk] at e; exact e
  obtain ⟨y,tk,rfl,hz,rfl,is⟩:=key_of hk rk
  have e':K (valueAt kvs y).isSome:=RVd_get hz rs (fun h1 h2=>by rw [h1] at e; rw [h2]; exact e) fun d v h1 h2 _=>by rw [h1] at e; rw [h2]; exact e
  exact ⟨fun z=>wpAny_in_of is (not_sys t.1) t.2.mapOf (z _ _ e'),fun z=>wpAny_notIn_of is (not_sys t.1) t.2.mapOf (z _ _ e')⟩
 ·rw [inD,if_neg hk] at e
  obtain ⟨hk,e2⟩:=if_of e
  have e2:K false:=e2
  cases l with
  | nil =>
   cases (rs:kvs = [])
   obtain ⟨c,ks,rfl,ik⟩:=tup_key (and_l hk) rk
   exact ⟨fun z=>wpAny_in_heap (knd:=tupleKind (SK B.D)) (k:=ks) hu ik (not_sys t.1) (dict_nil t.2) (z _ _ e2),fun z=>wpAny_notIn_heap (knd:=tupleKind (SK B.D)) (k:=ks) hu ik (not_sys t.1) (dict_nil t.2) (z _ _ e2)⟩
  | cons _ _=>exact absurd (and_r hk) Bool.false_ne_true
theorem in_ok {a b:V} {x y:PV} {K:Bool→Prop} (sm:Sm B.D N) (e:oK (inE N.σ a b) K) (ra:Val B N a x) (rb:Val B N b y) (hu:G.A.units + 30 < cLine):Both B G N E K Q .In .NotIn x y:=by
 delta inE at e
 cases hl:asList N.σ b with
 | some l =>
  rw [hl] at e
  exact seq_of (K:=fun l=>oK (pyIn a l) K) sm (by rw [hl]; exact e) rb fun l c vs e h t rs=>h ▸ in_seq e ra rs hu t
 | none =>
  rw [hl] at e
  exact dict_of sm (oK_bind e) rb fun l c vs e h t rs=>h ▸ in_dict e ra t rs (un_lt hu (by decide))
theorem asInt_of {v:V} {x:PV} {K:Int→Prop} (e:oK (asInt v) K) (r:Val B N v x):∃ i t,x = .int i t∧v = .int i∧K i:=by
 cases v with
 | int i=>exact r.elim fun t e1=>⟨i,t,e1,rfl,e⟩
 | _=>exact False.elim e
theorem cmpI_of {a b:V} {x y:PV} {f:Int→Int→Bool} {K:Bool→Prop} (e:oK (cmpI a b f) K) (ra:Val B N a x) (rb:Val B N b y):∃ i t j t',x = .int i t∧y = .int j t'∧K (f i j) :=
 (asInt_of (oK_bind e) ra).elim fun i q=>q.elim fun t q=>(asInt_of (oK_map q.2.2) rb).elim fun j w=>w.elim fun t' w=>⟨i,t,j,t',q.1,w.1,w.2.2⟩
theorem cmp_ok {o:Cop} {a b:V} {x y:PV} {K:Bool→Prop} (sm:Sm B.D N) (e:oK (cmpE N.σ o a b) K) (ra:Val B N a x) (rb:Val B N b y) (hu:G.A.units + 30 < cLine)
  (z:∀ r t,K r→Q (.bool r) (N.tk t).s):Wp B G N (compareOp (copOf o) x y) Q E:=by
 cases o with
 | eq=>exact (eq_ok sm e ra rb (un_lt hu (by decide))).1 fun r h=>z r N.s.toks h
 | ne=>exact (eq_ok sm (oK_map e) ra rb (un_lt hu (by decide))).2 fun r h=>z (!r) N.s.toks h
 | lt=>obtain ⟨i,t,j,t',rfl,rfl,e⟩:=cmpI_of e ra rb; exact lt_int (z _ N.s.toks e)
 | gt=>obtain ⟨i,t,j,t',rfl,rfl,e⟩:=cmpI_of e ra rb; exact gt_int (z _ N.s.toks e)
 | ge=>obtain ⟨i,t,j,t',rfl,rfl,e⟩:=cmpI_of e ra rb; exact ge_int (z _ N.s.toks e)
 | in_=>exact (in_ok sm e ra rb hu).1 z
 | notIn=>exact (in_ok sm (oK_map e) ra rb hu).2 fun r t h=>z (!r) t h
 | le=>obtain ⟨i,t,j,t',rfl,rfl,e⟩:=cmpI_of e ra rb; exact le_int (z _ N.s.toks e)
theorem Room.un {n u:Nat} {A:Around} (r:Room n u A) {k:Nat} (h:k≤u):A.units + k < cLine:=Nat.lt_of_le_of_lt (Nat.add_le_add (Nat.le_add_right _ _) h) r.units
theorem two {x y:X} {l r:PEnv→Sem PV} (h1:TE B u c x l) (h2:TE B u c y r) (H:Go B u c G N) {K:V→V→St→Prop} (q:kX B G N x fun a σ=>kE B.P B.T y G.ρ σ fun b σ=>K a b σ) {Q:PV→PV→Shared→Prop}
  (z:∀ a b Y v w,K a b Y.σ→Aft B.D N noA Y→Val B Y a v→Val B Y b w→Q v w Y.s):Wp B G N (l G.env) (fun v s=>wpAny (model B.D.prog B.D.w) G.A (r G.env) (Q v) E s) E :=
 h1 G N _ E _ H q fun a Y v k1 a1 r1=>h2 G Y _ E _ (H.to a1) k1 fun b Z w k2 a2 r2=>z a b Z v w k2 (a1.trans a2) (Val.on a2 r1) r2
theorem te_cmp {o:Cop} {x y:X} {l r:PE} {p:Pos} (hu:30≤u) (hm:behindInMarks (copOf o) r = false) (h1:TE B u c x (fun env=>eval l env)) (h2:TE B u c y (fun env=>eval r env)) :
  TE B u c (.cmp o x y) (fun env=>eval (.Compare l [copOf o] [r] p) env):=fun G N Q E K H q z =>
 wpAny_Compare1 (two h1 h2 H q fun a b Y v w k1 a1 r1 r2=>cmp_ok a1.sm k1 r1 r2 (H.rm.un hu) fun r t k2=>z (.bool r) _ _ k2 (a1.trans (toks_ok a1.sm t)) rfl) hm
theorem tb_cmp {o:Cop} {x y:X} {l r:PE} {p:Pos} (hu:30≤u) (hm:behindInMarks (copOf o) r = false) (h1:TE B u c x (fun env=>eval l env)) (h2:TE B u c y (fun env=>eval r env)) :
  TB B u c (.cmp o x y) (fun env=>isTrue (.Compare l [copOf o] [r] p) env (eval (.Compare l [copOf o] [r] p) env)):=fun G N Q E K H q z =>
 wpAny_isTrue_Compare1 (two h1 h2 H q fun a b Y v w k1 a1 r1 r2=>cmp_ok a1.sm k1 r1 r2 (H.rm.un hu) fun r t k2=>wpAny_truthy_bool (z r _ k2 (a1.trans (toks_ok a1.sm t)))) hm
end
end Mine.Internal
namespace Mine.Internal
open PySem PySem.W PyProof.Rows
theorem if_or {α:Type} {p:Prop} [Decidable p] {o o':Option α} {K:α→Prop} {Z:Prop} (h:oK (if p then o else o') K) (h1:p→oK o K→Z) (h2:¬ p→oK o' K→Z):Z:=by
 by_cases hp:p
 ·rw [if_pos hp] at h; exact h1 hp h
 ·rw [if_neg hp] at h; exact h2 hp h
structure Idx (n:Nat) (i:Int) (j:Nat):Prop where
 lo:-1000000≤i
 hi:i≤1000000
 sq:seqIndex? i n = some j
 at_:(0≤i∧j = i.toNat) ∨ (i < 0∧0≤i + (n:Int)∧j = (i + (n:Int)).toNat)
theorem idx_of {n:Nat} {i:Int} {K:Nat→Prop} (e:oK (idx n i) K):∃ j,K j∧Idx n i j:=by
 refine if_or e (fun h e=>?_) fun h e=>?_ <;> obtain ⟨h2,e⟩:=if_of e
 ·refine ⟨_,e,Int.le_trans (by decide) h,h2.2,?_,.inl ⟨h,rfl⟩⟩
  delta seqIndex?
  rw [if_neg (Int.not_lt.mpr h)]
  exact if_pos (by simp; (first | lia | omega))
 ·have h:=Int.not_le.mp h
  rw [Int.add_comm] at h2
  refine ⟨_,e,h2.2,Int.le_trans (Int.le_of_lt h) (by decide),?_,.inr ⟨h,h2.1,by rw [Int.add_comm]⟩⟩
  delta seqIndex?
  rw [if_pos h,Int.add_comm (n:Int)]
  exact if_pos (by simp; (first | lia | omega))
section
variable {B:Bd} {u:Nat} {c:Ck} {G:Ev} {N Y Z:Nx} {Q E:PV→Shared→Prop}
theorem RVs_at {d:List V} {vs:Array PV} (r:Vals B N d vs.toList) {i:Nat} {K:V→Prop} (e:oK d[i]? K):∃ x v,K x∧vs[i]? = some v∧Val B N x v :=
 oK_of e fun x hx k=>(RVs_get r hx).elim fun v q=>⟨x,v,k,Array.getElem?_toList.symm.trans q.1,q.2⟩
theorem item_ok {value slice:PE} {o i:V} {x y:PV} {K:V→Prop} (sm:Sm B.D N) (e:oK (itemE N.σ o i) K) (ro:Val B N o x) (ri:Val B N i y) (hs:subscripted slice false x y = operate [x,y] (getItem x y))
  (z:∀ d t v,K d→Val B N d v→Q v (N.tk t).s):Wp B G N (subscriptTail value slice x y) Q E:=by
 cases i with
 | int k =>
  obtain ⟨t,rfl⟩:=ri
  refine seq_of sm (oK_bind e) ro fun l a vs e hx il rs=>?_
  subst hx
  obtain ⟨j,e,I⟩:=idx_of (oK_bind e)
  obtain ⟨d,v,e,hv,rv⟩:=RVs_at rs e
  have fin:=z d N.s.toks v e rv
  have ln:l.length = vs.size:=(RVs_length rs).symm.trans Array.length_toList
  refine il.elim (fun il=>tail_any il.typeIs slot_list_getitem.lookup (I.at_.elim (fun c=>?_) fun c=>?_) hs) fun it=>tail_any it.typeIs slot_tuple_getitem.lookup (getItem_tuple it (Int.lt_of_lt_of_le (by decide) I.lo |> Int.le_of_lt) (Int.lt_of_le_of_lt I.hi (by decide)) (ln ▸ I.sq) hv fin) hs
  ·exact wpAny_getItem_list il c.1 (Int.lt_of_le_of_lt I.hi (by decide)) (c.2 ▸ hv) fin
  ·exact wpAny_getItem_list_neg il c.1 (by rw [← ln]; have:=c.2.1; (first | lia | omega)) (Int.lt_of_lt_of_le (by decide) I.lo |> Int.le_of_lt) (ln ▸ c.2.2 ▸ hv) fin
 | str k =>
  obtain ⟨n,tk,rfl,hz,rfl⟩:=ri
  refine dict_of sm (oK_bind e) ro fun l a kvs e hx t rs=>?_
  subst hx
  exact RVd_get hz rs (fun h1 _=>by rw [h1] at e; exact False.elim e) fun d v h1 h2 rv=>by
   rw [h1] at e
   exact tail_any t.2.typeIs slot_dict_getitem.lookup (wpAny_getItem_of (strKind_is _ _ _ _) t.2.mapOf h2 (z d _ v e rv)) hs
 | _=>exact False.elim e
noncomputable def notSlice (e:PE):Bool:=!(e.ctorIdx == 26)
theorem subscripted_plain {slice:PE} {o i:PV} (h:notSlice slice = true):subscripted slice false o i = operate [o,i] (getItem o i):=by
 cases slice <;> first | rfl | exact absurd h Bool.false_ne_true
theorem te_item {x y:X} {e f:PE} {p:Pos} (hs:notSlice f = true) (h1:TE B u c x (fun env=>eval e env)) (h2:TE B u c y (fun env=>eval f env)) :
  TE B u c (.item x y) (fun env=>eval (.Subscript e f p) env):=fun G N Q E K H q z =>
 Subscript_ (two h1 h2 H q fun a b Y v w k1 a1 r1 r2=>item_ok a1.sm k1 r1 r2 (subscripted_plain hs) fun d t v k2 rv=>z d _ v k2 (a1.trans (toks_ok a1.sm t)) (Val.on (toks_ok a1.sm t) rv))
theorem te_sidx {x:Str} {cs:List V} {y:X} {f:PE} {k:Nat} {p0 p:Pos} (hx:strOk x = true) (hc:cs = x.cps.toList.map fun c=>V.str (encL [c])) (hs:notSlice f = true) (h:TE B u c y (fun env=>eval f env)) :
  TE B u c (.sidx cs y) (fun env=>eval (.Subscript (.Constant (.str x) k p0) f p) env):=fun G N Q E K H q z =>
 have tk:=H.toks (N.s.toks + 1)
 Subscript_ (wpAny_Constant_str (h G (N.tk (N.s.toks + 1)) _ E _ (H.to tk) q fun d1 Y v k1 a r=>by
  obtain ⟨i,t,rfl,rfl,k1⟩:=asInt_of (oK_bind k1) r
  obtain ⟨j,k1,I⟩:=idx_of (oK_bind k1)
  subst hc
  have sq:=I.sq
  rw [List.length_map] at sq
  rw [List.getElem?_map] at k1
  refine oK_of (oK_map k1) fun cc ec k1=>?_
  have hlen:x.length = x.cps.toList.length:=(Array.length_toList).symm
  refine tail_any (typeIs_str _ _ _) F.slot_str_getitem.lookup (PySem.P.getItem_str (have:=I.hi; by simp; have:=I.lo; (first | lia | omega)) (c:=cc) ?_ ?_) (subscripted_plain hs)
  ·rw [hlen,sq]; simpa using ec
  ·exact z _ (Y.tk _) _ k1 ((tk.trans a).trans (toks_ok a.sm _)) ⟨⟨#[cc]⟩,_,rfl,Bool.and_eq_true_iff.mpr ⟨List.all_eq_true.mp hx cc (List.mem_of_getElem? ec),rfl⟩,rfl⟩))
end
end Mine.Internal
namespace Mine.Internal
open PySem PySem.W PyProof.Rows
theorem slicePick_cut (vs:Array PV) (lo hi:Option Int):(slicePick vs lo hi none).toList = cut vs.toList lo hi:=by
 rw [slicePick_plain]
 delta cut
 rw [List.drop_take,Array.length_toList]
 rfl
theorem RVs_cut {D:Wd} {N:Nx} {d:List V} {v:List PV} (lo hi:Option Int) (r:RVs D N d v):RVs D N (cut d lo hi) (cut v lo hi):=by
 delta cut
 rw [← RVs_length r]
 exact RVs_drop _ (RVs_take _ r)
section
variable {prog:Program} {w:World} {A:Around} {E:PV→Shared→Prop} {s:Shared}
theorem slicePart_of {v:PV} {k:Option Int} {Q:Option Int→Shared→Prop} (hv:IsPart v k) (h:Q k s):wpAny (model prog w) A (Builtin.Slice.slicePartIndex v) Q E s:=by
 cases hv with
 | none=>exact slicePart_none h
 | int i t=>exact slicePart_int h
theorem adjust_one (v:Int) (n:Nat):(if v < 0 then max (v + n) 0 else min v n) = ((clip n v:Nat):Int):=by
 delta clip
 rw [Int.toNat_of_nonneg (Int.le_max_left _ _)]
 by_cases h:v < 0
 ·rw [if_pos h,if_pos h,Int.min_eq_left (Int.add_le_of_le_sub_right (Int.sub_self _ ▸ Int.le_of_lt h)),Int.max_comm]
 ·rw [if_neg h,if_neg h,Int.max_eq_right (Int.le_min.mpr ⟨Int.not_lt.mp h,Int.natCast_nonneg _⟩)]
theorem adjust_plain (lo hi:Option Int) (n:Nat):Builtin.Slice.sliceAdjust lo hi 1 (n:Int) = (((lo.elim 0 (clip n):Nat):Int),((hi.elim n (clip n):Nat):Int)):=by
 delta Builtin.Slice.sliceAdjust
 have h1:¬ ((1:Int) < 0):=by decide
 simp only [h1,if_false]
 cases lo <;> cases hi <;> simp only [Option.elim,adjust_one] <;> rfl
theorem places_plain (a b:Nat):Builtin.Slice.slicePlaces (a:Int) (b:Int) 1 = b - a:=by
 delta Builtin.Slice.slicePlaces
 rw [if_pos (by decide),Int.ediv_one]
 by_cases h:(a:Int) < b
 ·rw [if_pos h,Int.sub_add_cancel,Int.toNat_sub]
 ·rw [if_neg h,Nat.sub_eq_zero_of_le (Int.ofNat_le.mp (Int.not_lt.mp h))]; rfl
theorem sliceApplied_plain {sl:Addr} {vl vu:PV} {lo hi:Option Int} {n:Nat} {Q:Int × Int × Nat→Shared→Prop} (hs:s.heap.IsSliceOf sl vl vu .none) (pl:IsPart vl lo) (pu:IsPart vu hi)
  (h:Q (((lo.elim 0 (clip n):Nat):Int),1,hi.elim n (clip n) - lo.elim 0 (clip n)) s) :
  wpAny (model prog w) A (Builtin.Slice.sliceApplied (.ref sl) (pure (n:Int))) Q E s:=by
 obtain ⟨os,hos,hcs,hds⟩:=hs
 delta Builtin.Slice.sliceApplied Builtin.Slice.sliceFields
 refine wpAny_bind (wpAny_bind (wpAny_field hos hds (x:=vl) rfl (wpAny_bind (wpAny_field hos hds (x:=vu) rfl (wpAny_bind (wpAny_field hos hds (x:=.none) rfl (wpAny_pure ?_)))))))
 refine wpAny_bind (slicePart_none ?_)
 show wpAny _ _ (if ((1:Int) == 0) = true then _ else _) _ _ s
 rw [if_neg (by decide)]
 refine wpAny_bind (slicePart_of pl (wpAny_bind (slicePart_of pu (wpAny_bind (wpAny_pure ?_)))))
 show wpAny _ _ (match Builtin.Slice.sliceAdjust lo hi 1 (n:Int) with | (lo,hi)=>pure (lo,(1:Int),Builtin.Slice.slicePlaces lo hi 1)) _ _ s
 rw [adjust_plain]
 refine wpAny_pure ?_
 rw [places_plain]
 exact h
theorem pick_plain (xs:Array PV) (a k:Nat):((List.range k).filterMap fun (j:Nat)=>xs[((a:Int) + (j:Int) * 1).toNat]?) = (xs.toList.drop a).take k:=by
 have e:(fun (j:Nat)=>xs[((a:Int) + (j:Int) * 1).toNat]?) = fun j=>xs[a + j]?:=funext fun j=>by rw [Int.mul_one]; rfl
 rw [e,← pick_run xs a k,List.filterMap_map]
 rfl
theorem cut_len {α:Type} (l:List α) (lo hi:Option Int):(cut l lo hi).length≤l.length:=by
 delta cut
 rw [List.length_drop,List.length_take]
 exact Nat.le_trans (Nat.sub_le _ _) (Nat.min_le_right _ _)
theorem cap_line {n:Nat} (h:n≤1000000):n≤sizeLine:=Nat.le_trans h (by rw [sizeLine_eq]; decide)
theorem getItem_tuple_cut {t sl:Addr} {items:Array PV} {vl vu:PV} {lo hi:Option Int} {Q:PV→Shared→Prop} (ht:IsTup s.heap t items) (hs:s.heap.IsSliceOf sl vl vu .none) (pl:IsPart vl lo) (pu:IsPart vu hi)
  (h1:cut items.toList lo hi = items.toList→Q (.ref t) s)
  (h:Q (.ref s.heap.objs.size) { s with heap:=s.heap.push { cls:=.type "tuple",data:=.seq (cut items.toList lo hi).toArray } })
  (hsz:items.size≤1000000):wpAny (model prog w) A (getItem (.ref t) (.ref sl)) Q E s:=by
 have ec:(items.toList.drop (lo.elim 0 (clip items.size))).take (hi.elim items.size (clip items.size) - lo.elim 0 (clip items.size)) = cut items.toList lo hi:=by
  delta cut; rw [List.drop_take,Array.length_toList]
 have hdrop:sizeOk (.seq (cut items.toList lo hi).toArray):=cap_line (Nat.le_trans (Nat.le_of_eq List.size_toArray) (Nat.le_trans (cut_len items.toList lo hi) (Nat.le_trans (Nat.le_of_eq Array.length_toList) hsz)))
 obtain ⟨os,hos,hcs,hds⟩:=id hs
 delta getItem
 try with_reducible refine wpAny_holding ?_
 first | refine wpAny_bind (wpAny_pure ?_) | skip
 refine wpAny_bind (wpAny_sequenceKey ht.typeIs (by decide) ?_)
 refine wpAny_bind (wpAny_callSpecial?_slot (name:=Str.ofString "__getitem__") ht.typeIs slot_tuple_getitem
  (wpAny_call_entry slot_tuple_getitem ht.typeIs entry_tuple_getitem ?_ (args_tuple_getitem _ _)))
 show wpAny _ _ (Builtin.Tuple.tupleItemsOf (.ref t) >>= _) _ _ s
 refine wpAny_bind (tupleItemsOf_ ht ?_)
 refine wpAny_bind (wpAny_typeOf ⟨os,hos,hcs⟩ ?_)
 rw [if_pos (by decide)]
 refine wpAny_bind (sliceApplied_plain hs pl pu ?_)
 dsimp only
 split
 ·rename_i hw
  simp only [Bool.and_eq_true,beq_iff_eq] at hw
  have q:=h1 (by
   rw [← ec,hw.2,show lo.elim 0 (clip items.size) = 0 from Int.ofNat_inj.mp hw.1.1,List.drop_zero,List.take_of_length_le (Nat.le_of_eq Array.length_toList)])
  delta Builtin.Tuple.tupleIsExact
  refine wpAny_bind (wpAny_bind (wpAny_typeOf ht.typeIs (wpAny_pure ?_)))
  rw [if_pos (by decide)]
  exact wpAny_bind (wpAny_rule (wpAny_bind (wpAny_pure (wpAny_pure ⟨_,rfl,wpAny_pure q⟩))))
 ·rw [pick_plain,ec]
  first
   | exact wpAny_bind (m:=Builtin.Tuple.tupleExact _) (wpAny_newObj_type (wpAny_pure ⟨_,rfl,wpAny_pure h⟩) hdrop)
   | exact wpAny_bind (m:=Builtin.Tuple.tupleExact _) (wpAny_newObj_type (wpAny_bind (wpAny_pure (wpAny_pure ⟨_,rfl,wpAny_pure h⟩))) hdrop)
   | exact wpAny_bind (wpAny_bind (m:=Builtin.Tuple.tupleExact _) (wpAny_newObj_type (wpAny_pure (wpAny_pure ⟨_,rfl,wpAny_pure h⟩)) hdrop))
   | exact wpAny_bind (wpAny_bind (m:=Builtin.Tuple.tupleExact _) (wpAny_newObj_type (wpAny_pure ⟨_,rfl,wpAny_pure h⟩) hdrop))
end
section
variable {B:Bd} {u:Nat} {c:Ck} {G:Ev} {N Y Z:Nx} {Q E:PV→Shared→Prop}
theorem More.seq {s:Shared} (m:More N s) (sm:Sm B.D N) {b:Addr} {o:Obj} (h1:¬ N.has b) (e:s.heap.get? b = some o):Aft B.D N noA ((N.at s).wi b):=(m.aft sm).wi (m.pv sm h1 e) h1
noncomputable abbrev lsO (vs:Array PV):Obj:={ cls:=.type "list",data:=.seq vs }
noncomputable abbrev tpO (vs:Array PV):Obj:={ cls:=.type "tuple",data:=.seq vs }
theorem new_list {s:Shared} {l:List V} {vs:Array PV} (m:More N s) (sm:Sm B.D N) (rs:Vals B N l vs.toList):Aft B.D N noA ((N.at { s with heap:=s.heap.push (lsO vs) }).wi s.heap.objs.size)∧Val B ((N.at { s with heap:=s.heap.push (lsO vs) }).wi s.heap.objs.size) (.list l) (.ref s.heap.objs.size) :=
 have a:=(m.push (lsO vs)).seq sm m.no (push_at rfl)
 ⟨a,_,vs,rfl,.inr rfl,⟨0,push_at rfl⟩,Vals.on a rs⟩
theorem new_tup {s:Shared} {l:List V} {vs:Array PV} (m:More N s) (sm:Sm B.D N) (rs:Vals B N l vs.toList):Aft B.D N noA ((N.at { s with heap:=s.heap.push (tpO vs) }).wi s.heap.objs.size)∧Val B ((N.at { s with heap:=s.heap.push (tpO vs) }).wi s.heap.objs.size) (.tup l) (.ref s.heap.objs.size) :=
 have a:=(m.push (tpO vs)).seq sm m.no (push_at rfl)
 ⟨a,_,vs,rfl,.inr rfl,⟨0,push_at rfl⟩,Vals.on a rs⟩
noncomputable def slObj (vl vu:PV):Obj:={ cls:=.type "slice",data:=.fields #[vl,vu,.none] }
theorem cut_all {l:List V} {vs:List PV} {lo hi:Option Int} (rs:Vals B N l vs) (e:cut vs lo hi = vs):cut l lo hi = l :=
 ((List.drop_sublist _ _).trans (List.take_sublist _ _):(cut l lo hi).Sublist l).eq_of_length ((RVs_length (RVs_cut lo hi rs)).symm.trans ((congrArg List.length e).trans (RVs_length rs)))
theorem arr_len {l:List V} {vs:Array PV} {n:Nat} (rs:Vals B N l vs.toList) (h:l.length≤n):vs.size≤n:=Nat.le_trans (Nat.le_of_eq (Array.length_toList.symm.trans (RVs_length rs))) h
theorem cut_tail {value:PE} {lower upper:Option PE} {p:Pos} {d1:V} {x vl vu:PV} {lo hi:Option Int} {K:V→Prop} (sm:Sm B.D N) (r:Val B N d1 x) (pl:IsPart vl lo) (pu:IsPart vu hi) (e:oK (cutE d1 lo hi) K)
  (z:∀ d Y v,K d→Aft B.D N noA Y→Y.σ = N.σ→Val B Y d v→Q v Y.s) :
  wpAny (model B.D.prog B.D.w) G.A (subscriptTail value (.Slice lower upper none p) x (.ref N.s.heap.objs.size)) Q E { N.s with heap:=N.s.heap.push (slObj vl vu) }:=by
 have m1:=(More.refl N).push (slObj vl vu)
 have hsl:=Heap.IsSliceOf.new N.s.heap vl vu .none
 cases d1 with
 | list l =>
  obtain ⟨hl,e⟩:=if_of e
  obtain ⟨a,vs,rfl,_,il,rs⟩:=r
  have il':(N.s.heap.push (slObj vl vu)).IsList a vs:=il.list.at fun o e=>m1.k _ _ e
  have w:=new_list m1 sm (vs:=slicePick vs lo hi none) (l:=cut l lo hi) (by rw [slicePick_cut]; exact RVs_cut lo hi rs)
  exact tail_any il'.typeIs slot_list_getitem.lookup (wpAny_getItem_list_slice il' hsl pl pu .none (by simp) (z _ _ _ e w.1 rfl w.2) (cap_line (arr_len rs hl))) (ops:=[.ref N.s.heap.objs.size,.ref a]) rfl
 | tup l =>
  obtain ⟨hl,e⟩:=if_of e
  have r0:=r
  obtain ⟨a,vs,rfl,wa,it,rs⟩:=r
  have it':(N.s.heap.push (slObj vl vu)).IsTuple a vs:=it.tup.at fun o e=>m1.k _ _ e
  have w:=new_tup m1 sm (vs:=(cut vs.toList lo hi).toArray) (RVs_cut lo hi rs)
  exact tail_any it'.typeIs slot_tuple_getitem.lookup (getItem_tuple_cut it' hsl pl pu (fun e1=>z _ (N.at _) _ (cut_all rs e1 ▸ e) (m1.aft sm) rfl (Val.on (m1.aft sm) r0)) (z _ _ _ e w.1 rfl w.2) (arr_len rs hl)) (ops:=[.ref N.s.heap.objs.size,.ref a]) rfl
 | _=>exact False.elim e
noncomputable def TO (B:Bd) (u:Nat) (c:Ck) (x:X) (o:Option PE):Prop:=match o with
 | some f=>TE B u c x (fun env=>eval f env)
 | none=>x = .cst .none
theorem to_ok {x:X} {o:Option PE} (h:TO B u c x o) (H:Go B u c G N) {K:V→St→Prop} {Q:PV→Shared→Prop} (q:kX B G N x K) (z:∀ d Y v,K d Y.σ→Aft B.D N noA Y→Val B Y d v→Q v Y.s):Wp B G N (evalPart o G.env) Q E:=by
 cases o with
 | some f=>exact wpAny_evalPart_some (h G N _ E _ H q z)
 | none=>cases (h:x = _); exact wpAny_evalPart_none (z .none N _ q H.refl rfl)
theorem endE_of {v:V} {x:PV} {K:Option Int→Prop} (e:oK (endE v) K) (r:Val B N v x):∃ i,IsPart x i∧K i:=by
 cases v with
 | none=>cases (r:x = .none); exact ⟨none,.none,e⟩
 | int i=>obtain ⟨t,rfl⟩:=r; exact ⟨some i,.int i t,e⟩
 | _=>exact False.elim e
theorem te_sl {x y w:X} {f:PE} {lo hi:Option PE} {p1 p:Pos} (h1:TE B u c x (fun env=>eval f env)) (h2:TO B u c y lo) (h3:TO B u c w hi):TE B u c (.sl x y w) (fun env=>eval (.Subscript f (.Slice lo hi none p1) p) env):=fun G N Q E K H q z =>
 Subscript_ (h1 G N _ E _ H q fun d1 Y1 v1 k1 a1 r1=>wpAny_Slice (to_ok h2 (H.to a1) k1 fun d2 Y2 v2 k2 a2 r2=>to_ok h3 (H.to (a1.trans a2)) k2 fun d3 Y3 v3 k3 a3 r3=>wpAny_evalPart_none
  (let ⟨i,p1,k3⟩:=endE_of (oK_bind k3) (Val.on a3 r2)
   let ⟨j,p2,k3⟩:=endE_of (oK_bind k3) r3
   cut_tail (G:=G) a3.sm (Val.on (a2.trans a3) r1) p1 p2 k3 fun d Y v k4 a es r=>z d Y v (es ▸ k4) ((a1.trans (a2.trans a3)).trans a) r)))
theorem band_eq {a b:Int} (h1:0≤a) (h2:0≤b):Builtin.bitAnd a b = ((a.toNat &&& b.toNat:Nat):Int):=by
 delta Builtin.bitAnd
 rw [decide_eq_true h1,decide_eq_true h2]
noncomputable def bopOf:Bop→Operator
 | .add=>.Add | .sub=>.Sub | .mul=>.Mult | .mod=>.Mod | .band=>.BitAnd | .div=>.FloorDiv | .shr=>.RShift
theorem asTup_of {v:V} {K:List V→Prop} (e:oK (asTup v) K):∃ l,v = .tup l∧K l:=by
 cases v <;> first | exact ⟨_,rfl,e⟩ | exact False.elim e
theorem cap_size {a b:List V} {vs us:Array PV} (h:(a++b).length≤capL) (r1:Vals B N a vs.toList) (r2:Vals B N b us.toList):vs.size + us.size≤sizeLine:=by
 rw [← Array.length_toList,← Array.length_toList (xs:=us),RVs_length r1,RVs_length r2,← List.length_append]
 exact cap_line h
theorem emp_of {l:List V} {vs:Array PV} (r:Vals B N l vs.toList) (h:vs.isEmpty = true):l = []:=by
 cases Array.isEmpty_iff.mp h
 cases l with
 | nil=>rfl
 | cons=>obtain ⟨v,t,e,_⟩:=r; cases e
theorem add_tup_ok {l k:List V} {x y:PV} (sm:Sm B.D N) (hz:(l++k).length≤capL) (ra:Val B N (.tup l) x) (rb:Val B N (.tup k) y) (z:∀ Y v,Aft B.D N noA Y→Y.σ = N.σ→Val B Y (.tup (l++k)) v→Q v Y.s):Wp B G N (binaryOp .Add x y) Q E:=by
 have ra':=ra
 have rb':=rb
 obtain ⟨a,vs,rfl,wa,⟨i,ia⟩,rs⟩:=ra
 obtain ⟨b,us,rfl,wb,⟨j,ib⟩,qs⟩:=rb
 have ta:N.s.TypeIs (.ref a) "tuple":=⟨_,ia,rfl⟩
 have tb:N.s.TypeIs (.ref b) "tuple":=⟨_,ib,rfl⟩
 by_cases h1:vs.isEmpty = true
 ·cases emp_of rs h1
  exact concat_meets ta tb noFill_tuple_add seq_tuple_add F.slot_tuple_add F.entry_tuple_add (F.args_tuple_add_2 _ _) (AutoSeq1.tuple___add___tuple_tuple_0 a vs i b us j h1) ⟨ia,ib,z N _ (.refl sm) rfl rb'⟩
 ·by_cases h2:us.isEmpty = true
  ·cases emp_of qs h2
   rw [List.append_nil] at z
   exact concat_meets ta tb noFill_tuple_add seq_tuple_add F.slot_tuple_add F.entry_tuple_add (F.args_tuple_add_2 _ _) (AutoSeq1.tuple___add___tuple_tuple_1 a vs i b us j h1 h2) ⟨ia,ib,z N _ (.refl sm) rfl ra'⟩
  ·have w:=new_tup (More.refl N) sm (vs:=vs++us) (l:=l++k) (by rw [Array.toList_append]; exact RVs_append rs qs)
   exact concat_meets ta tb noFill_tuple_add seq_tuple_add F.slot_tuple_add F.entry_tuple_add (F.args_tuple_add_2 _ _) (AutoSeq1.tuple___add___tuple_tuple_2 a vs i b us j h1 h2 (cap_size hz rs qs)) ⟨ia,ib,z _ _ w.1 rfl w.2⟩
theorem lst_of {v:V} {x:PV} {K:List V→Prop} {Z:Prop} (sm:Sm B.D N) (e:oK (asLst N.σ v) K) (r:Val B N v x) (z:∀ l a,K l→x = .ref a→RC B.D N a (.list l)→Z):Z:=by
 cases v with
 | list k=>exact r.elim fun a q=>q.elim fun vs q=>z k a e q.1 ⟨vs,q.2.2⟩
 | loc k=>exact r.elim fun p q=>(st_of (f:=fun o=>oK (locL o) K) sm q.2 e id).elim fun o h=>match o,h with
  | .list l,h=>z l p.1 h.1 q.1 h.2.1.2
  | .inst _ _,h=>h.1.elim
  | .dict _,h=>h.1.elim
  | .dead,h=>h.1.elim
 | _=>exact False.elim e
theorem add_list_ok {l k:List V} {a b:Addr} (sm:Sm B.D N) (hz:(l++k).length≤capL) (ra:RC B.D N a (.list l)) (rb:RC B.D N b (.list k)) (z:∀ Y v,Aft B.D N noA Y→Y.σ = N.σ→Val B Y (.list (l++k)) v→Q v Y.s):Wp B G N (binaryOp .Add (.ref a) (.ref b)) Q E:=by
 obtain ⟨vs,⟨i,ia⟩,rs⟩:=ra
 obtain ⟨us,⟨j,ib⟩,qs⟩:=rb
 have w:=new_list (More.refl N) sm (vs:=vs++us) (l:=l++k) (by rw [Array.toList_append]; exact RVs_append rs qs)
 exact P.add_list ia ib (z _ _ w.1 rfl w.2) (cap_size hz rs qs)
theorem bin_ok {o:Bop} {a b:V} {x y:PV} {K:V→Prop} (sm:Sm B.D N) (e:oK (binE N.σ o a b) K) (ra:Val B N a x) (rb:Val B N b y) (z:∀ d Y v,K d→Aft B.D N noA Y→Y.σ = N.σ→Val B Y d v→Q v Y.s):Wp B G N (binaryOp (bopOf o) x y) Q E:=by
 have tk:=fun {i} (hk:K (.int i))=>z (.int i) (N.tk (N.s.toks + 1)) (.int i N.s.toks) hk (toks_ok sm _) rfl ⟨_,rfl⟩
 have lst:oK ((asLst N.σ a).bind fun a=>(asLst N.σ b).bind fun b=>(okLen (a++b)).map V.list) K→Wp B G N (binaryOp .Add x y) Q E:=fun e =>
  lst_of sm (oK_bind e) ra fun l a e e1 ra=>lst_of sm (oK_bind e) rb fun k b e e2 rb=>have w:=if_of (oK_map e)
   e1 ▸ e2 ▸ add_list_ok sm w.1 ra rb fun Y v=>z _ Y v w.2
 cases o with
 | add=>cases a with
  | int i =>
   obtain ⟨t,rfl⟩:=ra
   obtain ⟨j,t',rfl,rfl,e⟩:=asInt_of (oK_map e) rb
   exact add_int (tk e)
  | tup l =>
   obtain ⟨k,rfl,e⟩:=asTup_of (oK_bind e)
   obtain ⟨hz,e⟩:=if_of (oK_map e)
   exact add_tup_ok sm hz ra rb fun Y v=>z _ Y v e
  | list l=>exact lst e
  | loc l=>exact lst e
  | _=>exact False.elim e
 | sub =>
  obtain ⟨i,t,rfl,rfl,e⟩:=asInt_of (oK_bind e) ra
  obtain ⟨j,t',rfl,rfl,e⟩:=asInt_of (oK_map e) rb
  exact sub_int (tk e)
 | mul =>
  obtain ⟨i,t,rfl,rfl,e⟩:=asInt_of (oK_bind e) ra
  obtain ⟨j,t',rfl,rfl,e⟩:=asInt_of (oK_bind e) rb
  obtain ⟨hb,e⟩:=if_of e
  exact mul_int (tk e) (IntMulOk.of_left (intBits_le_64 (by (first | lia | omega)) (by (first | lia | omega))))
 | mod =>
  obtain ⟨i,t,rfl,rfl,e⟩:=asInt_of (oK_bind e) ra
  obtain ⟨j,t',rfl,rfl,e⟩:=asInt_of (oK_bind e) rb
  obtain ⟨hb,e⟩:=if_of e
  refine mod_int (Int.ne_of_gt hb) ?_
  rw [Int.fmod_eq_emod_of_nonneg i (Int.le_of_lt hb)]
  exact tk e
 | band =>
  obtain ⟨i,t,rfl,rfl,e⟩:=asInt_of (oK_bind e) ra
  obtain ⟨j,t',rfl,rfl,e⟩:=asInt_of (oK_bind e) rb
  obtain ⟨hb,e⟩:=if_of e
  exact and_int (band_eq hb.1 hb.2 ▸ tk e)
 | div =>
  obtain ⟨i,t,rfl,rfl,e⟩:=asInt_of (oK_bind e) ra
  obtain ⟨j,t',rfl,rfl,e⟩:=asInt_of (oK_bind e) rb
  obtain ⟨hb,e⟩:=if_of e
  refine floordiv_int (Int.ne_of_gt hb.1) ?_ (.inl (PyProof.noPylong_small (by (first | lia | omega))))
  rw [Int.fdiv_eq_ediv_of_nonneg i (Int.le_of_lt hb.1)]
  exact tk e
 | shr =>
  obtain ⟨i,t,rfl,rfl,e⟩:=asInt_of (oK_bind e) ra
  obtain ⟨j,t',rfl,rfl,e⟩:=asInt_of (oK_bind e) rb
  obtain ⟨hb,e⟩:=if_of e
  exact rshift_int hb (tk e)
theorem te_bin {o:Bop} {x y:X} {l r:PE} {p:Pos} (h1:TE B u c x (fun env=>eval l env)) (h2:TE B u c y (fun env=>eval r env)):TE B u c (.bin o x y) (fun env=>eval (.BinOp l (bopOf o) r p) env):=fun G N Q E K H q z =>
 wpAny_BinOp (two h1 h2 H q fun a b Y v w k1 a1 r1 r2=>bin_ok (G:=G) a1.sm k1 r1 r2 fun d Z v k2 a es r=>z d Z v (es ▸ k2) (a1.trans a) r)
end
end Mine.Internal
namespace Mine.Internal
open PySem PySem.W PyProof.Rows
structure Gt where
 fns:List (Str × Nat)
 clss:List (Str × Nat)
 consts:List (Str × Nat)
 flds:List Str
 mths:List Str
structure ClsOk (K:Frag) (C:Addr):Prop where
 ga:findIn K (.ref C) "__getattribute__" = some (some (.builtin "object.__getattribute__"))
 gA:findIn K (.ref C) "__getattr__" = some none
 sa:findIn K (.ref C) "__setattr__" = some (some (.builtin "object.__setattr__"))
 po:plainOver K C = true
 hd:(clsIn K C).any (·.hasDict) = true
 ci:(clsIn K C).isSome = true
 mkc:makesIn K C = true
 kp:keepIn K (.ref C) = true
noncomputable def fldInO (K:Frag):Option (Option Value)→Bool
 | some none=>true
 | some (some a)=>takesIn K a == some false && (specialIn K a "__get__").isSome
 | none=>false
noncomputable def fldIn (K:Frag) (C:Addr) (x:Str):Bool:=fldInO K (findIn K (.ref C) x)
theorem fldIn_find {K:Frag} {C:Addr} {x:Str} {od:Option Obj} {cd:ClassData} {v:Value} (h:fldIn K C x = true) (hc:clsIn K C = some cd) (ho:PySem.W.ownOf cd od x = some (some v)):findObj K C od x = some (.value v):=by
 show (clsIn K C).bind _ = _
 rw [hc]
 show (findIn K (.ref C) x).bind _ = _
 have h:fldInO K (findIn K (.ref C) x) = true:=h
 cases e:findIn K (.ref C) x with
 | none=>rw [e] at h; cases h
 | some o=>cases o with
  | none =>
   show (PySem.W.ownOf cd od x).bind _ = _
   rw [ho]; rfl
  | some a =>
   rw [e] at h
   have h:(takesIn K a == some false && (specialIn K a "__get__").isSome) = true:=h
   obtain ⟨gt,hg⟩:=Option.isSome_iff_exists.mp (Bool.and_eq_true_iff.mp h).2
   show (specialIn K a "__get__").bind _ = _
   rw [hg]
   cases gt with
   | none =>
    show (PySem.W.ownOf cd od x).bind _ = _
    rw [ho]; rfl
   | some g =>
    show (takesIn K a).bind _ = _
    rw [beq_iff_eq.mp (Bool.and_eq_true_iff.mp h).1]
    show (PySem.W.ownOf cd od x).bind _ = _
    rw [ho]; rfl
structure Facts (B:Bd) (g:Gt):Prop where
 X:B.D.K.In B.D.base
 lim:B.D.base.NoLimit
 fn:∀ x i,g.fns.lookup x = some i→nsIn B.D.K mainGlobals x = some (some (.ref (B.D.fa i)))
 fk:∀ i,(B.P.fn i).isSome = true→keepIn B.D.K (.ref (B.D.fa i)) = true
 cl:∀ x i,g.clss.lookup x = some i→nsIn B.D.K mainGlobals x = some (some (.ref (B.D.ca i)))∧i < B.D.nc
 ck:∀ i,i < B.D.nc→ClsOk B.D.K (B.D.ca i)
 fl:∀ x,x∈g.flds→∀ i,i < B.D.nc→fldIn B.D.K (B.D.ca i) x = true
 mt:∀ x,x∈g.mths→∀ i f,B.P.meth i (encS x) = some f→i < B.D.nc∧findIn B.D.K (.ref (B.D.ca i)) x = some (some (.ref (B.D.fa f)))∧typeIn B.D.K (.ref (B.D.fa f)) = some (.type "function")∧(B.P.fn f).isSome = true
 ini:∀ i f,B.P.init i = some f→i < B.D.nc→findIn B.D.K (.ref (B.D.ca i)) "__init__" = some (some (.ref (B.D.fa f)))∧typeIn B.D.K (.ref (B.D.fa f)) = some (.type "function")
 co:∀ x k,g.consts.lookup x = some k→∀ d,B.P.glob k = some d→∃ v,nsIn B.D.K mainGlobals x = some (some v)∧∀ N,Sm B.D N→Val B N d v
noncomputable def TOk (B:Bd):Prop :=
 ∀ (A:Around) (N:Nx) (f:Nat) (ds:List V) (vs:List PV) (K:V→St→Prop),B.T.call f ds N.σ K→Room B.n 0 A→Sm B.D N→Vals B N ds vs→(B.P.fn f).isSome = true ∧
  ∀ (R:Result→Shared→Prop),(∀ d Y v,K d Y.σ→Aft B.D N noA Y→Val B Y d v→R (.ok (.ret v)) Y.s)→codeAny (model B.D.prog B.D.w) A (.call (.ref (B.D.fa f)) ⟨vs,[]⟩) R N.s
section
variable {B:Bd} {u:Nat} {c:Ck} {G:Ev} {N Y Z:Nx} {Q E:PV→Shared→Prop} {g:Gt}
theorem TOk.run (h:TOk B) {f:Nat} {ds:List V} {vs:List PV} {K:V→St→Prop} (e:B.T.call f ds N.σ K) (rm:Room B.n 0 G.A) (sm:Sm B.D N) (rs:Vals B N ds vs)
  (z:∀ d Y v,K d Y.σ→Aft B.D N noA Y→Val B Y d v→Q v Y.s):Wp B G N (call (.ref (B.D.fa f)) vs) Q E:=wpAny_call ((h G.A N f ds vs K e rm sm rs).2 _ z)
theorem Facts.x (F:Facts B g) (sm:Sm B.D N):B.D.K.In N.s.heap:=F.X.keeps sm.gi
theorem Room.zero {n u:Nat} {A:Around} (r:Room n u A):Room n 0 A:=⟨Nat.lt_of_le_of_lt (Nat.add_le_add_right (Nat.add_le_add_left (Nat.zero_le _) _) _) r.depth,Nat.lt_of_le_of_lt (Nat.add_le_add_left (Nat.zero_le _) _) r.units,r.hand⟩
theorem load_eq {x:Str} (H:Go B u c G N) (hx:c.sc.names.lookup x = some .globalImplicit):loadName G.env x = loadGlobal G.env x:=by
 have hx:G.env.kindOf x = some .globalImplicit:=(H.eo.kd x).trans hx
 have hb:G.env.blockKind = .function:=by delta Env.blockKind; rw [H.eo.kind]; rfl
 delta loadName
 rw [hb,hx,H.eo.kind]; rfl
theorem load_glo {x:Str} {v:PV} (H:Go B u c G N) (F:Facts B g) (hx:c.sc.names.lookup x = some .globalImplicit) (h:nsIn B.D.K mainGlobals x = some (some v)) (q:Q v N.s):Wp B G N (loadName G.env x) Q E:=by
 rw [load_eq H hx]
 delta loadGlobal
 rw [H.eo.gl]
 exact wpAny_bind ((looks_nsIn (F.x H.sm) h).here (wpAny_pure q))
theorem load_blt {x:Str} {v:PV} (H:Go B u c G N) (F:Facts B g) (hx:c.sc.names.lookup x = some .globalImplicit) (h:nsIn B.D.K mainGlobals x = some none) (h2:nsIn B.D.K builtinsNs x = some (some v)) (q:Q v N.s):Wp B G N (loadName G.env x) Q E:=by
 rw [load_eq H hx]
 delta loadGlobal
 rw [H.eo.gl,H.eo.bi]
 exact wpAny_bind ((looks_nsIn (F.x H.sm) h).here (wpAny_bind ((looks_nsIn (F.x H.sm) h2).here (wpAny_pure q))))
theorem of_not {b:Bool} (h:(!b) = true):b = false:=by cases b <;> first | rfl | exact absurd h Bool.false_ne_true
theorem plain_any {env:PEnv} {pos:Pos}:∀ (l:List PE),l.all (fun e=>!isStarred e) = true→(backTo pos (starEach l env)).any (·.1) = false
 | [],_=>rfl
 | e :: r,h=>by
  have h:=Bool.and_eq_true_iff.mp h
  rw [starEach_cons (of_not h.1)]
  exact plain_any r h.2
theorem callWith_gen {Pp:Heap→Prop} {f:PV} {first:List PV} {es:List PE} {pos:Pos} (hk:∀ h,Pp h→∃ k,(k = Keeper.frame ∨ k = Keeper.machine ∨ k = Keeper.boundFrame)∧Looks (model B.D.prog B.D.w) h (keeperOf f) k) (hs:es.all (fun e=>!isStarred e) = true)
  (h:Wp B G N (spliced (backTo pos (starEach es G.env))) (fun vs s₁=>Pp s₁.heap∧wpAny (model B.D.prog B.D.w) G.A (call f (first++vs)) Q E s₁) E):Wp B G N (callWith pos f first (backTo pos (starEach es G.env)) []) Q E:=by
 have hp:=plain_any (env:=G.env) (pos:=pos) es hs
 cases es with
 | nil =>
  refine callWith_of rfl hk ?_
  show wpAny _ G.A (spliced [] >>= _) _ E N.s
  exact wpAny_bind (wpAny_mono h (fun vs s' h'=>wpAny_holding (wpAny_bind (wpAny_pure (wpAny_bind (wpAny_pure (wpAny_pure h')))))) fun _ _ x=>x)
 | cons e r =>
  rw [starEach_cons (of_not (Bool.and_eq_true_iff.mp hs).1)] at h hp ⊢
  exact callWith_of (by rw [hp]; rfl) hk (Calls.evalArgs_plain h)
theorem callWith_any {f:PV} {first:List PV} {es:List PE} {pos:Pos} (hk:keepIn B.D.K f = true) (hs:es.all (fun e=>!isStarred e) = true)
  (h:Wp B G N (spliced (backTo pos (starEach es G.env))) (fun vs s₁=>B.D.K.In s₁.heap∧wpAny (model B.D.prog B.D.w) G.A (call f (first++vs)) Q E s₁) E):Wp B G N (callWith pos f first (backTo pos (starEach es G.env)) []) Q E :=
 callWith_gen (keeps_K hk) hs h
theorem te_call {f:Nat} {x:Str} {xs:List X} {es:List PE} {np pos:Pos} (F:Facts B g) (TO:TOk B) (h0:g.fns.lookup x = some f) (hf:(B.P.fn f).isSome = true) (h1:c.sc.names.lookup x = some .globalImplicit) (h2:(x == ("__debug__":Str)) = false)
  (hs:es.all (fun e=>!isStarred e) = true) (h3:TEs B u c xs (fun env=>spliced (backTo pos (starEach es env)))):TE B u c (.call f xs) (fun env=>eval (.Call (.Name x np) es [] pos) env):=fun G N Q E K H q z =>
 wpAny_bind (wpAny_Name (load_glo H F h1 (F.fn x f h0) (callWith_any (F.fk f hf) hs (h3 G N _ E _ H q fun ds Y vs k1 l1 a1 r1=>⟨F.x a1.sm,
  TO.run (G:=G) (N:=Y) k1 H.rm.zero a1.sm r1 fun d Y2 v k2 a2 r2=>z d Y2 v k2 (a1.trans a2) r2⟩))) h2)
theorem te_glob {k:Nat} {x:Str} {p:Pos} (F:Facts B g) (h0:g.consts.lookup x = some k) (h1:c.sc.names.lookup x = some .globalImplicit) (h2:(x == ("__debug__":Str)) = false):TE B u c (.glob k) (fun env=>eval (.Name x p) env):=fun G N Q E K H q z =>
 oK_of q fun d e k1=>(F.co x k h0 d e).elim fun v w=>wpAny_Name (load_glo H F h1 w.1 (z d N v k1 H.refl (w.2 N H.sm))) h2
structure Ins (B:Bd) (N:Nx) (p:Addr × Addr) (k:Nat) (fs:List (Nat × V)) (od:Obj) (mm:Str→Option PV):Prop where
 nc:k < B.D.nc
 at_:InstAt N.s.heap p.1 (instObj (B.D.ca k) p.2) (B.D.ca k) (some od)
 fo:FldOk B.D N mm fs
 lk:∀ x,lookIn x od = some (mm x)
theorem ins_at {p:Addr × Addr} {k:Nat} {fs:List (Nat × V)} (r:OR B.D N p (.inst k fs)):∃ od mm,Ins B N p k fs od mm:=by
 obtain ⟨⟨nc,e⟩,ne,mm,nl,n1,f,_⟩:=r
 obtain ⟨od,es,ep,ho,hd,hk,hl⟩:=n1.ns
 have lk:∀ x,lookIn x od = some (mm x):=fun x=>by
  delta lookIn
  rw [hd]
  dsimp only
  have nr:es.toList.any (·.refKey) = false:=by
   rw [List.any_eq_false]
   intro d hd
   obtain ⟨y,t,ek⟩:=hk d (Array.mem_toList_iff.mp hd)
   delta DictEntry.refKey
   rw [ek]; exact Bool.false_ne_true
  have hx:=hl x
  unfold nsFind findBy at hx
  rw [← Array.find?_toList] at hx
  cases e1:es.toList.find? (fun d=>d.key.isStr x) with
  | some d=>rw [e1] at hx; exact congrArg some hx
  | none=>rw [e1] at hx; dsimp only; rw [nr]; exact congrArg some hx
 exact ⟨od,mm,nc,⟨e,rfl,rfl,ho⟩,f,lk⟩
noncomputable def argsN (e:PE):Nat:=if h:e.ctorIdx = 16 then PySem.Expr.Call.elim (motive_1:=fun _=>Nat) e h (fun _ es ks _=>es.length + ks.length) else 1
noncomputable def plainBase (e:PE):Bool:=!(argsN e == 0)
theorem attributeBase_plain {o:PE} {attr:Str} {env:PEnv} {whole:Sem PV} (h:plainBase o = true):attributeBase o attr env whole = whole:=by
 cases o with
 | Call f a k p=>cases f with
  | Name id q=>cases a with
   | nil=>cases k with
    | nil=>cases h
    | cons=>rfl
   | cons=>rfl
  | _=>rfl
 | _=>rfl
theorem inst_of {v:V} {x:PV} {f:Option SObj→Prop} (sm:Sm B.D N) (r:Val B N v x) {k:Nat} (e:v = .loc k) (h:f N.σ[k]?) (hf:∀ o,f o→∃ cc fs,o = some (.inst cc fs)) :
  ∃ p cc fs od mm,x = .ref p.1∧Ins B N p cc fs od mm∧f (some (.inst cc fs)):=by
 subst e
 obtain ⟨p,rfl,hp⟩:=r
 obtain ⟨cc,fs,e⟩:=hf _ h
 obtain ⟨od,mm,I⟩:=ins_at (sm.obj k _ p e hp)
 exact ⟨p,cc,fs,od,mm,rfl,I,e ▸ h⟩
theorem handed_val {d:V} {v:PV} (rv:Val B N d v):handedIn v = true:=by
 cases d with
 | none=>cases (rv:v = _); rfl
 | bool=>cases (rv:v = _); rfl
 | int=>obtain ⟨t,rfl⟩:=rv; rfl
 | str=>obtain ⟨y,t,rfl,_⟩:=rv; rfl
 | loc=>obtain ⟨y,rfl,_⟩:=rv; rfl
 | _=>obtain ⟨y,t,rfl,_⟩:=rv; rfl
theorem get_field {p:Addr × Addr} {k f:Nat} {fs:List (Nat × V)} {x:Str} {od:Obj} {mm:Str→Option PV} {K:V→Prop} (F:Facts B g) (sm:Sm B.D N) (hx:x∈g.flds) (ho:strOk x = true) (he:encS x = f)
  (I:Ins B N p k fs od mm) (e:oK (getA fs f) K) (z:∀ d v t,K d→Val B N d v→Q v (N.tk t).s):Wp B G N (getAttr (.ref p.1) x true) Q E:=by
 have C:=F.ck k I.nc
 have fx:=I.fo x ho
 rw [he] at fx
 refine oK_of e fun d e1 hk=>?_
 rw [e1] at fx
 obtain ⟨v,e2,rv⟩:=fx
 refine get_value (F.x sm) I.at_ C.ga ?_ (handed_val (B:=B) rv) (z d v _ hk rv)
 obtain ⟨cd,hcd⟩:=Option.isSome_iff_exists.mp C.ci
 have hdi:cd.hasDict = true:=by have:=C.hd; rw [hcd] at this; exact this
 refine fldIn_find (F.fl x hx k I.nc) hcd ?_
 show (if cd.hasDict = true then _ else _) = _
 rw [if_pos hdi]
 show lookIn x od = _
 rw [I.lk,e2]
theorem te_attr {y:X} {e:PE} {x:Str} {f:Nat} {pos:Pos} (F:Facts B g) (hb:plainBase e = true) (hx:x∈g.flds) (ho:strOk x = true) (he:encS x = f)
  (h1:TE B u c y (fun env=>eval e env)):TE B u c (.attr y f) (fun env=>eval (.Attribute e x pos) env):=fun G N Q E K H q z=>by
 have hb':eval (.Attribute e x pos) G.env = (do
   let o ← eval e G.env
   standAt pos.atName
   let r ← holding [o] (getAttr o x true)
   letTemporaryGo e o r
   pure r):=by rw [arm_eval_Attribute,attributeBase_plain hb]
 refine Attribute_any_ (h1 G N _ E _ H q fun d Y v k1 a r=>?_) hb'
 cases d with
 | loc k =>
  obtain ⟨p,cc,fs,od,mm,rfl,I,k2⟩:=inst_of (f:=fun o=>oK (fldO f o) fun w=>K w Y.σ) a.sm r rfl k1 fun o h=>by
   cases o with
   | none=>exact False.elim h
   | some o=>cases o <;> first | exact ⟨_,_,rfl⟩ | exact False.elim h
  exact get_field (G:=G) F a.sm hx ho he I k2 fun d v t k3 rv=>z d (Y.tk t) v k3 (a.trans (toks_ok a.sm t)) (Val.on (toks_ok a.sm t) rv)
 | _=>exact False.elim k1
theorem plain_all {env:PEnv} {pos:Pos}:∀ (l:List PE),l.all (fun e=>!isStarred e) = true→(backTo pos (starEach l env)).all (fun x=>!x.1) = true
 | [],_=>rfl
 | e :: r,h=>by
  have h:=Bool.and_eq_true_iff.mp h
  rw [starEach_cons (of_not h.1)]
  exact plain_all r h.2
theorem eval_methB {o:PE} {x:Str} {apos pos:Pos} {es:List PE} {env:PEnv} (hl:(apos.endLine == pos.line) = true) (hn:es.length < 29) (hs:es.all (fun e=>!isStarred e) = true) :
  eval (.Call (.Attribute o x apos) es [] pos) env = (do
   let ov ← attributeBase o x env (eval o env)
   standAt apos.atName
   let (f,first) ← holding [ov] (getMethod ov x (do return (← importBound o env).getD true))
   callWith pos f first (backTo pos (starEach es env)) []):=by
 rw [arm_eval_Call]
 have few:methodCallForm (es.length + ([]:List Keyword).length) (backTo pos (starEach es env)) (backToKw pos (keywordEach [] env)) = true:=by
  delta methodCallForm
  rw [plain_all es hs]
  show (true && true && decide (es.length + 0 + 0 < 30)) = true
  exact decide_eq_true (Nat.lt_succ_of_lt hn)
 delta methodCall
 rw [few]
 have e:∀ o env,methodCallPos true o env apos pos = pure pos:=fun o env=>if_pos (by rw [hl]; rfl)
 refine bind_congr fun ov=>bind_congr fun _=>bind_congr fun p=>?_
 rw [e]; rfl
theorem eval_method {o:PE} {x:Str} {apos pos:Pos} {es:List PE} {env:PEnv} (hb:plainBase o = true) (hl:(apos.endLine == pos.line) = true) (hn:es.length < 29) (hs:es.all (fun e=>!isStarred e) = true) :
  eval (.Call (.Attribute o x apos) es [] pos) env = (do
   let ov ← eval o env
   standAt apos.atName
   let (f,first) ← holding [ov] (getMethod ov x (do return (← importBound o env).getD true))
   callWith pos f first (backTo pos (starEach es env)) []):=by rw [eval_methB hl hn hs,attributeBase_plain hb]
theorem get_meth {p:Addr × Addr} {k f fn:Nat} {fs:List (Nat × V)} {x:Str} {od:Obj} {mm:Str→Option PV} {pl:Sem Bool} {Q:PV × List PV→Shared→Prop} (F:Facts B g) (sm:Sm B.D N) (hx:x∈g.mths) (ho:strOk x = true) (he:encS x = f)
  (I:Ins B N p k fs od mm) (e:getA fs f = none) (e2:B.P.meth k f = some fn) (z:Q (.ref (B.D.fa fn),[.ref p.1]) N.s):wpAny (model B.D.prog B.D.w) G.A (getMethod (.ref p.1) x pl) Q E N.s:=by
 have C:=F.ck k I.nc
 obtain ⟨_,m1,m2,m3⟩:=F.mt x hx k fn (he ▸ e2)
 have fx:=I.fo x ho
 rw [he,e] at fx
 exact method_fn (F.x sm) I.at_ C.ga C.gA m1 m2 (by rw [shadowIn,I.lk,fx]; rfl) z
theorem te_meth {y:X} {o:PE} {x:Str} {xs:List X} {es:List PE} {f:Nat} {apos pos:Pos} (F:Facts B g) (TO:TOk B) (hb:plainBase o = true) (hl:(apos.endLine == pos.line) = true) (hn:es.length < 29)
  (hs:es.all (fun e=>!isStarred e) = true) (hx:x∈g.mths) (ho:strOk x = true) (he:encS x = f) (h1:TE B u c y (fun env=>eval o env)) (h2:TEs B u c xs (fun env=>spliced (backTo pos (starEach es env)))) :
  TE B u c (.meth y f xs) (fun env=>eval (.Call (.Attribute o x apos) es [] pos) env):=fun G N Q E K H q z=>by
 show wpAny _ _ (eval (.Call (.Attribute o x apos) es [] pos) G.env) _ _ _
 rw [eval_method hb hl hn hs]
 refine wpAny_bind (h1 G N _ E _ H q fun d Y v k1 a r=>?_)
 have r0:=r
 cases d with
 | loc k =>
  obtain ⟨p,cc,fs,od,mm,rfl,I,k2⟩:=inst_of (f:=fun o=>oK (methO B.P k f o) fun kf=>kEs B.P B.T xs G.ρ Y.σ fun l σ=>B.T.call kf.2 (.loc kf.1 :: l) σ K) a.sm r rfl k1 fun o h=>by
   cases o with
   | none=>exact False.elim h
   | some o=>cases o <;> first | exact ⟨_,_,rfl⟩ | exact False.elim h
  cases e:getA fs f with
  | some w=>rw [methO,e] at k2; exact False.elim k2
  | none =>
   rw [methO,e] at k2
   refine oK_of (oK_map k2) fun fn e2 k3=>?_
   refine wpAny_bind (wpAny_standAt (wpAny_bind (wpAny_holding (get_meth (G:=G) F a.sm hx ho he I e e2 ?_))))
   exact callWith_any (G:=G) (F.fk fn (F.mt x hx cc fn (he ▸ e2)).2.2.2) hs (h2 G Y _ E _ (H.to a) k3 fun ds Y2 vs k4 l2 a2 r2 =>
    have b:=a.trans a2
    ⟨F.x b.sm,TO.run (G:=G) (N:=Y2) (ds:=.loc k :: ds) k4 H.rm.zero b.sm ⟨_,_,rfl,Val.on a2 r0,r2⟩ fun d3 Y3 v3 k5 a3 r3=>z d3 Y3 v3 k5 (b.trans a3) r3⟩)
 | _=>exact False.elim k1
end
end Mine.Internal
namespace Mine.Internal
open PySem PySem.W PyProof.Rows
section
variable {B:Bd} {u:Nat} {c:Ck} {G:Ev} {N Y Z:Nx} {Q E:PV→Shared→Prop} {g:Gt}
theorem stored_ne {k x:Str} {v w:PV} {t:List (Str × PV)} (h:x ≠ k):stored ((x,w) :: t) k v = (x,w) :: stored t k v:=by
 delta stored
 have hx:decide (x = k) = false:=decide_eq_false h
 simp only [List.any_cons,hx,Bool.false_or]
 split
 ·rw [List.map_cons,if_neg h]
 ·rfl
theorem stored_eq {k:Str} {v w:PV} {t:List (Str × PV)} (h:k ∉ t.map (·.1)):stored ((k,w) :: t) k v = (k,v) :: t:=by
 delta stored
 simp only [List.any_cons,decide_true,Bool.true_or,if_true,List.map_cons]
 exact congrArg _ ((List.map_congr_left (g:=id) fun p hp=>if_neg fun e=>h (List.mem_map.mpr ⟨p,hp,e⟩)).trans (List.map_id _))
theorem RVd_set {D:Wd} {z:Str} (hz:strOk z = true) {v:PV} {d:V} (rv:RV D N d v):∀ {l:List (V × V)} {kvs:List (Str × PV)},RVd D N l kvs→(kvs.map (·.1)).Nodup→RVd D N (dset (.str (encS z)) d l) (stored kvs z v)
 | [],kvs,r,_=>by cases (r:kvs = []); exact ⟨z,v,[],rfl,⟨rfl,hz⟩,rv,rfl⟩
 | (k,e) :: l,kvs,r,nd=>by
  obtain ⟨x,w,t,rfl,⟨rfl,hx⟩,r1,r2⟩:=r
  have nd:=List.nodup_cons.mp nd
  by_cases e:x = z
  ·subst e
   rw [show dset (.str (encS x)) d ((.str (encS x),_) :: l) = _ from if_pos (decide_eq_true rfl),stored_eq nd.1]
   exact ⟨x,v,t,rfl,⟨rfl,hx⟩,rv,r2⟩
  ·rw [show dset (.str (encS z)) d ((.str (encS x),_) :: l) = _ from if_neg fun q=>e (encS_inj hx hz (of_decide_eq_true q)),stored_ne e]
   exact ⟨x,w,_,rfl,⟨rfl,hx⟩,r1,RVd_set hz rv r2 nd.2⟩
theorem stored_nodup {k:Str} {v:PV}:∀ {kvs:List (Str × PV)},(kvs.map (·.1)).Nodup→((stored kvs k v).map (·.1)).Nodup:=fun {kvs} nd=>by
 by_cases h:kvs.any (fun p=>decide (p.1 = k)) = true
 ·delta stored
  rw [if_pos h,List.map_map,List.map_congr_left (g:=(·.1)) fun p _=>by show (if p.1 = k then (p.1,v) else p).1 = p.1; split <;> rfl]
  exact nd
 ·delta stored
  rw [if_neg h,List.map_append,List.nodup_append]
  refine ⟨nd,List.nodup_cons.mpr ⟨List.not_mem_nil,List.nodup_nil⟩,fun a ha b hb e=>?_⟩
  obtain ⟨p,hp,e2⟩:=List.mem_map.mp ha
  exact h (List.any_eq_true.mpr ⟨p,hp,decide_eq_true (e2.trans (e.trans (List.mem_singleton.mp hb)))⟩)
inductive Kv (B:Bd) (u:Nat) (c:Ck):List X→List (Option PE)→List PE→Prop
 | nil:Kv B u c [] [] []
 | cons {x y:X} {xs:List X} {k v:PE} {ks:List (Option PE)} {vs:List PE}:TE B u c x (fun env=>eval k env)→TE B u c y (fun env=>eval v env)→Kv B u c xs ks vs→Kv B u c (x :: y :: xs) (some k :: ks) (v :: vs)
theorem Kv.all {xs:List X} {ks:List (Option PE)} {vs:List PE} (h:Kv B u c xs ks vs):ks.all (·.isSome) = true∧ks.length = vs.length:=by
 induction h with
 | nil=>exact ⟨rfl,rfl⟩
 | cons _ _ _ ih=>exact ⟨ih.1,congrArg (· + 1) ih.2⟩
noncomputable def flatP:List (PV × PV)→List PV
 | []=>[]
 | (a,b) :: r=>a :: b :: flatP r
theorem pairs_all {xs:List X} {ks:List (Option PE)} {vs:List PE} (h:Kv B u c xs ks vs) (pos:Pos):∀ (G:Ev) (N:Nx) (Q:List (PV × PV)→Shared→Prop) (E:PV→Shared→Prop) (K:List V→St→Prop),Go B u c G N→kXs B G N xs K →
  (∀ ds Y l,K ds Y.σ→Aft B.D N noA Y→Vals B Y ds (flatP l)→Q l Y.s)→Wp B G N (evalPairs (pairTrees ks vs G.env pos)) Q E:=by
 induction h with
 | nil=>exact fun G N Q E K H q z=>evalPairs_nil (z [] N [] q H.refl rfl)
 | cons h1 h2 _ ih=>exact fun G N Q E K H q z=>evalPairs_cons (h1 G N _ E _ H q fun d1 Y1 v1 k1 a1 r1=>wpAny_bind (h2 G Y1 _ E _ (H.to a1) k1 fun d2 Y2 v2 k2 a2 r2=>wpAny_bind (wpAny_standAt (wpAny_pure
   (ih G Y2 _ E _ (H.to (a1.trans a2)) k2 fun ds Y3 l k3 a3 r3=>z _ Y3 ((v1,v2) :: l) k3 ((a1.trans a2).trans a3) ⟨_,_,rfl,Val.on (a2.trans a3) r1,_,_,rfl,Val.on a3 r2,r3⟩)))))
theorem pairs_carry {K:List (V × V)→Prop}:∀ {ds:List V} {l:List (PV × PV)} {acc:List (V × V)} {kvs:List (Str × PV)},oK (pairUp ds acc) K→Vals B N ds (flatP l)→RVd B.D N acc kvs→(kvs.map (·.1)).Nodup →
  ∃ dd k2,K dd∧Carries (SK B.D) l k2∧RVd B.D N dd (merged kvs k2)
 | [],[],acc,kvs,e,r,ra,nd=>⟨acc,[],e,trivial,ra⟩
 | [],_ :: _,acc,kvs,e,r,ra,nd=>nomatch (show _ :: _ = [] from r)
 | [_],l,acc,kvs,e,r,ra,nd=>False.elim e
 | k :: v :: ds,[],acc,kvs,e,r,ra,nd=>by obtain ⟨v,t,e,_⟩:=r; cases e
 | k :: v :: ds,(a,b) :: t,acc,kvs,e,r,ra,nd=>by
  obtain ⟨hk,e⟩:=if_of (show oK (if keyOk k then pairUp ds (dset k v acc) else none) K from e)
  obtain ⟨_,_,e1,r1,_,_,e2,r2,r3⟩:=r
  cases e1
  cases e2
  obtain ⟨z,tk,rfl,hz,rfl,is⟩:=key_of hk r1
  obtain ⟨dd,k2,h,c2,r4⟩:=pairs_carry e r3 (RVd_set hz r2 ra nd) (stored_nodup nd)
  exact ⟨dd,(z,b) :: k2,h,⟨is,rfl,c2⟩,r4⟩
noncomputable def dictObj:Obj:={ cls:=.type "dict",data:=.dict #[] }
theorem tf_dict {xs:List X} {ks:List (Option PE)} {vs:List PE} {pos:Pos} (h:Kv B u c xs ks vs) (hl:ks.length≤15):TF B u c (.dict xs) (fun env=>eval (.Dict ks vs pos) env):=fun G N Q E K H q z=>by
 obtain ⟨a,p⟩:=push_ok H.sm (o:=dictObj) rfl
 have dn:IsDc B.D (N.s.heap.push dictObj) N.s.heap.objs.size []:=⟨H.sm.one,Heap.DictOf.new N.s.heap⟩
 cases h with
 | nil=>exact wpAny_Dict_empty (z (.dict []) (N.psh _) _ q a no_new p ⟨[],dn,rfl⟩)
 | @cons x y xs k v ks vs h1 h2 h3 =>
  have hk:=(Kv.cons h1 h2 h3).all
  refine wpAny_Dict_walk (knd:=SK B.D) hk.1 hk.2 (by simp) (by (first | lia | omega)) (pairs_all (.cons h1 h2 h3) pos G (N.psh dictObj) _ E _ (H.to a) q fun ds Y l k1 a1 r1=>?_)
  obtain ⟨dd,k2,hK,c2,r2⟩:=pairs_carry (kvs:=[]) k1 r1 rfl List.nodup_nil
  refine ⟨k2,c2,dn.2.at (fun o e=>a1.old p.nc e),fun h' dh sb=>?_⟩
  have t:=Aft.turn1 (t:=Y.s.toks + l.length) a1.sm (p.go a1) (fun c o n e=>sb.extBut c o n e) (dh.elim fun o q=>q.elim fun _ q=>q.elim fun _ q=>⟨o,q.1⟩)
  exact z (.dict dd) (Y.at _) _ hK (((a.trans a1).up.trans t).hide fun b e=>by rw [e]; exact no_new) no_new ((p.go a1).go t) ⟨_,⟨H.sm.one,dh⟩,RVd_le t.le _ _ r2⟩
theorem beq_none {r:V} (h:V.beq r .none = true):r = .none:=by cases r <;> first | rfl | exact absurd h Bool.false_ne_true
noncomputable def newH (h:Heap) (C:Addr):Heap:=(h.push emptyDict).push (instObj C h.objs.size)
noncomputable def newP (h:Heap):Addr × Addr:=(h.objs.size + 1,h.objs.size)
theorem new_obj {k:Nat} (m:Sm B.D N) (hk:k < B.D.nc):Aft B.D N noA ((N.at { N.s with heap:=newH N.s.heap (B.D.ca k) }).lo (newP N.s.heap) (.inst k [])):=by
 have w:=(More.refl N).push emptyDict
 have w2:=w.push (instObj (B.D.ca k) N.s.heap.objs.size)
 have e0:(N.s.heap.push emptyDict).get? N.s.heap.objs.size = some emptyDict:=push_at rfl
 have e1:(newH N.s.heap (B.D.ca k)).get? (N.s.heap.objs.size + 1) = some (instObj (B.D.ca k) N.s.heap.objs.size):=by
  have:=Heap.get?_push_size (N.s.heap.push emptyDict) (o:=instObj (B.D.ca k) N.s.heap.objs.size) rfl
  rw [Heap.size_push] at this
  exact this
 have n1:¬ N.has (N.s.heap.objs.size + 1):=fun h=>absurd (has_lt h) (Nat.not_lt.mpr (Nat.le_succ _))
 exact (w2.aft m).lo (w2.pv m n1 e1) (w2.pv m no_new (Heap.get?_push_of_some _ e0)) ⟨n1,no_new⟩ (base_none m no_new)
  ⟨⟨hk,e1⟩,Nat.succ_ne_self _,fun _=>none,[],(Heap.Ns1.of_empty (Heap.Ns.new N.s.heap (.type "dict"))).at fun o e=>Heap.get?_push_of_some _ e,fun x _=>rfl,Within.nil,Nat.le_refl _⟩
theorem te_new {k:Nat} {x:Str} {xs:List X} {es:List PE} {np pos:Pos} (F:Facts B g) (TO:TOk B) (hu:40≤u) (h0:g.clss.lookup x = some k) (h1:c.sc.names.lookup x = some .globalImplicit) (h2:(x == ("__debug__":Str)) = false)
  (hs:es.all (fun e=>!isStarred e) = true) (h3:TEs B u c xs (fun env=>spliced (backTo pos (starEach es env)))):TE B u c (.new k xs) (fun env=>eval (.Call (.Name x np) es [] pos) env):=fun G N Q E K H q z=>by
 obtain ⟨hcl,hk⟩:=F.cl x k h0
 have C:=F.ck k hk
 refine wpAny_bind (wpAny_Name (load_glo H F h1 hcl (callWith_any C.kp hs (h3 G N _ E _ H q fun ds Y vs k1 l1 a r=>⟨F.x a.sm,?_⟩))) h2)
 refine oK_of k1 fun f hf k2=>?_
 obtain ⟨i1,i2⟩:=F.ini k f hf hk
 refine wpAny_call (make_core (makes_of (F.x a.sm) C.mkc) (looks_findIn (F.x a.sm) i1) (fun self=>bind_fn (F.x a.sm) self i2) (.inl rfl) ?_)
 have af:=new_obj (k:=k) a.sm hk
 have rl:Val B ((Y.at { Y.s with heap:=newH Y.s.heap (B.D.ca k) }).lo (newP Y.s.heap) (.inst k [])) (.loc Y.σ.length) (.ref (Y.s.heap.objs.size + 1)):=⟨newP Y.s.heap,rfl,by rw [← a.sm.len]; exact at_end⟩
 have h1:=H.rm.depth
 have h2:=H.rm.units
 refine (TO (G.A.under (.builtin "type.__call__" ⟨.ref (B.D.ca k) :: ([]++vs),[]⟩)) _ f (.loc Y.σ.length :: ds) (.ref (Y.s.heap.objs.size + 1) :: vs) _ k2
  ⟨by show G.A.depth + 1 + 5 * B.n + 0 + 2 < recursionLimit; (first | lia | omega),by show G.A.units + 1 + 100 * B.n + 0 < cLine; (first | lia | omega),H.rm.hand⟩ af.sm ⟨_,_,rfl,rl,Vals.on af r⟩).2 _ fun d Y3 v3 k3 a3 r3=>?_
 obtain ⟨hn,k4⟩:=bK_of k3
 cases beq_none hn
 exact ⟨r3,z (.loc Y.σ.length) Y3 _ k4 ((a.trans af).trans a3) (Val.on a3 rl)⟩
end
end Mine.Internal
namespace Mine.Internal
open PySem PySem.W PyProof.Rows PySem.Calls
structure BiOk (D:Wd) (c:Ck) (x:Str) (v:PV):Prop where
 g:nsIn D.K mainGlobals x = some none
 b:nsIn D.K builtinsNs x = some (some v)
 k:c.sc.names.lookup x = some .globalImplicit
 d:(x == ("__debug__":Str)) = false
noncomputable def isBi:PV→Bool
 | .builtin _=>true
 | .type _=>true
 | _=>false
section
variable {B:Bd} {u:Nat} {c:Ck} {G:Ev} {N Y Z:Nx} {Q E:PV→Shared→Prop} {g:Gt}
theorem callWith_bi {f:PV} {first:List PV} {es:List PE} {pos:Pos} (hk:isBi f = true) (hs:es.all (fun e=>!isStarred e) = true)
  (h:Wp B G N (spliced (backTo pos (starEach es G.env))) (fun vs s₁=>wpAny (model B.D.prog B.D.w) G.A (call f (first++vs)) Q E s₁) E):Wp B G N (callWith pos f first (backTo pos (starEach es G.env)) []) Q E:=by
 have args:wpAny (model B.D.prog B.D.w) G.A (evalArgs f true (backTo pos (starEach es G.env)) []) (fun a s₁=>wpAny (model B.D.prog B.D.w) G.A (call f (first++a.pos) a.kw) Q E s₁) E N.s:=by
  cases es with
  | nil =>
   show wpAny _ G.A (spliced [] >>= _) _ E N.s
   exact wpAny_bind (wpAny_mono h (fun vs s' h'=>wpAny_holding (wpAny_bind (wpAny_pure (wpAny_bind (wpAny_pure (wpAny_pure h')))))) fun _ _ x=>x)
  | cons e r =>
   rw [starEach_cons (of_not (and_l hs))] at h ⊢
   exact Calls.evalArgs_plain h
 cases f with
 | builtin id=>exact Calls.callWith_builtin (plain_any es hs) args
 | type t=>exact PySem.callWith_type (plain_any es hs) args
 | _=>exact absurd hk Bool.false_ne_true
theorem call_name {x:Str} {v:PV} {xs:List X} {es:List PE} {np pos:Pos} {K:List V→St→Prop} (F:Facts B g) (BB:BiOk B.D c x v) (hv:isBi v = true) (hs:es.all (fun e=>!isStarred e) = true) (h3:TEs B u c xs (fun env=>spliced (backTo pos (starEach es env))))
  (H:Go B u c G N) (q:kXs B G N xs K) (z:∀ ds Y vs,K ds Y.σ→Aft B.D N noA Y→Vals B Y ds vs→wpAny (model B.D.prog B.D.w) G.A (call v vs) Q E Y.s):Wp B G N (eval (.Call (.Name x np) es [] pos) G.env) Q E :=
 wpAny_bind (wpAny_Name (load_blt H F BB.k BB.g BB.b (callWith_bi hv hs (h3 G N _ E _ H q fun ds Y vs k _ a r=>z ds Y vs k a r))) BB.d)
noncomputable def CallOk (B:Bd) (u:Nat) (f:PV) (b:Bi):Prop :=
 ∀ (G:Ev) (N:Nx) (ds:List V) (vs:List PV) (Q E:PV→Shared→Prop) (K:V→Prop),Room B.n u G.A→oK (biE N.σ b ds) K→Sm B.D N→Vals B N ds vs →
  (∀ d Y v,K d→Aft B.D N noA Y→Y.σ = N.σ→Val B Y d v→Q v Y.s)→Wp B G N (call f vs) Q E
noncomputable def CallF (B:Bd) (u:Nat) (f:PV) (b:Bi):Prop :=
 ∀ (G:Ev) (N:Nx) (ds:List V) (vs:List PV) (Q E:PV→Shared→Prop) (K:V→Prop),Room B.n u G.A→oK (biE N.σ b ds) K→Sm B.D N→Vals B N ds vs →
  (∀ d Y a,K d→Aft B.D N noA Y→Y.σ = N.σ→¬ N.has a→Pv Y a→RC B.D Y a d→Q (.ref a) Y.s)→Wp B G N (call f vs) Q E
theorem te_bi {b:Bi} {x:Str} {f:PV} {xs:List X} {es:List PE} {np pos:Pos} (F:Facts B g) (BB:BiOk B.D c x f) (hf:isBi f = true) (hs:es.all (fun e=>!isStarred e) = true) (h3:TEs B u c xs (fun env=>spliced (backTo pos (starEach es env)))) (hc:CallOk B u f b) :
  TE B u c (.bi b xs) (fun env=>eval (.Call (.Name x np) es [] pos) env):=fun G N Q E K H q z =>
 call_name F BB hf hs h3 H q fun ds Y vs k a r=>hc G Y ds vs Q E _ H.rm k a.sm r fun d Z v k2 a2 es r2=>z d Z v (by rw [es]; exact k2) (a.trans a2) r2
theorem tf_bi {b:Bi} {x:Str} {f:PV} {xs:List X} {es:List PE} {np pos:Pos} (F:Facts B g) (BB:BiOk B.D c x f) (hf:isBi f = true) (hs:es.all (fun e=>!isStarred e) = true) (h3:TEs B u c xs (fun env=>spliced (backTo pos (starEach es env)))) (hc:CallF B u f b) :
  TF B u c (.bi b xs) (fun env=>eval (.Call (.Name x np) es [] pos) env):=fun G N Q E K H q z =>
 call_name F BB hf hs h3 H q fun ds Y vs k a r=>hc G Y ds vs Q E _ H.rm k a.sm r fun d Z b k2 a2 es n p rc=>z d Z b (by rw [es]; exact k2) (a.trans a2) (fun h=>n (a.ex _ h)) p rc
theorem one_of {l:List V} {f:V→Option V} {K:V→Prop} (h:oK (one l f) K):∃ v,l = [v]∧oK (f v) K:=match l,h with
 | [v],h=>⟨v,rfl,h⟩
theorem Vals.one {d:V} {vs:List PV} (r:Vals B N [d] vs):∃ v,vs = [v]∧Val B N d v:=r.elim fun v q=>q.elim fun t q=>⟨v,q.1.trans (congrArg (v :: ·) q.2.2),q.2.1⟩
theorem uno {f:V→Option V} {ds:List V} {vs:List PV} {K:V→Prop} {Z:Prop} (e:oK (one ds f) K) (r:Vals B N ds vs) (z:∀ d v,vs = [v]→oK (f d) K→Val B N d v→Z):Z :=
 (one_of e).elim fun d q=>(Vals.one (N:=N) (d:=d) (by rw [← q.1]; exact r)).elim fun v w=>z d v w.1 q.2 w.2
theorem len_eq {l:List V} {vs:Array PV} (rs:Vals B N l vs.toList):vs.size = l.length:=Array.length_toList.symm.trans (RVs_length rs)
theorem RVd_length {D:Wd} {d:List (V × V)}:∀ {v:List (Str × PV)},RVd D N d v→v.length = d.length:=by
 induction d with
 | nil=>exact fun r=>congrArg List.length r
 | cons x l ih =>
  intro v r
  obtain ⟨n,w,t,rfl,_,_,r2⟩:=r
  exact congrArg (· + 1) (ih r2)
theorem cap_ln {n m:Nat} (e:n = m) (h:m≤capL):n≤sizeLine:=cap_line (e ▸ h)
theorem cap_63 {n m:Nat} (e:n = m) (h:m≤capL):(n:Int) < 2 ^ 63:=Int.lt_of_le_of_lt (Int.ofNat_le.mpr (Nat.le_trans (Nat.le_of_eq e) h)) (by decide)
theorem ok_int:CallOk B u (.type "int") .int:=fun G N ds vs Q E K rm e0 sm r0 z=>uno e0 r0 fun d v hv e rv=>by
 obtain ⟨i,t,rfl,rfl,e⟩:=asInt_of (oK_map e) rv
 subst hv
 exact call_int_int (z _ N _ e (.refl sm) rfl ⟨t,rfl⟩)
theorem ok_max:CallOk B u (.builtin "max") .max:=fun G N ds vs Q E K rm e sm rs z=>match ds,e,rs with
 | [a,b],e,rs=>by
  obtain ⟨v,_,rfl,r1,w,_,rfl,r2,e3⟩:=rs
  cases (e3:_ = [])
  obtain ⟨i,t,rfl,rfl,e⟩:=asInt_of (B:=B) (oK_bind e) r1
  obtain ⟨j,t',rfl,rfl,e⟩:=asInt_of (B:=B) (oK_map e) r2
  have w:∃ tk,(if j > i then Value.int j t' else .int i t) = .int (if i < j then j else i) tk:=(Decidable.em (i < j)).elim (fun h=>⟨t',by rw [if_pos h,if_pos h]⟩) fun h=>⟨t,by rw [if_neg h,if_neg h]⟩
  exact max_two_ints rm.hand fun h' tk kp=>z _ (N.at { N.s with heap:=h',toks:=tk }) _ e ((⟨kp,rfl,rfl⟩:More N { N.s with heap:=h',toks:=tk }).aft sm) rfl w
theorem ok_len:CallOk B u (.builtin "len") .len:=fun G N ds vs Q E K rm e0 sm r0 z=>uno e0 r0 fun d v hv e rv=>by
 subst hv
 have fin:∀ {n m:Nat} {t:Nat},n = m→K (.int m)→Q (.int n t) { N.s with toks:=t + 1 }:=fun hn hk=>z _ (N.tk _) _ hk (toks_ok sm _) rfl ⟨_,congrArg (fun k:Nat=>Value.int k _) hn⟩
 have seq:oK (((asList N.σ d).bind okLen).map fun l=>V.int l.length) K→Wp B G N (call (.builtin "len") [v]) Q E:=fun e=>seq_of sm (oK_bind (oK_map e)) rv fun l a arr e hx t rs=>by
  subst hx
  have w:=if_of e
  have hlen:=len_eq rs
  exact t.elim (fun t=>call_len_list t (cap_63 hlen w.1) (fin hlen w.2)) fun t=>len_tuple t (cap_63 hlen w.1) (fin hlen w.2)
 cases d with
 | dict l =>
  obtain ⟨hl,e⟩:=if_of e
  obtain ⟨a,kvs,rfl,wa,t,rs⟩:=rv
  have hlen:=RVd_length rs
  exact call_len_dict (not_sys t.1) t.2 (cap_63 hlen hl) (fin hlen e)
 | _=>exact seq e
theorem cf_list:CallF B u (.type "list") .list:=fun G N ds vs Q E K rm e0 sm r0 z=>uno e0 r0 fun d v hv e rv=>seq_of sm (oK_bind (oK_map e)) rv fun l a arr e hx t rs=>by
 subst hv hx
 have w:=if_of e
 have go:∀ T o (n:Nat),(T = "list" ∨ T = "tuple")→N.s.heap.get? a = some o→o.cls = .type T→o.data = .seq arr n→Wp B G N (call (.type "list") [.ref a]) Q E:=fun T o n hT ho hc hd =>
  call_list_seq a hT ho hc hd (fun h' c' kp e1 =>
   have m:More N { N.s with heap:=h' }:=⟨kp,rfl,rfl⟩
   z _ (N.at _) _ w.2 (m.aft sm) rfl no_new (m.pv sm no_new e1) ⟨arr,⟨c',e1⟩,Vals.on (m.aft sm) rs⟩) (cap_ln (len_eq rs) w.1)
 exact t.elim (fun ⟨o,ho,hc,n,hd⟩=>go "list" o n (.inl rfl) ho hc hd) fun ⟨o,ho,hc,n,hd⟩=>go "tuple" o n (.inr rfl) ho hc hd
theorem ok_tuple:CallOk B u (.type "tuple") .tuple:=fun G N ds vs Q E K rm e0 sm r0 z=>uno e0 r0 fun d v hv e rv=>by
 subst hv
 have lst:oK (((asLst N.σ d).bind okLen).map V.tup) K→Wp B G N (call (.type "tuple") [v]) Q E:=fun e=>lst_of sm (oK_bind (oK_map e)) rv fun l a e hx rc=>by
  subst hx
  obtain ⟨arr,t,rs⟩:=rc
  have w:=if_of e
  exact call_tuple_list t.list (fun h' kp=>have m:=new_tup (N:=N) (⟨kp,rfl,rfl⟩:More N { N.s with heap:=h' }) sm rs; z _ _ _ w.2 m.1 rfl m.2) (cap_ln (len_eq rs) w.1)
 cases d with
 | tup k =>
  have w:=if_of (oK_map e)
  obtain ⟨a,arr,rfl,wa,t,rs⟩:=id rv
  exact call_tuple_same (IsTp.tup t) (z _ N _ w.2 (.refl sm) rfl rv)
 | list k=>exact lst e
 | loc k=>exact lst e
 | _=>exact False.elim e
theorem getL_of {l:List (V × V)} {a:List V} {K:V→Prop} (h:oK (getL l a) K):∃ s v,a = [.str s,v]∧K ((dget (.str s) l).getD v):=match a,h with
 | [k,v],h=>by
  have h:oK (getS l k v) K:=h
  cases k <;> first | exact ⟨_,_,rfl,h⟩ | exact False.elim h
theorem dict_typ {a:Addr} {kvs:List (Str × PV)} (t:IsDc B.D N.s.heap a kvs):N.s.TypeIs (.ref a) "dict"∧∀ b,Value.ref a = .ref b→∃ o,N.s.heap.get? b = some o∧o.dict = none :=
 ⟨t.2.typeIs,fun b e=>by cases e; obtain ⟨o,es,ep,ho,ex,_⟩:=t.2; exact ⟨o,ho,ex.2.1⟩⟩
theorem list_typ {a:Addr} {vs:Array PV} (t:IsLs N.s.heap a vs):N.s.TypeIs (.ref a) "list"∧∀ b,Value.ref a = .ref b→∃ o,N.s.heap.get? b = some o∧o.dict = none :=
 ⟨t.list.typeIs,fun b e=>by cases e; exact t.elim fun k ho=>⟨_,ho,rfl⟩⟩
theorem call_meth {o:PE} {y:X} {x:Str} {t id:String} {xs:List X} {es:List PE} {apos pos:Pos} (pa:PlainAttrs t) (slot:Slot t x id) (hty:typeOf (.builtin id) = pure (.type "method_descriptor"))
  (hb:plainBase o = true) (hl:(apos.endLine == pos.line) = true) (hn:es.length < 29) (hs:es.all (fun e=>!isStarred e) = true) (h1:TE B u c y (fun env=>eval o env)) (h3:TEs B u c xs (fun env=>spliced (backTo pos (starEach es env))))
  {J:V→St→Prop} (H:Go B u c G N) (q:kX B G N y J)
  (z:∀ d Y v,J d Y.σ→Aft B.D N noA Y→Val B Y d v→(Y.s.TypeIs v t∧∀ a,v = .ref a→∃ o,Y.s.heap.get? a = some o∧o.dict = none)∧∃ K,kXs B G Y xs K ∧
   ∀ ds Z vs,K ds Z.σ→Aft B.D Y noA Z→Vals B Z ds vs→wpAny (model B.D.prog B.D.w) G.A (call (.builtin id) (v :: vs)) Q E Z.s):Wp B G N (eval (.Call (.Attribute o x apos) es [] pos) G.env) Q E:=by
 rw [eval_method hb hl hn hs]
 exact wpAny_bind (h1 G N _ E _ H q fun d Y v k1 a r=>(z d Y v k1 a r).elim fun w q=>q.elim fun K q =>
  wpAny_bind (wpAny_standAt (wpAny_bind (wpAny_holding (getMethod_builtin w.1 pa slot hty w.2 (callWith_bi (G:=G) (N:=Y) (first:=[v]) rfl hs (h3 G Y _ E _ (H.to a) q.1 fun ds Z vs k2 _ a2 r2=>q.2 ds Z vs k2 a2 r2)))))))
end
end Mine.Internal
namespace Mine.Internal
open PySem PySem.W PyProof.Rows PySem.Calls
theorem no_keys_list:typeLookup (.type "list") "keys" = pure none:=by rw [typeLookup_type,builtinLookup_eq_fast]; kernel_rfl
theorem keys_of_list {prog:Program} {w:World} {A:Around} {E:PV→Shared→Prop} {s:Shared} {a:Addr} {xs:Array PV} {k:Nat} {sl:Array (Option PV)} {Q:Option PV→Shared→Prop} (hx:s.heap.get? a = some { cls:=.type "list",dict:=none,data:=.seq xs k,slots:=sl }) (hA:A.handled = none)
  (q:∀ h' tk,(∀ b o,s.heap.get? b = some o→h'.get? b = some o)→Q none { s with heap:=h',toks:=tk }):wpAny (model prog w) A (getAttr? (.ref a) "keys") Q E s:=by
 obtain ⟨hp,g,d,tk,os⟩:=s
 have hT:∀ tk',(⟨hp,g,d,tk',os⟩:Shared).TypeIs (.ref a) "list":=fun _=>⟨_,hx,rfl⟩
 have f1:=sub_AttributeError
 have f3:=F.slot_list_getattribute.lookup
 have f4:=F.slot_list_getattribute.bind (.ref a)
 have f5:=am_list_getattr_none
 delta getAttr? getAttrBy? getAttrBy
 repeat (any_goals (first | assumption | exact hT _ | ((with_reducible show wpAny _ _ (call (Value.builtin "list.__getattribute__") _ _) _ _ _); refine call_meets F.slot_list_getattribute (hT _) am_entry_list_getattribute (F.args_list_getattribute_2 _ _) (meets_getattribute_miss_list a xs k sl "keys" _ no_keys_list (by decide) (by decide)) ⟨hx,hA,fun h' tk' e hx'=>?_⟩) | wp_step))
 obtain ⟨t',u',he⟩:=hx'.there
 show wpAny _ _ (getattributeRaised _ _ _ _ _ _ _) _ _ _
 delta getattributeRaised
 repeat (any_goals (first | assumption | wp_step))
 exact q h' tk' hx'.of.keeps
theorem entry_upd_loop:entryFor table "dict.update.loop" = some Builtin.«dict.update.loop»:=entryFor_of_tree (by kernel_rfl)
theorem plain_upd_loop:plainId "dict.update.loop" = true:=by decide +kernel
theorem kvOf_of {x:V} {K:Nat × V→Prop} (e:oK (kvOf x) K):∃ s v,x = .tup [.str s,v]∧K (s,v):=by
 cases x with
 | tup l=>match l,(show oK (kvL l) K from e) with
  | [k,v],e =>
   have e:oK (kvS k v) K:=e
   cases k <;> first | exact ⟨_,_,rfl,e⟩ | exact False.elim e
 | _=>exact False.elim e
theorem arr_at {arr:Array PV} {k:Nat} {v:PV} {t:List PV} (e:arr.toList.drop k = v :: t):arr[k]? = some v∧arr.toList.drop (k + 1) = t :=
 ⟨Array.getElem?_toList.symm.trans ((List.getElem?_drop.symm.trans (congrArg (·[0]?) e):arr.toList[k + 0]? = _)),(List.drop_drop ..).symm.trans (congrArg (·.drop 1) e)⟩
theorem arr_end {arr:Array PV} {k:Nat} (e:arr.toList.drop k = []):arr[k]? = none:=Array.getElem?_toList.symm.trans (List.getElem?_eq_none (List.drop_eq_nil_iff.mp e))
section
variable {B:Bd} {u:Nat} {c:Ck} {G:Ev} {N Y Z:Nx} {Q E:PV→Shared→Prop} {g:Gt}
theorem Le.of {h':Heap} {tk:Nat} (k:∀ b o,N.W b→N.s.heap.get? b = some o→h'.get? b = some o):Le N (N.at { N.s with heap:=h',toks:=tk }):=⟨fun b o w e=>⟨k b o w e,w⟩,fun _ _ e=>e⟩
theorem dict_nodup {D:Wd} {h:Heap} {a:Addr} {kvs:List (Str × PV)} (t:IsDc D h a kvs):(kvs.map (·.1)).Nodup:=t.2.elim fun _ q=>q.elim fun _ q=>q.elim fun _ q=>q.2.2.2.2.2
theorem upd_loop {dd it l:Addr} {arr:Array PV} {result:PV} (hdi:dd ≠ it) (hdl:dd ≠ l) (hil:it ≠ l) {R:Result→Shared→Prop} {K:List (V × V)→Prop} :
  ∀ (ds:List V) (k:Nat) (acc:List (V × V)) (kvs:List (Str × PV)) (A:Around) (i:Int) (N:Nx),¬ N.W dd→¬ N.W it→A.handled = none→Vals B N ds (arr.toList.drop k)→oK (updD acc ds) K →
   RVd B.D N acc kvs→IsDc B.D N.s.heap dd kvs→N.s.heap.IsListIter it l k→N.s.heap.IsList l arr→kvs.length + ds.length≤sizeLine →
   (∀ d h' tk kvs',K d→(∀ b o,b ≠ dd→b ≠ it→N.s.heap.get? b = some o→h'.get? b = some o)→IsDc B.D h' dd kvs'→RVd B.D (N.at { N.s with heap:=h',toks:=tk }) d kvs'→R (.ok (.ret result)) { N.s with heap:=h',toks:=tk }) →
   codeAny (model B.D.prog B.D.w) A (.builtin "dict.update.loop" ⟨[.ref dd,.ref it,rawInt i,result],[]⟩) R N.s
 | [],k,acc,kvs,A,i,N,wd,wi,hh,rs,hp,ra,td,ti,tl,hz,q=>by
  refine codeAny_builtin entry_upd_loop ?_
  rw [Around.under_plainId plain_upd_loop _]
  show wpAny _ A.in1 (pyNext (.ref it) >>= _) _ _ N.s
  refine wpAny_bind (wpAny_pyNext_list_end hh ti tl (arr_end rs) fun h' eb=>?_)
  show wpAny _ A.in1 (Builtin.Dict.addKeywords dd [] >>= _) _ _ _
  exact wpAny_bind (wpAny_pure (wpAny_pure (q acc h' _ kvs hp (fun b o _ n2 e=>eb b o n2 e) (td.at fun o e=>eb _ o hdi e) (RVd_le (Le.of fun b o w e=>eb b o (fun z=>wi (z ▸ w)) e) _ _ ra))))
 | x :: ds,k,acc,kvs,A,i,N,wd,wi,hh,rs,hp,ra,td,ti,tl,hz,q=>by
  obtain ⟨n,d,rfl,hp⟩:=kvOf_of (oK_bind hp)
  obtain ⟨v,t,e,⟨a,pa,rfl,wa,⟨n0,ta⟩,_,_,ep,⟨z,tk,rfl,hz1,rfl⟩,v2,_,rfl,r2,rfl⟩,r3⟩:=rs
  obtain ⟨hv,ht⟩:=arr_at e
  refine codeAny_builtin entry_upd_loop ?_
  rw [Around.under_plainId plain_upd_loop _]
  show wpAny _ A.in1 (pyNext (.ref it) >>= _) _ _ N.s
  refine wpAny_bind (wpAny_pyNext_list_item ti tl hv fun h1 ti1 sb=>?_)
  have ta1:h1.get? a = some { cls:=.type "tuple",dict:=none,data:=.seq pa n0,slots:=#[] }:=sb.extBut a _ (fun z=>wi (z ▸ wa)) ta
  show wpAny _ A.in1 (holding [Value.ref a] _ >>= _) _ _ _
  refine wpAny_bind (wpAny_holding (wpAny_bind (wpAny_tryCatch ?_)))
  delta Builtin.Dict.pairItems
  refine wpAny_bind (wpAny_typeOf (T:="tuple") ⟨_,ta1,rfl⟩ ?_)
  rw [if_pos (by decide)]
  refine wpAny_bind (wpAny_seqItems ta1 rfl (wpAny_pure ?_))
  show wpAny _ A.in1 (match pa.toList with | [k,v]=>_ | l=>_) _ _ _
  rw [ep]
  refine wpAny_holding (wpAny_dictSet_pairs (strKind_is _ _ _ _) (td.2.at fun o e=>sb.extBut _ o hdi e) (fun h2 td2 sb2=>?_) (by simp only [List.length_cons] at hz; (first | lia | omega)))
  have up:∀ b o,b ≠ dd→b ≠ it→N.s.heap.get? b = some o→h2.get? b = some o:=fun b o n1 n2 e=>sb2.extBut b o n1 (sb.extBut b o n2 e)
  have l:=Le.of (N:=N) (tk:=N.s.toks + 1) fun b o w e=>up b o (fun z=>wd (z ▸ w)) (fun z=>wi (z ▸ w)) e
  obtain ⟨o1,ho1,w1⟩:=ti1
  obtain ⟨o2,ho2,w2⟩:=tl
  exact wpAny_pure ⟨plainId_quiet plain_upd_loop _,upd_loop hdi hdl hil ds (k + 1) (dset (.str (encS z)) d acc) (stored kvs z v2) A (i + 1) (N.at _) wd wi hh (by rw [ht]; exact RVs_le l _ _ r3) hp
   (RVd_set hz1 (RV_le l _ _ r2) (RVd_le l _ _ ra) (dict_nodup td)) ⟨td.1,td2⟩ ⟨o1,sb2.extBut _ _ (Ne.symm hdi) ho1,w1⟩ ⟨o2,up _ o2 (Ne.symm hdl) (Ne.symm hil) ho2,w2⟩
   (by have:=stored_length_le kvs z v2; simp only [List.length_cons] at hz; (first | lia | omega)) fun d h' tk' kvs' hk kp td' rd=>q d h' tk' kvs' hk (fun b o n1 n2 e=>kp b o n1 n2 (up b o n1 n2 e)) td' rd⟩
noncomputable def itObj (l:Addr):Obj:={ cls:=.type "list_iterator",data:=.fields #[.ref l,.int 0 0] }
theorem call_dict_pairs {l:Addr} {arr:Array PV} {ds:List V} {K:List (V × V)→Prop} (sm:Sm B.D N) (hh:G.A.handled = none) (il:IsLs N.s.heap l arr) (rs:Vals B N ds arr.toList)
  (hp:oK (updD [] ds) K) (hz:ds.length≤capL) (z:∀ d Y a,K d→Aft B.D N noA Y→Y.σ = N.σ→¬ N.has a→Pv Y a→RC B.D Y a (.dict d)→Q (.ref a) Y.s):Wp B G N (call (.type "dict") [.ref l]) Q E:=by
 refine callType_codes (Q₁:=fun obj s₁=>obj = .ref N.s.heap.objs.size∧s₁ = { N.s with heap:=N.s.heap.push dictObj }) PySem.F.kt_called_dict (PySem.F.kt_typeCall_dict_1 _) PySem.F.entry_dict_init (kt_code_dict_new _ ⟨rfl,rfl⟩) ?_
 rintro obj s₁ ⟨rfl,rfl⟩
 have hnew:(N.s.heap.push dictObj).DictOf (SK B.D) N.s.heap.objs.size []:=Heap.DictOf.new N.s.heap
 obtain ⟨kk,ho⟩:=id il
 have lt:=Heap.lt_size ho
 have m1:=(More.refl N).push dictObj
 have ho1:=m1.k _ _ ho
 refine ⟨hnew.typeIs,PySem.F.args_dict_init_2 _ _,?_⟩
 delta Builtin.«dict.__init__»
 refine wpAny_bind ?_
 delta Builtin.Dict.selfAndRest
 refine wpAny_bind (wpAny_notOrdered_dict hnew.typeIs ?_)
 show wpAny _ _ (pure (N.s.heap.objs.size,[Value.ref l])) _ _ _
 refine wpAny_pure ?_
 show wpAny _ _ (Builtin.Dict.updateFrom "dict.__init__" N.s.heap.objs.size (.ref l) [] .none) _ _ _
 delta Builtin.Dict.updateFrom
 refine wpAny_bind (wpAny_typeOf (T:="list") ⟨_,ho1,rfl⟩ ?_)
 rw [if_pos (by decide)]
 refine wpAny_bind (keys_of_list ho1 hh fun h1 tk1 k1=>?_)
 have il1:IsLs h1 l arr:=⟨kk,k1 _ _ ho1⟩
 have dn1:=hnew.at (h':=h1) fun o e=>k1 _ _ e
 simp only [Option.isNone_none,if_true]
 refine wpAny_bind (wpAny_rule ?_)
 refine wpAny_bind (wpAny_pyIter_list (IsLs.list il1) (wpAny_pure ⟨plainId_quiet plain_upd_loop _,?_⟩))
 have lt1:=dn1.elim fun o q=>q.elim fun _ q=>q.elim fun _ q=>Heap.lt_size q.1
 have m2:More N { N.s with heap:=h1.push (itObj l),toks:=tk1 }:=⟨fun b o e=>Heap.get?_push_of_some _ (k1 b o (m1.k b o e)),rfl,rfl⟩
 have ni:¬ N.has h1.objs.size:=(⟨fun b o e=>k1 b o (m1.k b o e),rfl,rfl⟩:More N { N.s with heap:=h1 }).no
 have a2:=m2.aft sm
 refine upd_loop (B:=B) (arr:=arr) (l:=l) (Nat.ne_of_lt lt1) (Nat.ne_of_gt lt) (Nat.ne_of_gt (Heap.lt_size (k1 _ _ ho1)))
  ds 0 [] [] _ 0 (N.at { N.s with heap:=h1.push (itObj l),toks:=tk1 }) (fun w=>no_new (sm.wd _ w)) (fun w=>ni (sm.wd _ w)) hh (Vals.on a2 rs) hp rfl ⟨sm.one,dn1.push _⟩ ⟨_,Heap.get?_push_size _ rfl,rfl,rfl⟩ ((IsLs.list il1).at fun o e=>Heap.get?_push_of_some _ e) ?_ fun d h' tk kvs' hk kp td rd=>?_
 ·rw [List.length_nil,Nat.zero_add]; exact cap_line hz
 ·have m3:More N { N.s with heap:=h',toks:=tk }:=⟨fun b o e=>kp b o (fun q=>no_new (q ▸ has_of e)) (fun q=>ni (q ▸ has_of e)) (m2.k b o e),rfl,rfl⟩
  exact ⟨rfl,z d (N.at _) _ hk (m3.aft sm) rfl no_new (td.2.elim fun o q=>q.elim fun _ q=>q.elim fun _ q=>m3.pv sm no_new q.1) ⟨_,td,rd⟩⟩
theorem copy_dict {v0:V} {v:PV} {K:V→Prop} (sm:Sm B.D N) (e:oK ((asDict N.σ v0).bind fun l=>if l.length≤capL then some (V.dict l) else none) K) (rv:Val B N v0 v)
  (z:∀ d Y a,K d→Aft B.D N noA Y→Y.σ = N.σ→¬ N.has a→Pv Y a→RC B.D Y a d→Q (.ref a) Y.s):Wp B G N (call (.type "dict") [v]) Q E :=
 dict_of sm (oK_bind e) rv fun l x kvs e hx t rs=>by
  obtain ⟨hl,e⟩:=if_of e
  subst hx
  refine kt_call_dict (not_sys t.1) t.2 (cap_ln (RVd_length rs) hl) fun h' dh sb=>?_
  have m:More N { N.s with heap:=h' }:=⟨fun b o e=>sb.extBut b o (fun q=>no_new (q ▸ has_of e)) (Heap.get?_push_of_some _ e),rfl,rfl⟩
  exact z _ (N.at _) _ e (m.aft sm) rfl no_new (dh.elim fun o q=>q.elim fun _ q=>q.elim fun _ q=>m.pv sm no_new q.1) ⟨_,⟨sm.one,dh⟩,RVd_le (m.aft sm).le _ _ rs⟩
theorem cf_dict:CallF B u (.type "dict") .dict:=fun G N ds vs Q E K rm e0 sm r0 z=>uno e0 r0 fun d v hv e rv=>by
 subst hv
 have cp:oK ((asDict N.σ d).bind fun l=>if l.length≤capL then some (V.dict l) else none) K→Wp B G N (call (.type "dict") [v]) Q E:=fun e=>copy_dict sm e rv z
 cases d with
 | list l =>
  obtain ⟨hz,e⟩:=if_of (oK_bind (oK_map e))
  obtain ⟨a,arr,rfl,wa,il,rs⟩:=rv
  exact call_dict_pairs sm rm.hand il rs e hz fun d Y a hk f es n p r=>z _ Y a hk f es n p r
 | _=>exact cp e
theorem te_get {y:X} {xs:List X} {o:PE} {es:List PE} {apos pos:Pos} (hb:plainBase o = true) (hl:(apos.endLine == pos.line) = true) (hn:es.length < 29) (hs:es.all (fun e=>!isStarred e) = true) (h1:TE B u c y (fun env=>eval o env))
  (h3:TEs B u c xs (fun env=>spliced (backTo pos (starEach es env)))):TE B u c (.get y xs) (fun env=>eval (.Call (.Attribute o "get" apos) es [] pos) env):=fun G N Q E K H q z =>
 call_meth F.plainAttrs_dict F.slot_dict_get F.type_dict_get hb hl hn hs h1 h3 H q fun d Y w k1 a r=>by
  obtain ⟨hd,k1⟩:=bK_of k1
  refine ⟨dict_of (K:=fun _=>True) a.sm (by cases e:asDict Y.σ d with | none=>rw [e] at hd; cases hd | some l=>trivial) r fun l x kvs _ hx t rd=>hx ▸ dict_typ t,_,k1,fun ds Z vs k2 a2 rs=>?_⟩
  refine dict_of a2.sm k2 (Val.on a2 r) fun l x kvs k2 hx t rd=>?_
  subst hx
  obtain ⟨s,dv,rfl,k2⟩:=getL_of k2
  obtain ⟨vk,_,rfl,⟨n,tk,rfl,hz,rfl⟩,vv,_,rfl,rv,e⟩:=rs
  cases (e:_ = [])
  have t1:=toks_ok (y:=Z) a2.sm (Z.s.toks + 1)
  exact call_meetsIn F.slot_dict_get t.2.typeIs F.entry_dict_get (F.args_dict_get_3 _ _ _) (meets_dict_get_default (SK B.D) x (strKind_is _ _ _ _) (not_sys t.1) vv) ⟨_,t.2.mapOf,
   z _ (Z.tk (Z.s.toks + 1)) _ k2 ((a.trans a2).trans t1) (Val.on t1 (RVd_get hz rd (fun h1 h2=>by rw [h1,h2]; exact rv) fun d w h1 h2 r=>by rw [h1,h2]; exact r))⟩
end
end Mine.Internal
namespace Mine.Internal
open PySem PySem.W PyProof.Rows PySem.Calls
theorem dec_rev:∀ (k:Nat) (l:List Nat),(∀ c∈l,c < 2097151)→decL k (encL l.reverse) = (l.take k).reverse
 | 0,_,_=>rfl
 | k + 1,[],_=>rfl
 | k + 1,x :: r,h=>by
  have e:=dec_step (a:=encL r.reverse) (h x (List.mem_cons_self ..))
  rw [List.reverse_cons,encL_snoc,decL,if_neg (show ¬ encL r.reverse * 2097152 + (x + 1) = 0 from Nat.succ_ne_zero _),e.1,e.2,dec_rev k r fun c hc=>h c (List.mem_cons_of_mem _ hc),List.take_succ_cons,List.reverse_cons]
theorem strOk_lt {x:Str} (h:strOk x = true):∀ c∈x.cps.toList,c < 2097151:=fun c hc=>Nat.lt_trans (of_decide_eq_true (List.all_eq_true.mp h c hc)) (by decide)
theorem dec_enc {x:Str} (h:strOk x = true) (k:Nat):decL k (encS x) = (x.cps.toList.reverse.take k).reverse:=by
 have:=dec_rev k x.cps.toList.reverse fun c hc=>strOk_lt h c (List.mem_reverse.mp hc)
 rwa [List.reverse_reverse] at this
theorem short_of {x:Str} (h:strOk x = true) (s:shortS (encS x) = true):x.length≤1000:=by
 have s:=of_decide_eq_true s
 rw [dec_enc h,List.length_reverse,List.length_take,List.length_reverse] at s
 exact Nat.le_trans (Nat.le_of_eq Array.length_toList.symm) (Nat.le_of_not_lt fun q=>absurd (Nat.le_trans (Nat.le_min.mpr ⟨Nat.le_refl _,q⟩) s) (by decide))
theorem encS_append {x y:Str} (hy:strOk y = true) (s:shortS (encS y) = true):encS (x++y) = catS (encS x) (encS y):=by
 have e:decL 1001 (encS y) = y.cps.toList:=by
  rw [dec_enc hy,List.take_of_length_le,List.reverse_reverse]
  rw [List.length_reverse,Array.length_toList]
  exact Nat.le_trans (short_of hy s) (by decide)
 delta catS
 rw [e]
 show encL (x.cps++y.cps).toList = _
 rw [Array.toList_append]
 exact List.foldl_append
theorem strOk_append {x y:Str} (hx:strOk x = true) (hy:strOk y = true):strOk (x++y) = true:=by
 show ((x.cps++y.cps).toList.all fun c=>decide (c < 1114112)) = true
 rw [Array.toList_append,List.all_append]
 exact Bool.and_eq_true_iff.mpr ⟨hx,hy⟩
theorem char_lt (c:Char):c.toNat < 1114112:=by
 have h:c.toNat.isValidChar:=c.valid
 delta Nat.isValidChar at h
 (first | lia | omega)
theorem digs_str (k:Nat):strOk (Str.ofString (toString ((k:Nat):Int))) = true∧encS (Str.ofString (toString ((k:Nat):Int))) = encL (digs k):=by
 delta strOk encS
 rw [KIN.signs_num]
 refine ⟨?_,rfl⟩
 rw [List.all_map,List.all_eq_true]
 intro c _
 exact decide_eq_true (char_lt c)
section
variable {B:Bd} {u:Nat} {c:Ck} {G:Ev} {N Y Z:Nx} {Q E:PV→Shared→Prop} {g:Gt}
noncomputable def TP (B:Bd) (u:Nat) (c:Ck) (x:X) (t:PE):Prop :=
 ∀ (G:Ev) (N:Nx) (Q E:PV→Shared→Prop) (K:Nat→St→Prop),Go B u c G N→kX B G N x (fun d σ=>oK (strOf d) fun z=>K z σ) →
  (∀ y t Y,K (encS y) Y.σ→Aft B.D N noA Y→strOk y = true→shortS (encS y) = true→y.length≤sizeLine→Q (.str y t) Y.s)→Wp B G N (eval t G.env) Q E
theorem len_line {x:Str} {k:Nat} (h:x.length≤k) (hk:k≤1000000):x.length≤sizeLine:=cap_line (Nat.le_trans h hk)
theorem short_line {x:Str} (h:strOk x = true) (s:shortS (encS x) = true):x.length≤sizeLine:=len_line (short_of h s) (by decide)
theorem tp_cst {x:Str} {z k:Nat} {p:Pos} (h1:strOk x = true) (h2:encS x = z):TP B u c (.cst (.str z)) (.Constant (.str x) k p):=fun G N Q E K H q y =>
 have w:=if_of (show oK (if shortS z then some z else none) (fun z=>K z N.σ) from q)
 wpAny_Constant_str (y x _ (N.tk _) (h2 ▸ w.2) (H.toks _) h1 (h2 ▸ w.1) (short_line h1 (h2 ▸ w.1)))
theorem tp_fmt {x:X} {t:PE} {p:Pos} (h:TE B u c x (fun env=>eval t env)):TP B u c x (.FormattedValue t (-1) none p):=fun G N Q E K H q z =>
 FormattedValue_plain (h G N _ E _ H q fun d Y v k1 a r=>by
  have fin:=fun y t tk hk (h1:strOk y = true) (hs:shortS (encS y) = true)=>z y t (Y.tk tk) hk (a.trans (toks_ok a.sm tk)) h1 hs (short_line h1 hs)
  cases d with
  | str k =>
   obtain ⟨y,t,rfl,hy,rfl⟩:=r
   obtain ⟨hl,k1⟩:=if_of (show oK (if shortS (encS y) then some (encS y) else none) (fun z=>K z Y.σ) from k1)
   exact formatField_str (fun t' tk=>fin y t' tk k1 hy hl) (short_line hy hl)
  | int i =>
   obtain ⟨t,rfl⟩:=r
   obtain ⟨hi,k1⟩:=if_of (show oK (if (0≤i∧i≤1000000)∧shortS (encL (digs i.toNat)) = true then some (encL (digs i.toNat)) else none) (fun z=>K z Y.σ) from k1)
   have hi':i = ((i.toNat:Nat):Int):=(Int.toNat_of_nonneg hi.1.1).symm
   have hd:i.natAbs.log2 < 1920:=(Decidable.em (i.natAbs = 0)).elim (fun h0=>by rw [h0]; decide) fun h0=>Nat.lt_of_lt_of_le ((Nat.log2_lt h0).mpr (Nat.lt_of_le_of_lt (show i.natAbs≤1000000 by (first | lia | omega)) (show 1000000 < 2 ^ 20 by decide))) (by decide)
   obtain ⟨d1,d2⟩:=digs_str i.toNat
   rw [← hi'] at d1 d2
   exact formatField_int_small hd (fin _ _ _ (d2 ▸ k1) d1 (d2 ▸ hi.2))
  | _=>exact False.elim k1)
theorem join_all {xs:List X} {es:List PE} (h:All2 (TP B u c) xs es):∀ (G:Ev) (N:Nx) (out:Str) (Q E:PV→Shared→Prop) (K:Nat→St→Prop),Go B u c G N→kFs B.P B.T xs (encS out) G.ρ N.σ K→strOk out = true →
  (∀ y t Y,K (encS y) Y.σ→Aft B.D N noA Y→strOk y = true→Q (.str y t) Y.s)→Wp B G N (joinParts out (evalEach es G.env)) Q E:=by
 induction h with
 | nil=>exact fun G N out Q E K H q ho z=>have w:=bK_of q; joinParts_nil (z out _ (N.tk _) w.2 (H.toks _) ho) (short_line ho w.1)
 | cons h1 h2 ih=>exact fun G N out Q E K H q ho z=>joinParts_cons (h1 G N _ E _ H q fun y t Y k1 a hy hs hyl=>by
   rw [← encS_append hy hs] at k1
   have w:=bK_of k1
   have ho':=strOk_append ho hy
   exact ⟨short_line ho' w.1,ih G Y (out++y) Q E K (H.to a) w.2 ho' fun y2 t2 Y2 k2 a2 h2=>z y2 t2 Y2 k2 (a.trans a2) h2⟩)
theorem te_fstr {x1 x2:X} {xs:List X} {e1 e2:PE} {es:List PE} {p:Pos} (h1:TP B u c x1 e1) (h2:TP B u c x2 e2) (h:All2 (TP B u c) xs es):TE B u c (.fstr (x1 :: x2 :: xs)) (fun env=>eval (.JoinedStr (e1 :: e2 :: es) p) env):=fun G N Q E K H q z =>
 JoinedStr_many (join_all (.cons h1 (.cons h2 h)) G N Str.empty Q E _ H q rfl fun y t Y k1 a hy=>z _ Y _ k1 a ⟨y,t,rfl,hy,rfl⟩)
end
end Mine.Internal
namespace Mine.Internal
open PySem PySem.W PyProof.Rows PySem.Calls
noncomputable def Nx.wis (y:Nx) (P:Addr→Prop):Nx:=⟨y.μ,fun a=>y.W a ∨ P a,y.σ,y.s⟩
theorem Le.wis {y:Nx} {P:Addr→Prop}:Le y (y.wis P):=⟨fun _ _ w e=>⟨e,.inl w⟩,fun _ _ e=>e⟩
theorem Aft.wis {D:Wd} {F P:Addr→Prop} {x y:Nx} (a:Aft D x F y) (p:∀ b,P b→Pv y b) (h:∀ b,P b→¬ x.has b):Aft D x F (y.wis P) :=
 have m:=a.sm
 ⟨⟨m.gi,m.big.elim fun a h=>⟨a,h.1,.inl h.2⟩,m.len,m.nodup,m.new,m.apart,fun a w=>w.elim (m.wk a) fun e=>(p a e).nc,fun a w=>w.elim (m.wd a) fun e=>(p a e).lt,fun a h=>.inl (m.cs a h),m.lt,fun n o q e1 e2=>OR_le Le.wis (fun _ e=>e) (fun _ e=>e) (m.obj n o q e1 e2)⟩,
  a.le.trans Le.wis,a.kp,a.ex,a.mn,fun c w=>w.elim (a.wn c) fun e=>.inr (h c e),a.gens,a.os⟩
section
variable {B:Bd} {u:Nat} {c:Ck} {G:Ev} {N Y Z:Nx} {Q E:PV→Shared→Prop} {g:Gt}
theorem te_not {x:X} {t:PE} {p:Pos} (h:TE B u c x (fun env=>eval t env)):TE B u c (.not x) (fun env=>eval (.UnaryOp .Not t p) env):=fun G N Q E K H q z =>
 UnaryOp_ (h G N _ E _ H q fun d Y v k a r=>by
  obtain ⟨b,rfl,k⟩:=truthy_of k
  cases (r:v = .bool b)
  exact not_of (wpAny_truthy_bool (z (.bool (!b)) Y _ k a rfl)))
theorem tb_not {x:X} {t:PE} {p:Pos} (h:TB B u c x (fun env=>isTrue t env (eval t env))):TB B u c (.not x) (fun env=>isTrue (.UnaryOp .Not t p) env (eval (.UnaryOp .Not t p) env)):=fun G N Q E K H q z =>
 wpAny_isTrue_Not (h G N _ E (fun b σ=>K (!b) σ) H q fun b Y k a=>z (!b) Y k a)
theorem ok_abs:CallOk B u (.builtin "abs") .abs:=fun G N ds vs Q E K rm e0 sm r0 z=>uno e0 r0 fun d v hv e rv=>by
 obtain ⟨i,t,rfl,rfl,e⟩:=asInt_of (oK_map e) rv
 subst hv
 exact call_abs_int fun w tk=>z _ (N.tk tk) _ e (toks_ok sm tk) rfl ⟨w,rfl⟩
theorem bools_at:∀ {l:List V} {vs:List PV} {n:Nat} {K:Nat→Prop},oK (cntB l n) K→Vals B N l vs→(∀ y∈vs,∃ b,y = .bool b)∧K (n + vs.countP (isBoolOf true))
 | [],vs,n,K,e,r=>by cases (show vs = [] from r); exact ⟨fun y h=>(nomatch h),e⟩
 | d :: l,vs,n,K,e,⟨v,t,e1,r1,r2⟩=>by
  obtain ⟨b,hd,e⟩:=truthy_of (oK_bind (show oK (d.truthy.bind fun b=>cntB l (bif b then n + 1 else n)) K from e))
  subst hd
  cases (r1:v = .bool b)
  have w:=bools_at (l:=l) e r2
  subst e1
  refine ⟨fun y h=>(List.mem_cons.mp h).elim (fun e=>⟨b,e⟩) (w.1 y),?_⟩
  rw [List.countP_cons]
  have w:=w.2
  cases b with
  | true=>rw [show (bif true then n + 1 else n) = n + 1 from rfl,Nat.add_assoc,Nat.add_comm 1] at w; exact w
  | false=>exact w
theorem te_cnt {y:X} {o:PE} {k:Nat} {cp apos pos:Pos} (hb:plainBase o = true) (hl:(apos.endLine == pos.line) = true) (h:TE B u c y (fun env=>eval o env)):TE B u c (.cntT y) (fun env=>eval (.Call (.Attribute o "count" apos) [.Constant (.bool true) k cp] [] pos) env):=fun G N Q E K H q z =>
 call_meth (xs:=[.cst (.bool true)]) F.plainAttrs_list F.slot_list_count F.type_list_count hb hl (Nat.le_of_ble_eq_true rfl) rfl h (tes_cons rfl te_bool tes_nil) H q fun d Y v k a r=>by
  cases d with
  | list l =>
   obtain ⟨b,arr,rfl,wa,t,rs⟩:=r
   refine ⟨list_typ t,fun l' σ=>oK (cntB l 0) (fun n=>K (.int n) σ)∧l' = [.bool true],⟨k,rfl⟩,fun ds Z vs k a2 r2=>?_⟩
   obtain ⟨k,rfl⟩:=k
   obtain ⟨_,_,rfl,rfl,rfl⟩:=r2
   obtain ⟨wa,n,t⟩:=t.le a2.le wa
   have w:=bools_at k (Vals.on a2 rs)
   refine call_meets F.slot_list_count ⟨_,t,rfl⟩ F.entry_list_count (F.args_list_count_2 _ _) (PySem.SeqAt.list_countAt b arr n none #[] (.bool true) (isBoolOf true)) ⟨t,fun y hy=>(w.1 y (Array.mem_toList_iff.mpr hy)).elim fun b e=>e ▸ PySem.SeqAt.EqAt.bool_bool b true,?_⟩
   have k2:=w.2
   rw [Nat.zero_add] at k2
   exact z _ (Z.tk _) _ k2 ((a.trans a2).trans (toks_ok a2.sm _)) ⟨_,rfl⟩
  | _=>exact False.elim k
theorem pairs_at {D:Wd} {N Z:Nx} {h:Heap} (hz:Z.s.heap = h) (le:Le N Z):∀ {l:List (V × V)} {kvs:List (Str × PV)} {as:List Addr},RVd D N l kvs→as.length = kvs.length→(∀ a∈as,Z.W a) →
  (∀ (j:Nat) (a:Addr),as[j]? = some a→∃ key k x,kvs[j]? = some (k,x)∧(SK D).is k key = true∧h.get? a = some { cls:=.type "tuple",data:=.seq #[key,x] })→RVs D Z (l.map fun (q:V × V)=>V.tup [q.1,q.2]) (as.map Value.ref):=by
 intro l
 induction l with
 | nil =>
  intro kvs as r hl _ _
  cases (show kvs = [] from r)
  cases List.length_eq_zero_iff.mp hl
  rfl
 | cons kd l ih =>
  intro kvs as r hl hw hp
  obtain ⟨n,v,t,rfl,hk,r1,r2⟩:=r
  cases as with
  | nil=>cases hl
  | cons a as =>
   obtain ⟨key,k,x,e1,e2,e3⟩:=hp 0 a rfl
   cases (show some (n,v) = some (k,x) from e1)
   obtain ⟨tk,rfl⟩:=Value.isStrOf_shape e2
   exact ⟨_,_,rfl,⟨a,_,rfl,hw a (List.mem_cons_self ..),⟨0,hz ▸ e3⟩,⟨_,_,rfl,hk.1 ▸ ⟨n,tk,rfl,hk.2,rfl⟩,_,_,rfl,RV_le le _ _ r1,rfl⟩⟩,
    ih r2 (Nat.succ.inj hl) (fun a m=>hw a (List.mem_cons_of_mem _ m)) fun j a e=>hp (j + 1) a e⟩
theorem te_items {y:X} {o:PE} {x:Str} {np ap p1 pos:Pos} (F:Facts B g) (BB:BiOk B.D c x (.type "list")) (hb:plainBase o = true) (hl:(ap.endLine == p1.line) = true) (h:TE B u c y (fun env=>eval o env)) :
  TE B u c (.bi .items [y]) (fun env=>eval (.Call (.Name x np) [.Call (.Attribute o "items" ap) [] [] p1] [] pos) env):=fun G N Q E K H q z=>by
 refine wpAny_bind (wpAny_Name (load_blt H F BB.k BB.g BB.b (callWith_bi rfl rfl ?_)) BB.d)
 show wpAny _ G.A (spliced (backTo pos (starEach [_] G.env))) _ E N.s
 rw [starEach_cons rfl]
 refine Calls.spliced_cons (call_meth (xs:=[]) PySem.F.plainAttrs_dict PySem.F.slot_dict_items PySem.F.type_dict_items hb hl (by decide) rfl h tes_nil (J:=fun v σ=>oK ((asDictV v).bind fun l=>if l.length≤capL then some (V.list (l.map fun (q:V × V)=>V.tup [q.1,q.2])) else none) fun w=>K w σ) H q fun d Y v k a r=>?_)
 cases d with
 | dict l =>
  obtain ⟨hz,k⟩:=if_of k
  obtain ⟨b,kvs,rfl,wa,t,rs⟩:=r
  refine ⟨dict_typ t,fun l' σ=>K (.list (l.map fun (q:V × V)=>V.tup [q.1,q.2])) σ∧l' = [],⟨k,rfl⟩,fun ds Z vs k a2 r2=>?_⟩
  cases k.2
  cases (r2:vs = [])
  obtain ⟨wa,t⟩:=t.le a2.le wa
  refine call_meetsIn PySem.F.slot_dict_items t.2.typeIs PySem.F.entry_dict_items (PySem.F.args_dict_items_1 _) (meets_dict_items (SK B.D) b (not_sys t.1)) ⟨⟨kvs,t.2⟩,?_⟩
  obtain ⟨ep,da⟩:=t.2.dictAt
  refine wpAny_pure ?_
  have m:=(More.refl Z).push { cls:=.type "dict_items",data:=.fields #[.ref b] }
  refine kdx_call (knd:=SK B.D) (kvs:=kvs) (ep:=ep) H.rm.hand ⟨_,push_at rfl,rfl,rfl⟩ (da.push _) (cap_ln (RVd_length rs) hz) fun h' tk acc cc as hk hS hl hG hacc=>?_
  have m2:More Z { Z.s with heap:=h',toks:=tk }:=⟨fun b o e=>hk b o (m.k b o e),rfl,rfl⟩
  have af:=m2.aft a2.sm
  have hs:∀ {b:Nat},Z.s.heap.objs.size≤b→¬ Z.has b:=fun hb h=>absurd (has_lt h) (Nat.not_lt.mpr hb)
  have sz:Z.s.heap.objs.size≤(Z.s.heap.push { cls:=.type "dict_items",data:=.fields #[.ref b] }).objs.size:=by rw [Heap.size_push]; exact Nat.le_succ _
  generalize (Z.s.heap.push { cls:=.type "dict_items",data:=.fields #[.ref b] }).objs.size = S at hS hG sz
  have pv:∀ b,(b∈as ∨ b = S)→Pv (Z.at { Z.s with heap:=h',toks:=tk }) b∧¬ Z.has b:=fun b hb=>hb.elim (fun hb=>by
   obtain ⟨j,hj⟩:=List.mem_iff_getElem?.mp hb
   obtain ⟨_,_,_,_,_,e⟩:=hG.pairs j b hj
   have n:=hs (Nat.le_trans sz (Nat.le_of_lt (hG.above b hb)))
   exact ⟨m2.pv a2.sm n e,n⟩) fun hb=>by
   have n:=hs sz
   exact hb ▸ ⟨m2.pv a2.sm n hS,n⟩
  have fw:=af.wis (P:=fun b=>b∈as ∨ b = S) (fun b h=>(pv b h).1) (fun b h=>(pv b h).2)
  refine z _ ((Z.at { Z.s with heap:=h',toks:=tk }).wis fun b=>b∈as ∨ b = S) _ k.1 ((a.trans a2).trans fw) ⟨S,acc,rfl,.inr (.inr rfl),⟨cc,hS⟩,?_⟩
  rw [hacc]
  exact pairs_at rfl fw.le (RVd_le a2.le _ _ rs) hl (fun a m=>.inr (.inl m)) hG.pairs
 | _=>exact False.elim k
end
end Mine.Internal
namespace Mine.Internal
open PySem PySem.W PyProof.Rows PySem.Calls
theorem preSum_cons (f:Nat→Int):∀ n,preSum f (n + 1) = f 0 + preSum (fun i=>f (i + 1)) n
 | 0=>Int.add_comm ..
 | n + 1=>(congrArg (· + f (n + 1)) (preSum_cons f n)).trans (Int.add_assoc ..)
noncomputable def consF (i:Int) (f:Nat→Int):Nat→Int
 | 0=>i
 | n + 1=>f n
section
variable {B:Bd} {u:Nat} {c:Ck} {G:Ev} {N Y Z:Nx} {Q E:PV→Shared→Prop} {g:Gt}
theorem sum_at:∀ {l:List V} {vs:List PV} {a:Int} {K:V→Prop},oK (sumL a l) K→Vals B N l vs→∃ f:Nat→Int,(∀ (i:Nat) v,vs[i]? = some v→∃ t,v = .int (f i) t)∧K (.int (a + preSum f vs.length))
 | [],vs,a,K,e,r=>by
  cases (show vs = [] from r)
  exact ⟨fun _=>0,fun i v h=>(nomatch h),(Int.add_zero a).symm ▸ e⟩
 | d :: l,vs,a,K,e,⟨v,t,e1,r1,r2⟩=>by
  obtain ⟨i,tk,e2,hd,e⟩:=asInt_of (B:=B) (N:=N) (oK_bind (show oK ((asInt d).bind fun i=>sumL (a + i) l) K from e)) r1
  obtain ⟨f,h1,h2⟩:=sum_at (l:=l) e r2
  subst e1
  refine ⟨consF i f,fun j v h=>match j,h with
   | 0,h=>⟨tk,(Option.some.inj h).symm.trans e2⟩
   | j + 1,h=>h1 j v h,?_⟩
  rw [List.length_cons,preSum_cons,← Int.add_assoc]
  exact h2
theorem ok_sum:CallOk B u (.builtin "sum") .sum:=fun G N ds vs Q E K rm e0 sm r0 z=>uno e0 r0 fun d v hv e rv=>by
 subst hv
 cases d with
 | list l =>
  obtain ⟨a,arr,rfl,wa,t,rs⟩:=rv
  obtain ⟨f,h1,h2⟩:=sum_at e rs
  rw [Int.zero_add,Array.length_toList] at h2
  have lt:a < N.s.heap.objs.size:=t.elim fun k e=>Heap.lt_size e
  have hne:a ≠ N.s.heap.objs.size:=Nat.ne_of_lt lt
  refine call_sum_walkG (wpAny_pyIter_list t.list ⟨_,_,_,_,_,_,f,rfl,Walks.list (show G.A.in1.handled = none from rm.hand) _ a hne arr,⟨⟨_,push_at rfl,rfl,rfl⟩,t.list.push _⟩,fun b hb=>?_,fun i v h=>h1 i v (Array.getElem?_toList.trans h),fun h' tk t' hk=>?_⟩)
  ·rw [Heap.size_push]
   exact (List.mem_cons.mp hb).elim (fun e=>e ▸ Nat.lt_succ_self _) fun hb=>List.mem_singleton.mp hb ▸ Nat.lt_succ_of_lt lt
  ·have m:More N { N.s with heap:=h',toks:=tk }:=⟨fun b o e=>hk b o (fun hm=>absurd (List.mem_singleton.mp hm) (Nat.ne_of_lt (Heap.lt_size e))) (Heap.get?_push_of_some _ e),rfl,rfl⟩
   exact z _ (N.at _) _ h2 (m.aft sm) rfl ⟨t',rfl⟩
 | _=>exact False.elim e
end
end Mine.Internal
namespace Mine.Internal
open PySem PySem.W PyProof.Rows
noncomputable def Fr (c:Ck) (env:PEnv) (b:Addr):Prop:=b = env.locals ∨ ∃ x,(c.own x = true∧c.sc.names.lookup x = some .cell)∧env.cells.lookup x = some b
structure Gs (B:Bd) (u:Nat) (c:Ck) (G:Ev) (N:Nx):Prop where
 go:Go B u c G N
 pv:∀ b,Fr c G.env b→Pv N b
 ns:∃ m,N.s.heap.Ns G.env.locals m
 cl:∀ x,c.own x = true→c.sc.names.lookup x = some .cell→∃ b v,G.env.cells.lookup x = some b∧N.s.heap.IsCell b v
 ap:∀ x y b,c.own x = true→c.sc.names.lookup x = some .cell→G.env.cells.lookup x = some b→G.env.cells.lookup y = some b→x = y
structure Nm (c:Ck) (x:Str) (i:Nat):Prop where
 at_:c.names.lookup x = some i
 inj:∀ y,c.names.lookup y = some i→y = x
 kind:c.sc.names.lookup x = some .local ∨ (c.own x = true∧c.sc.names.lookup x = some .cell)
noncomputable def Ev.set (G:Ev) (i:Nat) (d:V):Ev:=⟨G.env,G.A,G.ρ.set i (some d)⟩
noncomputable def Ev.to (G:Ev) (ρ:REnv):Ev:=⟨G.env,G.A,ρ⟩
section
variable {B:Bd} {u:Nat} {c:Ck} {G:Ev} {N Y Z:Nx} {i:Nat} {x:Str} {d:V} {v:PV} {E:PV→Shared→Prop}
theorem ns_cell {h:Heap} {a:Addr} {mm:Str→Option PV} {v:Option PV} (x:h.Ns a mm) (y:h.IsCell a v):False:=by
 obtain ⟨o,es,ep,ho,hd,_⟩:=x
 obtain ⟨o',ho',hd'⟩:=y
 cases ho.symm.trans ho'
 cases hd.symm.trans hd'
theorem Ns_has {h:Heap} {a:Addr} {m:Str→Option PV} (n:h.Ns a m):∃ o,h.get? a = some o:=n.elim fun o q=>q.elim fun _ q=>q.elim fun _ q=>⟨o,q.1⟩
theorem cell_has {h:Heap} {a:Addr} {v:Option PV} (n:h.IsCell a v):∃ o,h.get? a = some o:=n.elim fun o q=>⟨o,q.1⟩
theorem Aft.mono {D:Wd} {F F':Addr→Prop} (a:Aft D N F Z) (h:∀ b,F b→F' b):Aft D N F' Z:=⟨a.sm,a.le,fun b o e n f=>a.kp b o e n fun q=>f (h b q),a.ex,a.mn,a.wn,a.gens,a.os⟩
theorem set_some {ρ:REnv} {o:Option V} {j:Nat} {w:V} (e:(ρ.set i o)[j]? = some (some w)):(i = j∧o = some w) ∨ (i ≠ j∧ρ[j]? = some (some w)):=by
 by_cases h:i = j
 ·subst h
  exact .inl ⟨rfl,by rw [List.getElem?_set] at e; simp at e; exact e.2⟩
 ·exact .inr ⟨h,(List.getElem?_set_ne h).symm.trans e⟩
theorem Gs.to (H:Gs B u c G N) (a:Aft B.D N noA Y):Gs B u c G Y :=
 ⟨H.go.to a,fun b f=>(H.pv b f).go a,H.ns.elim fun m n=>⟨m,n.at fun o e=>a.old (H.pv _ (.inl rfl)).nc e⟩,fun x w h=>(H.cl x w h).elim fun b q=>q.elim fun v q=>⟨b,v,q.1,q.2.elim fun o r=>⟨o,a.old (H.pv _ (.inr ⟨x,⟨w,h⟩,q.1⟩)).nc r.1,r.2⟩⟩,H.ap⟩
theorem store_ok {Q:Unit→Shared→Prop} (H:Gs B u c G N) (nm:Nm c x i) (rv:Val B N d v) (z:∀ Y,Y.σ = N.σ→Aft B.D N (Fr c G.env) Y→Gs B u c (G.set i d) Y→Q () Y.s):Wp B G N (storeName G.env x v) Q E:=by
 obtain ⟨mm,ns⟩:=H.ns
 have kd:=H.go.eo.kd
 have go:∀ {h':Heap} {b:Addr} {tk:Nat},Heap.SameBut b N.s.heap h'→Fr c G.env b→(∃ o,h'.get? b = some o)→(∃ m,h'.Ns G.env.locals m)→(∀ y b v,c.own y = true→c.sc.names.lookup y = some .cell→G.env.cells.lookup y = some b→N.s.heap.IsCell b v→∃ v',h'.IsCell b v') →
   (∀ y w,y ≠ x→At N.s.heap G.env y w→At h' G.env y w)→At h' G.env x v→Q () { N.s with heap:=h',toks:=tk }:=fun {h' b tk} sb hb he hns hc hat hx=>by
  have a:=Aft.turn1 (t:=tk) H.go.sm (H.pv b hb) (fun c o n e=>sb.extBut c o n e) he
  exact z (N.at _) rfl (a.mono fun c e=>e ▸ hb) ⟨⟨H.go.rm,H.go.eo.go a,fun y j d' h1 h2 h3=>by
   rcases set_some h3 with ⟨rfl,e⟩ | ⟨hj,h3⟩
   ·cases nm.inj y h1
    cases e
    exact ⟨v,hx,Val.on (B:=B) a rv⟩
   ·obtain ⟨w,at_,r⟩:=H.go.fe y j d' h1 h2 h3
    exact ⟨w,hat y w (fun e=>hj (Option.some.inj (nm.at_.symm.trans (e ▸ h1)))) at_,Val.on (B:=B) a r⟩,a.sm⟩,fun b f=>(H.pv b f).go a,hns,fun y w hy=>(H.cl y w hy).elim fun b q=>q.elim fun v q=>(hc y b v w hy q.1 q.2).elim fun v' r=>⟨b,v',q.1,r⟩,H.ap⟩
 have nc:∀ b w,N.s.heap.IsCell b w→b ≠ G.env.locals:=fun b w ic e=>by subst e; exact ns_cell ns ic
 rcases nm.kind with hk | ⟨hoc,hk⟩
 ·have k0:=(kd x).trans hk
  refine wpAny_storeName_local k0 ns (fun h' ns' sb=>?_) (by rw [H.go.eo.kind]; rfl)
  refine go sb (.inl rfl) (Ns_has ns') ⟨_,ns'⟩ (fun y b w _ _ hb ⟨o,ho,r⟩=>⟨w,o,by rw [sb.2 b (nc b _ ⟨o,ho,r⟩)]; exact ho,r⟩) (fun y w hy at_=>?_) (.inl ⟨k0,_,ns',if_pos rfl⟩)
  rcases at_ with ⟨k1,m1,n1,e1⟩ | ⟨k1,cc,e1,o,ho,r⟩
  ·exact .inl ⟨k1,_,ns',by rw [if_neg hy,ns.agree n1 y]; exact e1⟩
  ·exact .inr ⟨k1,cc,e1,o,by rw [sb.2 cc (nc cc _ ⟨o,ho,r⟩)]; exact ho,r⟩
 ·obtain ⟨b,v0,k2,k3⟩:=H.cl x hoc hk
  have k0:=(kd x).trans hk
  refine wpAny_storeName_cell H.go.eo.kind k0 k2 k3 fun h' ic' sb=>?_
  have nl:G.env.locals ≠ b:=(nc b _ k3).symm
  refine go (tk:=N.s.toks) sb (.inr ⟨x,⟨hoc,hk⟩,k2⟩) (cell_has ic') ⟨mm,ns.at fun o e=>(sb.2 _ nl).trans e⟩ (fun y b' w' _ _ hb ⟨o,ho,r⟩=>?_) (fun y w' hy at_=>?_) (.inr ⟨.inl k0,b,k2,ic'⟩)
  ·by_cases hb':b' = b
   ·subst hb'; exact ⟨_,ic'⟩
   ·exact ⟨w',o,by rw [sb.2 b' hb']; exact ho,r⟩
  ·rcases at_ with ⟨k1',m1,n1,e1⟩ | ⟨k1',cc,e1,o,ho,r⟩
   ·exact .inl ⟨k1',m1,n1.at (fun o e=>(sb.2 _ nl).trans e),e1⟩
   ·exact .inr ⟨k1',cc,e1,o,by rw [sb.2 cc (fun e=>by subst e; exact hy (H.ap x y cc hoc hk k2 e1).symm)]; exact ho,r⟩
noncomputable def OutOk (B:Bd) (u:Nat) (c:Ck) (G:Ev) (N:Nx) (K:Out→Prop) (Q:Flow→Shared→Prop):Prop :=
 (∀ ρ Y,K (.next ρ Y.σ)→Aft B.D N (Fr c G.env) Y→Gs B u c (G.to ρ) Y→Q .next Y.s)∧∀ d Y v,K (.ret d Y.σ)→Aft B.D N (Fr c G.env) Y→Val B Y d v→Q (.ret v) Y.s
noncomputable def TS (B:Bd) (u:Nat) (c:Ck) (x:S) (t:PEnv→Sem Flow):Prop :=
 ∀ (G:Ev) (N:Nx) (Q:Flow→Shared→Prop) (E:PV→Shared→Prop) (K:Out→Prop),Gs B u c G N→kS B.P B.T x G.ρ N.σ K→OutOk B u c G N K Q→Wp B G N (t G.env) Q E
noncomputable def TSs (B:Bd) (u:Nat) (c:Ck) (x:List S) (t:PEnv→Sem Flow):Prop :=
 ∀ (G:Ev) (N:Nx) (Q:Flow→Shared→Prop) (E:PV→Shared→Prop) (K:Out→Prop),Gs B u c G N→kSs B.P B.T x G.ρ N.σ K→OutOk B u c G N K Q→Wp B G N (t G.env) Q E
theorem OutOk.after {K:Out→Prop} {Q:Flow→Shared→Prop} {ρ:REnv} (h:OutOk B u c G N K Q) (a:Aft B.D N (Fr c G.env) Y):OutOk B u c (G.to ρ) Y K Q:=⟨fun ρ Z k b g=>h.1 ρ Z k (a.trans b) g,fun d Z v k b r=>h.2 d Z v k (a.trans b) r⟩
theorem tss_nil:TSs B u c [] (fun env=>execs [] env):=fun G N Q E K H q z=>wpAny_execs_nil (z.1 G.ρ N q (.refl H.go.sm) H)
theorem tss_cons {x:S} {xs:List S} {st:Stmt} {r:List Stmt} (h1:TS B u c x (fun env=>exec st env)) (h2:TSs B u c xs (fun env=>execs r env)):TSs B u c (x :: xs) (fun env=>execs (st :: r) env):=fun G N Q E K H q z =>
 wpAny_execs_cons (h1 G N _ E _ H q ⟨fun ρ Y k1 a H1=>h2 (G.to ρ) Y Q E K H1 k1 (z.after a),fun d Z v k1 a rv=>z.2 d Z v k1 a rv⟩)
theorem ts_ret {x:X} {t:PE} {pos:Pos} (h:TE B u c x (fun env=>eval t env)):TS B u c (.ret x) (fun env=>exec (.Return (some t) pos) env):=fun G N Q E K H q z =>
 wpAny_Return_some (h G N _ E _ H.go q fun d Z v k1 a r=>z.2 d Z v k1 a.up r)
theorem ts_raise {t:PEnv→Sem Flow}:TS B u c .raise t:=fun G N Q E K H q z=>False.elim q
theorem ts_expr {x:X} {t:PE} {pos:Pos} (h:TE B u c x (fun env=>eval t env)) (hs:∀ env:PEnv,env.scope = c.sc→swapsWith t none pos.line env = pure false):TS B u c (.expr x) (fun env=>exec (.Expr t pos) env):=fun G N Q E K H q z =>
 wpAny_Expr_any (h G N _ E _ H.go q fun d Z v k1 a r=>z.1 G.ρ Z k1 a.up (H.to a)) (by delta interactive; rw [H.go.eo.kind]; rfl) (hs _ H.go.eo.sc)
theorem ts_ite {x:X} {s1 s2:List S} {t:PE} {body orelse:List Stmt} {pos:Pos} (h:TB B u c x (fun env=>isTrue t env (eval t env))) (h1:TSs B u c s1 (fun env=>execs body env)) (h2:TSs B u c s2 (fun env=>execs orelse env)) :
  TS B u c (.ite x s1 s2) (fun env=>exec (.If t body orelse pos) env):=fun G N Q E K H q z =>
 wpAny_If (h G N _ E _ H.go q fun b Z k1 a=>match b,k1 with
  | true,k1=>h1 G Z Q E K (H.to a) k1 (z.after (ρ:=G.ρ) a.up)
  | false,k1=>h2 G Z Q E K (H.to a) k1 (z.after (ρ:=G.ρ) a.up))
theorem ts_name {x:X} {y:Str} {t:PE} {py pos:Pos} (nm:Nm c y i) (h:TE B u c x (fun env=>eval t env)) (hs:∀ env:PEnv,env.scope = c.sc→swapsWith t (some (.Name y py)) pos.line env = pure false) :
  TS B u c (.asg (.name i) x) (fun env=>exec (.Assign [.Name y py] t pos) env):=fun G N Q E K H q z =>
 wpAny_Assign_Name (h G N _ E _ H.go q fun d Z v k1 a r=>store_ok (H.to a) nm r fun Y es b H2=>z.1 (G.set i d).ρ Y (by rw [es]; exact k1) (a.up.trans b) H2) (hs _ H.go.eo.sc)
theorem kWhile_unf {c:REnv→St→(Bool→St→Prop)→Prop} {body:REnv→St→(Out→Prop)→Prop} {n:Nat} {ρ:REnv} {σ:St} {k:Out→Prop} (h:kWhile c body n ρ σ k):kWhile0 c body n ρ σ k:=by
 delta kWhile at h; exact h
theorem ts_while {x:X} {b:List S} {t:PE} {body:List Stmt} {pos:Pos} (h:TB B u c x (fun env=>isTrue t env (eval t env))) (h1:TSs B u c b (fun env=>execs body env)) :
  TS B u c (.while_ x b) (fun env=>exec (.While t body [] pos) env):=fun G N Q E K H q z =>
 wpAny_While (codeAny_whileLoop (I:=fun k s1=>∃ ρ Y,s1 = Y.s∧Aft B.D N (Fr c G.env) Y∧kWhile0 (fun ρ σ k=>kE B.P B.T x ρ σ fun t σ=>oK t.truthy fun t=>k t σ) (fun ρ σ k=>kSs B.P B.T b ρ σ k) k ρ Y.σ K∧Gs B u c (G.to ρ) Y) (fun k s1 I=>by
  obtain ⟨ρ,Y,rfl,a,q,H⟩:=I
  cases k with
  | zero=>exact False.elim q
  | succ k=>exact h (G.to ρ) Y _ _ _ H.go q fun t Z k1 a2=>match t,k1 with
   | false,k1=>wpAny_execs_nil (z.1 ρ Z k1 (a.trans a2.up) (H.to a2))
   | true,k1=>h1 (G.to ρ) Z _ _ _ (H.to a2) k1 ⟨fun ρ2 Y2 k2 a3 H2=>⟨k,Nat.lt_succ_self k,ρ2,Y2,rfl,(a.trans a2.up).trans a3,k2,H2⟩,fun d Z2 v k2 a3 rv=>z.2 d Z2 v k2 ((a.trans a2.up).trans a3) rv⟩) 5000 ⟨G.ρ,N,rfl,.refl H.go.sm,kWhile_unf q,H⟩)
end
end Mine.Internal
namespace Mine.Internal
open PySem PySem.W PyProof.Rows PySem.Calls
theorem lookup_cons {k f:Nat} {v:V} {r:List (Nat × V)}:((k,v) :: r).lookup f = if f = k then some v else r.lookup f:=by
 rw [List.lookup_cons]
 by_cases h:f = k
 ·subst h; rw [BEq.rfl,if_pos rfl]
 ·rw [if_neg h,beq_eq_false_iff_ne.mpr h]
theorem getA_set {f g:Nat} {v:V}:∀ {fs:List (Nat × V)},getA (setA fs f v) g = if g = f then some v else getA fs g
 | []=>lookup_cons
 | (k,w) :: r=>by
  unfold setA getA
  rw [lookup_cons]
  by_cases hk:k = f
  ·subst hk
   rw [if_pos rfl,lookup_cons]
   by_cases h:g = k
   ·rw [if_pos h,if_pos h]
   ·rw [if_neg h,if_neg h,if_neg h]
  ·rw [if_neg hk,lookup_cons,show List.lookup g (setA r f v) = _ from getA_set (fs:=r)]
   by_cases h:g = k
   ·subst h; rw [if_pos rfl,if_neg hk,if_pos rfl]
   ·rw [if_neg h,if_neg h]; rfl
theorem setA_len {f:Nat} {v:V}:∀ {fs:List (Nat × V)},(setA fs f v).length = if (getA fs f).isSome then fs.length else fs.length + 1
 | []=>rfl
 | (k,w) :: r=>by
  unfold setA getA
  rw [lookup_cons]
  by_cases hk:k = f
  ·subst hk
   rw [if_pos rfl,if_pos rfl]; rfl
  ·rw [if_neg hk,if_neg (Ne.symm hk),List.length_cons,setA_len (fs:=r)]
   show _ = if (getA r f).isSome = true then _ else _
   by_cases h:(getA r f).isSome = true
   ·rw [if_pos h,if_pos h]; rfl
   ·rw [if_neg h,if_neg h]; rfl
theorem fldIn_taker {K:Frag} {C:Addr} {x:Str} (h:fldIn K C x = true):takerIn K C x = some none:=by
 have h:fldInO K (findIn K (.ref C) x) = true:=h
 show (findIn K (.ref C) x).bind _ = _
 cases e:findIn K (.ref C) x with
 | none=>rw [e] at h; cases h
 | some o=>cases o with
  | none=>rfl
  | some a =>
   rw [e] at h
   have h:(takesIn K a == some false && (specialIn K a "__get__").isSome) = true:=h
   show (takesIn K a).map _ = _
   rw [show takesIn K a = some false from beq_iff_eq.mp (and_l h)]; rfl
section
variable {D:Wd} {N:Nx}
noncomputable def Nx.ob (N:Nx) (k:Nat) (o:SObj) (s:Shared):Nx:=⟨N.μ,N.W,N.σ.set k o,s⟩
theorem nodup_at {μ:Mp} {k j:Nat} {p q:Addr × Addr} (nd:(μ.map (·.2)).Nodup) (h1:μ[k]? = some p) (h2:μ[j]? = some q) (e:p.2 = q.2):k = j:=by
 refine (List.getElem?_inj (l:=μ.map (·.2)) ?_ nd).mp ?_
 ·rw [List.length_map]; exact (List.getElem?_eq_some_iff.mp h1).1
 ·rw [List.getElem?_map,List.getElem?_map,h1,h2]; exact congrArg some e
theorem Aft.ob (m:Sm D N) {k:Nat} {p:Addr × Addr} {o:SObj} {s:Shared} (hp:N.μ[k]? = some p) (kp:∀ b o,b ≠ p.2→N.s.heap.get? b = some o→s.heap.get? b = some o) (he:∃ o,s.heap.get? p.2 = some o) (g:s.gens = N.s.gens) (os:s.os = N.s.os)
  (ho:Le N (N.ob k o s)→OR D (N.ob k o s) p o):Aft D N noA (N.ob k o s):=by
 have mp:=List.mem_of_getElem? hp
 have np:∀ a,N.W a→a ≠ p.2:=fun a w e=>m.wk a w ⟨p,mp,e.symm⟩
 have l:Le N (N.ob k o s):=⟨fun a o w e=>⟨kp a o (np a w) e,w⟩,fun _ _ e=>e⟩
 have ex:∀ a,N.has a→(N.ob k o s).has a:=fun a h=>(Classical.em (a = p.2)).elim (fun e=>by rw [e]; exact Option.isSome_iff_exists.mpr he) fun e=>(Option.isSome_iff_exists.mp h).elim fun o g=>Option.isSome_iff_exists.mpr ⟨o,kp a o e g⟩
 refine ⟨⟨fun a o e=>kp a o (fun q=>absurd ((m.new p mp).symm.trans (show D.base.get? p.2 = some o from q ▸ e)) (fun h=>nomatch h)) (m.gi a o e),m.big,m.len.trans List.length_set.symm,m.nodup,m.new,m.apart,m.wk,fun a w=>ex a (m.wd a w),m.cs,fun q h=>⟨ex _ (m.lt q h).1,ex _ (m.lt q h).2⟩,fun j o' q e1 e2=>?_⟩,
  l,fun a o e n _=>kp a o (fun q=>n ⟨p,mp,q.symm⟩) e,ex,fun _ h=>.inl h,fun _ h=>.inl h,g,os⟩
 by_cases hj:k = j
 ·subst hj
  cases hp.symm.trans e2
  cases (List.getElem?_set_self (m.len ▸ (List.getElem?_eq_some_iff.mp hp).1)).symm.trans e1
  exact ho l
 ·have n2:q.2 ≠ p.2:=fun e=>hj (nodup_at m.nodup hp e2 e.symm)
  exact OR_le l (fun o e=>kp _ o (fun e=>n2 ((m.apart q (List.mem_of_getElem? e2) p mp e).symm.trans e)) e) (fun o e=>kp _ o n2 e) (m.obj j o' q ((List.getElem?_set_ne hj).symm.trans e1) e2)
theorem or_field {Y:Nx} {p:Addr × Addr} {k f:Nat} {fs:List (Nat × V)} {x:Str} {mm:Str→Option PV} {d:V} {v:PV} (l:Le N Y) (kp:∀ b o,b ≠ p.2→N.s.heap.get? b = some o→Y.s.heap.get? b = some o) (ho:strOk x = true) (he:encS x = f) (hn:N.s.heap.Ns p.2 mm) (hn':Y.s.heap.Ns1 p.2 (fun y=>if y = x then some v else mm y))
  (r:OR D N p (.inst k fs)) (rv:RV D Y d v):OR D Y p (.inst k (setA fs f d)):=by
 obtain ⟨⟨hk,e⟩,ne,m2,ns,n1,fo,w1,w2⟩:=r
 cases (funext fun y=>n1.ns.agree hn y:m2 = mm)
 have fx:=fo x ho
 rw [he] at fx
 refine ⟨⟨hk,kp _ _ ne e⟩,ne,_,(if (getA fs f).isSome then ns else x :: ns),hn',fun y hy=>?_,fun y hy=>?_,?_⟩
 ·rw [getA_set]
  dsimp only
  by_cases hyx:y = x
  ·subst hyx
   rw [if_pos he]
   exact ⟨v,if_pos rfl,rv⟩
  ·rw [if_neg fun e=>hyx (encS_inj hy ho (e.trans he.symm)),if_neg hyx]
   exact FldOk_le l fo y hy
 ·dsimp only at hy
  by_cases hs:(getA fs f).isSome = true
  ·rw [if_pos hs]
   by_cases hyx:y = x
   ·obtain ⟨d2,hd2⟩:=Option.isSome_iff_exists.mp hs
    rw [hd2] at fx
    obtain ⟨v2,e1,_⟩:=fx
    exact hyx ▸ w1 x (by rw [e1]; exact fun h=>nomatch h)
   ·rw [if_neg hyx] at hy; exact w1 y hy
  ·rw [if_neg hs]
   by_cases hyx:y = x
   ·exact hyx ▸ List.mem_cons_self ..
   ·rw [if_neg hyx] at hy; exact List.mem_cons_of_mem _ (w1 y hy)
 ·rw [setA_len]
  by_cases hs:(getA fs f).isSome = true
  ·rw [if_pos hs,if_pos hs]; exact w2
  ·rw [if_neg hs,if_neg hs]; exact Nat.succ_le_succ w2
end
section
variable {B:Bd} {u:Nat} {c:Ck} {G:Ev} {N Y Z:Nx} {Q E:PV→Shared→Prop} {g:Gt}
theorem set_field {q:Addr × Addr} {j k f:Nat} {fs:List (Nat × V)} {x:Str} {d:V} {v:PV} {Q:Unit→Shared→Prop} (F:Facts B g) (sm:Sm B.D N) (hx:x∈g.flds) (ho:strOk x = true) (he:encS x = f) (hz:fs.length≤1000)
  (hq:N.μ[j]? = some q) (hs:N.σ[j]? = some (.inst k fs)) (rv:Val B N d v) (z:∀ s',Aft B.D N noA (N.ob j (.inst k (setA fs f d)) s')→Q () s'):Wp B G N (setAttr (.ref q.1) x v) Q E:=by
 have r:=sm.obj j _ q hs hq
 obtain ⟨od,mm,I⟩:=ins_at (B:=B) r
 obtain ⟨⟨hk,ge⟩,ne,m2,nl,n1,fo2,w1,w2⟩:=id r
 have C:=F.ck k hk
 have X:=F.x sm
 refine set_plain X I.at_ C.sa (osa_open (s:={ N.s with toks:=N.s.toks + 1 }) X I.at_ C.po (fldIn_taker (F.fl x hx k hk)) fun b=>?_)
 obtain ⟨cd,hc,hd'⟩:=any_some C.hd
 refine wpAny_bind (wpAny_pure (wpAny_bind (wpAny_bind (wpAny_loadPart (s:={ N.s with toks:=N.s.toks + 1 }) ge (wpAny_bind ((looks_clsIn X hc).here (s:={ N.s with toks:=N.s.toks + 1 }) ?_))))))
 rw [hd']
 refine wpAny_pure (a:=some q.2) (wpAny_bind (wpAny_pure (wpAny_bind ?_)))
 refine wpAny_nsSet1 (s:={ N.s with toks:=N.s.toks + 1 }) n1 fun h1 hn1 sb=>?_
 obtain ⟨o1,es1,ep1,e1,e2,e3⟩:=hn1.count (w1.cons x v)
 refine wpAny_bind (wpAny_lookBehind (s:=⟨h1,N.s.gens,N.s.drawn,N.s.toks + 1 + 1,N.s.os⟩) e1 (by rw [e2]; exact pastItsLine_dict (by rw [sizeLine_eq]; simp only [List.length_cons] at e3; (first | lia | omega))) ?_)
 exact wpAny_pure (z _ (.ob sm hq (fun b o n e=>sb.extBut b o n e) ⟨_,e1⟩ rfl rfl fun l=>or_field l (fun b o n e=>sb.extBut b o n e) ho he n1.ns hn1 r (RV_le l _ _ rv)))
theorem setFldO_of {f:Nat} {v:V} {n:Nat} {σ:St} {o:Option SObj} {K:St→Prop} (h:oK (setFldO f v n σ o) K):∃ c fs,o = some (.inst c fs)∧fs.length≤1000∧K (σ.set n (.inst c (setA fs f v))):=by
 cases o with
 | none=>exact False.elim h
 | some o=>cases o with
  | inst c fs=>have w:=if_of h; exact ⟨c,fs,rfl,of_decide_eq_true w.1,w.2⟩
  | _=>exact False.elim h
theorem core_attr {o:X} {f:Nat} {oe:PE} {attr:Str} {d:V} {v:PV} {Q:Unit→Shared→Prop} {K:REnv→St→Prop} (F:Facts B g) (hx:attr∈g.flds) (hos:strOk attr = true) (he:encS attr = f) (h2:TE B u c o (fun env=>eval oe env))
  (H:Go B u c G N) (r:Val B N d v) (q:kSto B.P B.T d G.ρ N.σ K (.attr o f)) (z:∀ Y,K G.ρ Y.σ→Aft B.D N noA Y→Q () Y.s):Wp B G N (eval oe G.env) (fun ov s₂=>wpAny (model B.D.prog B.D.w) G.A (setAttr ov attr v) Q E s₂) E :=
 h2 G N _ E _ H q fun d2 Y2 w k2 a2 rw=>by
  cases d2 with
  | loc k =>
   obtain ⟨cc,fs,hk,hz,k4⟩:=setFldO_of (show oK (setFldO f d k Y2.σ Y2.σ[k]?) _ from k2)
   obtain ⟨p,rfl,hp⟩:=rw
   exact set_field (G:=G) F a2.sm hx hos he hz hp hk (Val.on a2 r) fun s' b=>z (Y2.ob k _ s') k4 (a2.trans b)
  | _=>exact False.elim k2
theorem ts_attr {x o:X} {f:Nat} {e oe:PE} {attr:Str} {ap pos:Pos} (F:Facts B g) (hx:attr∈g.flds) (hos:strOk attr = true) (he:encS attr = f) (h:TE B u c x (fun env=>eval e env)) (h2:TE B u c o (fun env=>eval oe env))
  (hs:∀ env:PEnv,env.scope = c.sc→swapsWith e (some (.Attribute oe attr ap)) pos.line env = pure false):TS B u c (.asg (.attr o f) x) (fun env=>exec (.Assign [.Attribute oe attr ap] e pos) env):=fun G N Q E K H q z =>
 plainObj_wpAny_Assign_Attribute (h G N _ E _ H.go q fun d Y v k1 a r=>core_attr (K:=fun ρ σ=>K (.next ρ σ)) F hx hos he h2 (H.go.to a) r k1 fun Z k b=>z.1 G.ρ Z k (a.trans b).up (H.to (a.trans b))) (hs _ H.go.eo.sc)
theorem core_item {o k:X} {oe ke:PE} {d:V} {v:PV} {Q:Unit→Shared→Prop} {K:REnv→St→Prop} (hu:30≤u) (h2:TE B u c o (fun env=>eval oe env)) (h3:TE B u c k (fun env=>eval ke env))
  (H:Go B u c G N) (r:Val B N d v) (q:kSto B.P B.T d G.ρ N.σ K (.item o k)) (z:∀ Y,K G.ρ Y.σ→Aft B.D N noA Y→Q () Y.s):Wp B G N (eval oe G.env) (fun ov s₂=>wpAny (model B.D.prog B.D.w) G.A (eval ke G.env) (fun iv s₃=>wpAny (model B.D.prog B.D.w) G.A (setItem ov iv v) Q E s₃) E s₂) E :=
 h2 G N _ E _ H q fun d2 Y2 w k2 a2 rw=>h3 G Y2 _ E _ (H.to a2) k2 fun d3 Y3 y k3 a3 ry=>by
  have af:=a2.trans a3
  have rv:=Val.on af r
  cases d2 with
  | loc j =>
   obtain ⟨p,rfl,hp⟩:=Val.on a3 rw
   refine (st_of (f:=fun s=>oK (setObjO d3 d j Y3.σ s) fun σ=>K G.ρ σ) a3.sm hp k3 id).elim fun s w=>?_
   cases s with
   | dict l =>
    obtain ⟨k4,⟨e12,kvs,t,rs⟩,hj⟩:=w
    have fin:∀ {o s'},K G.ρ (Y3.σ.set j o)→Aft B.D Y3 noA (Y3.ob j o s')→Q () s':=fun {o s'} k4 b=>z (Y3.ob j o s') k4 (af.trans b)
    refine if_or k4 (fun hc k4=>?_) fun _ k6=>?_
    ·obtain ⟨s,tk,rfl,hzs,rfl,is⟩:=key_of (and_l hc) ry
     refine wpAny_setItem_pairs is t.2 (fun h' t' sb=>?_) (cap_ln (RVd_length rs) (of_decide_eq_true (and_r hc)))
     have t2:IsDc B.D h' p.1 _:=⟨t.1,t'⟩
     exact fin (s':={ Y3.s with heap:=h',toks:=_ }) k4 (.ob a3.sm hp (fun b o n e=>sb.extBut b o (e12 ▸ n) e) (by rw [← e12]; exact t'.elim fun o q=>q.elim fun _ q=>q.elim fun _ q=>⟨o,q.1⟩) rfl rfl fun l=>⟨e12,_,t2,RVd_set hzs (RV_le l _ _ rv) (RVd_le l _ _ rs) (dict_nodup t)⟩)
    ·obtain ⟨hc,k5⟩:=if_of k6
     obtain ⟨c0,ks,rfl,ik⟩:=tup_key (and_l hc) ry
     cases l with
     | nil =>
      cases (rs:kvs = [])
      exact wpAny_setItem_heap (knd:=tupleKind (SK B.D)) (k:=ks) (H.rm.un (Nat.le_trans (by decide:1≤30) hu)) ik (dict_nil t.2) (fun h' t' sb=>fin (s':={ Y3.s with heap:=h',toks:=_ }) k5 (.ob a3.sm hp (fun b o n e=>sb.extBut b o (e12 ▸ n) e) (by rw [← e12]; exact t'.elim fun o q=>q.elim fun _ q=>q.elim fun _ q=>⟨o,q.1⟩) rfl rfl fun l=>trivial)) (cap_line (by decide))
     | cons _ _=>exact absurd (and_r hc) Bool.false_ne_true
   | _=>exact w.1.elim
  | _=>exact False.elim k3
theorem ts_item {x o k:X} {e oe ke:PE} {sp pos:Pos} (hu:30≤u) (h:TE B u c x (fun env=>eval e env)) (h2:TE B u c o (fun env=>eval oe env)) (h3:TE B u c k (fun env=>eval ke env))
  (hs:∀ env:PEnv,env.scope = c.sc→swapsWith e (some (.Subscript oe ke sp)) pos.line env = pure false):TS B u c (.asg (.item o k) x) (fun env=>exec (.Assign [.Subscript oe ke sp] e pos) env):=fun G N Q E K H q z =>
 wpAny_Assign_Subscript (h G N _ E _ H.go q fun d Y v k1 a r=>core_item (Q:=fun _=>Q .next) (K:=fun ρ σ=>K (.next ρ σ)) hu h2 h3 (H.go.to a) r k1 fun Z k b=>z.1 G.ρ Z k (a.trans b).up (H.to (a.trans b))) (hs _ H.go.eo.sc)
end
end Mine.Internal
namespace Mine.Internal
open PySem PySem.W PyProof.Rows PySem.Calls
noncomputable def mthId:Mth→String
 | .app=>"list.append" | .ext=>"list.extend" | .upd=>"dict.update" | .rem=>"list.remove"
noncomputable def mthT:Mth→String
 | .upd=>"dict" | _=>"list"
section
variable {B:Bd} {u:Nat} {c:Ck} {G:Ev} {N Y Z:Nx} {Q E:PV→Shared→Prop} {g:Gt}
noncomputable def MthOk (B:Bd) (u:Nat) (m:Mth):Prop :=
 ∀ (G:Ev) (N:Nx) (k:Nat) (p:Addr × Addr) (d:V) (v:PV) (Q E:PV→Shared→Prop) (K:St→Prop),Room B.n u G.A→Sm B.D N→N.μ[k]? = some p→oK (mthO N.σ d k m N.σ[k]?) K→Val B N d v →
  (∀ o s',K (N.σ.set k o)→Aft B.D N noA (N.ob k o s')→Q .none s')→Wp B G N (call (.builtin (mthId m)) [.ref p.1,v]) Q E
theorem turn_list {b:Addr} {j:Nat} {p:Addr × Addr} {arr:Array PV} {ka:Nat} {k:List V} (f:Array PV→Array PV) (sm:Sm B.D N) (hp:N.μ[j]? = some p) (e12:p.1 = p.2) (il:N.s.heap.get? p.1 = some { cls:=.type "list",dict:=none,data:=.seq arr ka,slots:=#[] }) (rs:Vals B N k (f arr).toList) (tk:Tok) :
  Aft B.D N noA (N.ob j (.list k) { N.s with heap:=N.s.heap.update p.1 (Obj.mapSeq f),toks:=tk }):=by
 have sb:Heap.SameBut p.1 N.s.heap (N.s.heap.update p.1 (Obj.mapSeq f)):=Heap.SameBut.update ..
 obtain ⟨k',e'⟩:∃ k',Obj.mapSeq f { cls:=.type "list",data:=.seq arr ka } = { cls:=.type "list",data:=.seq (f arr) k' }:=⟨_,rfl⟩
 have e2:=Heap.get?_update_self (Obj.mapSeq f) il (by rw [e']; rfl)
 rw [e'] at e2
 exact .ob sm hp (fun b o n e=>sb.extBut b o (e12 ▸ n) e) ⟨_,by rw [← e12]; exact e2⟩ rfl rfl fun l=>⟨e12,f arr,⟨k',e2⟩,RVs_le l _ _ rs⟩
theorem mthL_of {σ:St} {d:V} {k:Nat} {m:Mth} {o:SObj} {K:St→Prop} (hm:m ≠ .upd) (h:oK (mthO σ d k m (some o)) K):∃ l,o = .list l:=by
 cases o with
 | list l=>exact ⟨l,rfl⟩
 | dict l=>cases m <;> first | exact absurd rfl hm | exact False.elim h
 | _=>exact False.elim h
theorem ok_app:MthOk B u .app:=fun G N k p d v Q E K rm sm hp hh rv z=>(st_of (f:=fun o=>oK (mthO N.σ d k .app o) K) sm hp hh id).elim fun o w=>by
 obtain ⟨h,r,hs⟩:=w
 obtain ⟨l,rfl⟩:=mthL_of (m:=.app) (fun h=>nomatch h) h
 obtain ⟨e12,arr,⟨ka,il⟩,rs⟩:=r
 obtain ⟨hz,h⟩:=if_of (oK_map h)
 have hlen:=len_eq (B:=B) rs
 refine wpAny_list_append_plain ⟨ka,il⟩ (fun h' il' sb=>?_) (cap_line (by have hz:(l++[d]).length≤1000000:=hz; rw [List.length_append] at hz; rw [hlen]; exact Nat.le_of_succ_le hz))
 exact z (.list (l++[d])) _ h (.ob sm hp (fun b o n e=>sb.extBut b o (e12 ▸ n) e) (by rw [← e12]; exact il'.elim fun _ e=>⟨_,e⟩) rfl rfl fun le=>⟨e12,arr.push v,il',by rw [Array.toList_push]; exact RVs_append (RVs_le le _ _ rs) ⟨v,[],rfl,RV_le le _ _ rv,rfl⟩⟩)
theorem seqX {v:V} {x:PV} {K:List V→Prop} {Z:Prop} (sm:Sm B.D N) (e:oK (asList N.σ v) K) (r:Val B N v x) (z:∀ l b vs,K l→x = .ref b→(IsLs N.s.heap b vs ∨ IsTp N.s.heap b vs)→Vals B N l vs.toList→Z):Z:=by
 cases v with
 | tup k=>exact r.elim fun a q=>q.elim fun vs q=>z k a vs e q.1 (.inr q.2.2.1) q.2.2.2
 | list k=>exact lst_of (v:=.list k) sm e r fun l a k q rc=>rc.elim fun vs w=>z l a vs k q (.inl w.1) w.2
 | loc k=>exact lst_of (v:=.loc k) sm e r fun l a k q rc=>rc.elim fun vs w=>z l a vs k q (.inl w.1) w.2
 | _=>exact False.elim e
theorem ok_ext:MthOk B u .ext:=fun G N k p d v Q E K rm sm hp hh rv z=>(st_of (f:=fun o=>oK (mthO N.σ d k .ext o) K) sm hp hh id).elim fun o w=>by
 obtain ⟨h,r,hs⟩:=w
 obtain ⟨l,rfl⟩:=mthL_of (m:=.ext) (fun h=>nomatch h) h
 obtain ⟨e12,arr,⟨ka,il⟩,rs⟩:=r
 refine seqX sm (oK_bind h) rv fun k' c arr2 h hx t rs2=>?_
 subst hx
 obtain ⟨hz,h⟩:=if_of (oK_map h)
 have hz2:=cap_size hz rs rs2
 have hs1:¬(!arr.isEmpty && Builtin.List.listTooLong (arr.size + arr2.size)) = true:=fun h=>Nat.not_lt.mpr hz2 (of_decide_eq_true (and_r h))
 have fin:∀ tk,Q .none { N.s with heap:=N.s.heap.update p.1 (Obj.mapSeq fun x=>x++arr2),toks:=tk }:=fun tk=>z _ _ h (turn_list (b:=c) (fun x=>x++arr2) sm hp e12 il (by rw [Array.toList_append]; exact RVs_append rs rs2) tk)
 rcases t with ⟨kb,t⟩ | ⟨kb,t⟩
 ·exact call_meets PySem.F.slot_list_extend ⟨_,il,rfl⟩ PySem.F.entry_list_extend (PySem.F.args_list_extend_2 _ _) (AutoSeq1.list_extend_list_list_0 p.1 arr ka c arr2 kb hs1 (Nat.le_trans (Nat.le_add_right _ _) hz2) (Nat.le_succ_of_le hz2)) ⟨il,t,fin _⟩
 ·exact call_meets PySem.F.slot_list_extend ⟨_,il,rfl⟩ PySem.F.entry_list_extend (PySem.F.args_list_extend_2 _ _) (AutoSeq1.list_extend_list_tuple_0 p.1 arr ka c arr2 kb hs1 (Nat.le_trans (Nat.le_add_right _ _) hz2) (Nat.le_succ_of_le hz2)) ⟨il,t,fin _⟩
theorem eraseIdx_rv {d:List V}:∀ {vs:List PV} (j:Nat),Vals B N d vs→Vals B N (d.eraseIdx j) (vs.eraseIdx j):=by
 induction d with
 | nil=>intro vs j r; cases (show vs = [] from r); rfl
 | cons x l ih =>
  intro vs j r
  obtain ⟨v,t,rfl,r1,r2⟩:=r
  cases j with
  | zero=>exact r2
  | succ j=>exact ⟨v,t.eraseIdx j,rfl,r1,ih j r2⟩
noncomputable def isTxt (z:Str):PV→Bool
 | .str x _=>x == z
 | _=>false
theorem txt_of {d:V} {v:PV} (hd:isS d = true) (r:Val B N d v):∃ x t,v = .str x t∧strOk x = true∧d = .str (encS x):=by
 cases d with
 | str s=>exact r.elim fun x q=>q.elim fun t q=>⟨x,t,q.1,q.2.1,by rw [q.2.2]⟩
 | _=>exact absurd hd Bool.false_ne_true
theorem ok_rem:MthOk B u .rem:=fun G N k p d v Q E K rm sm hp hh rv z=>(st_of (f:=fun o=>oK (mthO N.σ d k .rem o) K) sm hp hh id).elim fun o w=>by
 obtain ⟨h,r,hs⟩:=w
 obtain ⟨l,rfl⟩:=mthL_of (m:=.rem) (fun h=>nomatch h) h
 obtain ⟨e12,arr,⟨ka,il⟩,rs⟩:=r
 obtain ⟨hc,h0⟩:=if_of (oK_map h)
 have hS:=List.all_eq_true.mp (and_l (and_l hc))
 clear h
 refine oK_of (oK_map h0) fun j hj h=>?_
 have hlen:=len_eq (B:=B) rs
 obtain ⟨s,tz,rfl,hzs,rfl⟩:=txt_of (and_r (and_l hc)) rv
 obtain ⟨hjl,hp2,hbefore⟩:=List.findIdx?_eq_some_iff_getElem.mp hj
 -- the items' tests agree
 have tst:∀ i (h2:i < arr.size),(∃ x t,arr[i] = .str x t)∧isTxt s arr[i] = V.beq (l[i]'(hlen ▸ h2)) (.str (encS s)):=fun i h2=>by
  have h1:i < l.length:=hlen ▸ h2
  obtain ⟨w,e1,r1⟩:=RVs_get rs (List.getElem?_eq_getElem h1)
  obtain ⟨x,t,e3,hx,e4⟩:=txt_of (hS _ (List.getElem_mem h1)) r1
  have e2:arr[i] = .str x t:=Option.some.inj (((Array.getElem?_eq_getElem h2).symm.trans Array.getElem?_toList.symm).trans (e1.trans (congrArg some e3)))
  rw [e2,e4]
  exact ⟨⟨x,t,rfl⟩,str_beq hx hzs⟩
 have he:∀ y,y∈arr→MeetsSeq.EqGives y (.str s tz) (isTxt s y):=fun y hy=>by
  obtain ⟨i,h2,rfl⟩:=Array.mem_iff_getElem.mp hy
  obtain ⟨x,t,e⟩:=(tst i h2).1
  rw [e]
  exact eqGives_str x s t tz
 have hja:j < arr.size:=hlen.symm ▸ hjl
 refine call_meets PySem.F.slot_list_remove ⟨_,il,rfl⟩ PySem.F.entry_list_remove (PySem.F.args_list_remove_2 _ _) (MeetsSeq.list_remove p.1 arr ka (.str s tz) (isTxt s) he j hja ((tst j hja).2.trans hp2)
  (fun i h1 h2=>(tst i h1).2.trans (Bool.not_eq_true _ ▸ hbefore i h2)) (cap_ln hlen (of_decide_eq_true (and_r hc)))) ⟨il,z _ _ h (turn_list (b:=p.1) (fun xs=>xs.eraseIdxIfInBounds j) sm hp e12 il ?_ _)⟩
 rw [show (arr.eraseIdxIfInBounds j).toList = arr.toList.eraseIdx j by rw [Array.eraseIdxIfInBounds,dif_pos hja]; simp]
 exact eraseIdx_rv j rs
theorem asListL_of {v:V} {K:List V→Prop} (e:oK (asListL v) K):∃ l,v = .list l∧K l:=by
 cases v <;> first | exact ⟨_,rfl,e⟩ | exact False.elim e
theorem ok_upd:MthOk B u .upd:=fun G N k p d v Q E K rm sm hp hh rv z=>(st_of (f:=fun o=>oK (mthO N.σ d k .upd o) K) sm hp hh id).elim fun o w=>by
 obtain ⟨h,r,hs⟩:=w
 cases o with
 | dict dd =>
  obtain ⟨e12,kvs,td,rs⟩:=r
  obtain ⟨l,rfl,h⟩:=asListL_of (oK_bind h)
  obtain ⟨hz,h⟩:=if_of h
  obtain ⟨b,arr,rfl,wb,il,rsl⟩:=rv
  obtain ⟨kk,ho⟩:=id il
  have nw:¬ N.W p.1:=fun w=>sm.wk _ w ⟨p,List.mem_of_getElem? hp,e12.symm⟩
  have hp1:=(sm.lt p (List.mem_of_getElem? hp)).1
  have nab:p.1 ≠ b:=fun e=>nw (e ▸ wb)
  refine wpAny_call (codeAny_call_builtin PySem.F.slot_dict_update.plain PySem.F.entry_dict_update (PySem.F.slot_dict_update.check _ _ _ _ _ _ _ _ td.2.typeIs (PySem.F.args_dict_update_2 _ _) ?_))
  delta Builtin.«dict.update»
  refine wpAny_bind ?_
  delta Builtin.Dict.selfAndRest
  refine wpAny_bind (wpAny_notOrdered_dict td.2.typeIs ?_)
  show wpAny _ _ (pure (p.1,[Value.ref b])) _ _ _
  refine wpAny_pure ?_
  show wpAny _ _ (Builtin.Dict.updateFrom "dict.update" p.1 (.ref b) [] .none) _ _ _
  delta Builtin.Dict.updateFrom
  refine wpAny_bind (wpAny_typeOf (T:="list") ⟨_,ho,rfl⟩ ?_)
  rw [if_pos (by decide)]
  refine wpAny_bind (keys_of_list ho rm.hand fun h1 tk1 k1=>?_)
  have il1:IsLs h1 b arr:=⟨kk,k1 _ _ ho⟩
  simp only [Option.isNone_none,if_true]
  refine wpAny_bind (wpAny_rule ?_)
  refine wpAny_bind (wpAny_pyIter_list (IsLs.list il1) (wpAny_pure ⟨plainId_quiet plain_upd_loop _,?_⟩))
  have m:More N { N.s with heap:=h1.push (itObj b),toks:=tk1 }:=⟨fun b o e=>Heap.get?_push_of_some _ (k1 b o e),rfl,rfl⟩
  have ni:¬ N.has h1.objs.size:=(⟨k1,rfl,rfl⟩:More N { N.s with heap:=h1 }).no
  have a:=m.aft sm
  refine upd_loop (B:=B) (arr:=arr) (l:=b) (fun e:p.1 = h1.objs.size=>ni (e ▸ hp1)) nab (fun e:h1.objs.size = b=>ni (by rw [e]; exact sm.wd _ wb)) l 0 dd kvs _ 0 (N.at { N.s with heap:=h1.push (itObj b),toks:=tk1 }) nw (fun w=>ni (sm.wd _ w)) rm.hand (Vals.on a rsl) (oK_map h) (RVd_le a.le _ _ rs) (td.at fun o e=>m.k _ _ e)
   ⟨_,Heap.get?_push_size _ rfl,rfl,rfl⟩ ((IsLs.list il1).at fun o e=>Heap.get?_push_of_some _ e) ?_ fun d2 h' tk kvs' k2 kp td' rd=>?_
  ·rw [RVd_length rs]; exact cap_line hz
  ·have kp2:∀ x o,x ≠ p.2→N.s.heap.get? x = some o→h'.get? x = some o:=fun x o n e=>kp x o (e12 ▸ n) (fun q=>ni (q ▸ has_of e)) (m.k x o e)
   exact z (.dict d2) { N.s with heap:=h',toks:=tk } k2 (.ob sm hp kp2 (by rw [← e12]; exact td'.2.elim fun o q=>q.elim fun _ q=>q.elim fun _ q=>⟨o,q.1⟩) rfl rfl fun l=>⟨e12,kvs',td',RVd_le (by exact ⟨fun _ _ w e=>⟨e,w⟩,fun _ _ e=>e⟩) _ _ rd⟩)
 | _=>exact False.elim h
theorem con_typ {m:Mth} {d:V} {v:PV} (sm:Sm B.D N) (h:isCon m d N.σ = true) (r:Val B N d v):N.s.TypeIs v (mthT m)∧∀ a,v = .ref a→∃ o,N.s.heap.get? a = some o∧o.dict = none:=by
 cases d with
 | loc k =>
  obtain ⟨p,rfl,hp⟩:=r
  obtain ⟨o,h,r,_⟩:=st_of (f:=fun o=>conO m o = true) sm hp h fun h=>nomatch h
  cases o with
  | list l=>cases m <;> first | exact list_typ r.2.elim.1 | exact absurd h Bool.false_ne_true | exact r.2.elim fun _ w=>list_typ w.1
  | dict l=>cases m <;> first | exact absurd h Bool.false_ne_true | exact r.2.elim fun _ w=>dict_typ w.1
  | _=>exact absurd h Bool.false_ne_true
 | _=>exact absurd h Bool.false_ne_true
theorem ts_mth {m:Mth} {y x:X} {o e:PE} {meth:Str} {apos cpos pos:Pos} (mo:MthOk B u m) (pa:PlainAttrs (mthT m)) (slot:Slot (mthT m) meth (mthId m)) (hty:typeOf (.builtin (mthId m)) = pure (.type "method_descriptor")) (hb:plainBase o = true) (hl:(apos.endLine == cpos.line) = true) (hst:isStarred e = false)
  (h1:TE B u c y (fun env=>eval o env)) (h:TE B u c x (fun env=>eval e env)):TS B u c (.mth m y x) (fun env=>exec (.Expr (.Call (.Attribute o meth apos) [e] [] cpos) pos) env):=fun G N Q E K H q z =>
 wpAny_Expr_any (call_meth pa slot hty hb hl (show 1 < 29 by decide) (by rw [List.all_cons,hst]; rfl) h1 (tes_cons hst h tes_nil) H.go q fun d Y w k1 a r=>by
  obtain ⟨hc,k1⟩:=bK_of k1
  refine ⟨con_typ a.sm hc r,fun ds σ=>match ds with | [v]=>oK (mthE m d v σ) fun σ=>K (.next G.ρ σ) | _=>False,k1,fun ds Z vs k2 a2 rs=>?_⟩
  match ds,k2,rs with
  | [dv],k2,rs =>
   obtain ⟨vv,rfl,rv⟩:=rs.one
   cases d with
   | loc k =>
    obtain ⟨p,rfl,hp⟩:=Val.on a2 r
    exact mo G Z k p dv vv _ E _ H.go.rm a2.sm hp k2 rv fun o s' k3 b=>z.1 G.ρ (Z.ob k o s') k3 ((a.trans a2).trans b).up (H.to ((a.trans a2).trans b))
   | _=>exact False.elim k2) (by delta interactive; rw [H.go.eo.kind]; rfl) rfl
end
end Mine.Internal
namespace Mine.Internal
open PySem PySem.W PyProof.Rows PySem.Calls
inductive NmS (c:Ck):List Nat→List PE→Prop
 | nil:NmS c [] []
 | cons {x:Str} {i:Nat} {is:List Nat} {es:List PE} {p:Pos}:Nm c x i→NmS c is es→NmS c (i :: is) (.Name x p :: es)
inductive TgOk (c:Ck):Tg→PE→Prop
 | one {x:Str} {i:Nat} {p:Pos}:Nm c x i→TgOk c (.one i) (.Name x p)
 | many {is:List Nat} {es:List PE} {k:Nat} {p:Pos}:NmS c is es→TgOk c (.many is) (.Tuple es k p)
section
variable {B:Bd} {u:Nat} {c:Ck} {G:Ev} {N Y Z:Nx} {E:PV→Shared→Prop}
theorem nms_len {is:List Nat} {es:List PE} (h:NmS c is es) (env:PEnv):(assignEach es env).length = is.length∧(assignEach es env).findIdx? (·.1) = none:=by
 induction h with
 | nil=>exact ⟨rfl,rfl⟩
 | @cons x i is es p h1 _ ih =>
  refine ⟨congrArg (· + 1) ih.1,?_⟩
  show ((false,assign (.Name x p) env) :: assignEach es env).findIdx? (·.1) = none
  rw [List.findIdx?_cons,ih.2]; rfl
theorem stores {is:List Nat} {es:List PE} (h:NmS c is es):∀ (G:Ev) (N:Nx) (l:List V) (vs:List PV) (Q:Unit→Shared→Prop),is.length = l.length→Gs B u c G N→Vals B N l vs →
  (∀ Y,Y.σ = N.σ→Aft B.D N (Fr c G.env) Y→Gs B u c (G.to (setMany is l G.ρ)) Y→Q () Y.s)→Wp B G N (assignInOrder ((assignEach es G.env).map (·.2)) vs) Q E:=by
 induction h with
 | nil=>exact fun G N l vs Q hl H rs q=>assignInOrder_nil (q N rfl (.refl H.go.sm) H)
 | @cons y i is es p h1 _ ih=>exact fun G N l vs Q hl H rs q=>match l,hl,rs with
  | d :: l,hl,⟨v,t,e,r1,r2⟩=>by
   subst e
   show wpAny _ G.A (assignInOrder (assign (.Name y p) G.env :: (assignEach es G.env).map (·.2)) (v :: t)) Q E N.s
   exact assignInOrder_cons (wpAny_assign_Name (store_ok H h1 r1 fun Y e1 a1 H1=>ih (G.set i d) Y l t Q (Nat.succ.inj hl) H1 (Vals.on a1 r2) fun Z e2 a2 H2=>q Z (e2.trans e1) (a1.trans a2) H2))
theorem unpack_sized {t:Addr} {items:Array PV} {targets:List (Bool × (PV→Sem Unit))} {Q:Unit→Shared→Prop} (hh:G.A.handled = none) (ht:N.s.heap.IsTuple t items) (hn:targets.length = items.size) (hstar:targets.findIdx? (·.1) = none)
  (h:∀ s',More N s'→wpAny (model B.D.prog B.D.w) G.A (assignInOrder (targets.map (·.2)) items.toList) Q E s'):Wp B G N (unpack (.ref t) targets) Q E:=by
 delta Wp unpack
 rw [hn,hstar]
 exact wpAny_bind (wpAny_holding (wpAny_unpackItems_tuple hh ht fun h' e=>h { N.s with heap:=h' } ⟨fun b o g=>e b o (fun q=>no_new (q ▸ has_of g)) g,rfl,rfl⟩))
theorem bind_for {tg:Tg} {target:PE} (h:TgOk c tg target) {d:V} {v:PV} {Q:Unit→Shared→Prop} {K:REnv→Prop} (H:Gs B u c G N) (ev:oK (bindTg G.ρ tg d) K) (rv:Val B N d v)
  (z:∀ ρ Y,K ρ→Y.σ = N.σ→Aft B.D N (Fr c G.env) Y→Gs B u c (G.to ρ) Y→Q () Y.s):Wp B G N (assign target G.env v) Q E:=by
 cases h with
 | one hb=>exact wpAny_assign_Name (store_ok H hb rv fun Y e a H1=>z _ Y ev e a H1)
 | @many is es k p hb =>
  cases d with
  | tup l =>
   obtain ⟨hl,ev⟩:=if_of ev
   obtain ⟨a,arr,rfl,wa,t,rs⟩:=rv
   have e:=nms_len hb G.env
   delta Wp
   rw [assign_Tuple]
   refine wpAny_bind (wpAny_standAt (unpack_sized (N:=N) H.go.rm.hand (IsTp.tup t) (e.1.trans (hl.trans (len_eq rs).symm)) e.2 fun s' m=>?_))
   have a:=m.aft H.go.sm
   exact stores hb G (N.at s') l _ Q hl (H.to a) (Vals.on a rs) fun Y e2 a2 H2=>z _ Y ev e2 (a.up.trans a2) H2
  | _=>exact False.elim ev
theorem ts_asgT {is:List Nat} {x:X} {es:List PE} {t:PE} {k:Nat} {tp pos:Pos} (hb:NmS c is es) (h:TE B u c x (fun env=>eval t env)) (hs:∀ env:PEnv,env.scope = c.sc→swapsWithSole [.Tuple es k tp] t pos.line env = pure false) (hw:∀ env:PEnv,env.scope = c.sc→swappedStores [.Tuple es k tp] t env = pure none) :
  TS B u c (.asgT is x) (fun env=>exec (.Assign [.Tuple es k tp] t pos) env):=fun G N Q E K H q z =>
 Assign_Tuple (h G N _ E _ H.go q fun d Y v k1 a r=>bind_for (TgOk.many (k:=k) (p:=tp) hb) (H.to a) k1 r fun ρ Z k2 e b H2=>z.1 ρ Z (by rw [e]; exact k2) (a.up.trans b) H2) (hs _ H.go.eo.sc) (hw _ H.go.eo.sc)
inductive NmN (c:Ck):List Nat→List Str→Prop
 | nil:NmN c [] []
 | cons {x:Str} {i:Nat} {is:List Nat} {xs:List Str}:Nm c x i→NmN c is xs→NmN c (i :: is) (x :: xs)
theorem NmN.len {is:List Nat} {xs:List Str} (h:NmN c is xs):is.length = xs.length:=by
 induction h with
 | nil=>rfl
 | cons _ _ ih=>exact congrArg (· + 1) ih
theorem store_names {is:List Nat} {xs:List Str} (h:NmN c is xs):∀ (G:Ev) (N:Nx) (l:List V) (vs:List PV) (Q:Unit→Shared→Prop),is.length = l.length→Gs B u c G N→Vals B N l vs →
  (∀ Y,Y.σ = N.σ→Aft B.D N (Fr c G.env) Y→Gs B u c (G.to (setMany is l G.ρ)) Y→Q () Y.s)→Wp B G N (assignInOrder (xs.map fun n=>bindName G.env n) vs) Q E:=by
 induction h with
 | nil=>exact fun G N l vs Q hl H rs q=>assignInOrder_nil (q N rfl (.refl H.go.sm) H)
 | @cons y i is xs h1 _ ih =>
  intro G N l vs Q hl H rs q
  cases l with
  | nil=>cases hl
  | cons d l =>
   obtain ⟨v,t,rfl,r1,r2⟩:=rs
   show wpAny _ G.A (assignInOrder (bindName G.env y :: xs.map fun n=>bindName G.env n) (v :: t)) Q E N.s
   exact assignInOrder_cons (bindName_ (store_ok H h1 r1 fun Y e1 a1 H1=>ih (G.set i d) Y l t Q (Nat.succ.inj hl) H1 (Vals.on a1 r2) fun Z e2 a2 H2=>q Z (e2.trans e1) (a1.trans a2) H2))
theorem RVs_rev {D:Wd} {l:List V}:∀ {vs:List PV},RVs D N l vs→RVs D N l.reverse vs.reverse:=by
 induction l with
 | nil=>intro vs r; cases (show vs = [] from r); rfl
 | cons d l ih =>
  intro vs r
  obtain ⟨v,t,rfl,r1,r2⟩:=r
  rw [List.reverse_cons,List.reverse_cons]
  exact RVs_append (ih r2) ⟨v,[],rfl,r1,rfl⟩
theorem ts_asgTs {w:Bool} {is:List Nat} {xs:List X} {es vs:List PE} {k k':Nat} {tp vp pos:Pos} {names:List Str} (hb:match w with | false=>NmS c is es | true=>NmN c is.reverse names.reverse)
  (h:TEs B u c xs (fun env=>spliced (backTo vp (starEach vs env)))) (hl:xs.length≤1000) (hs:∀ env:PEnv,env.scope = c.sc→swapsWithSole [.Tuple es k tp] (.Tuple vs k' vp) pos.line env = pure false)
  (hw:∀ env:PEnv,env.scope = c.sc→swappedStores [.Tuple es k tp] (.Tuple vs k' vp) env = pure (match w with | false=>none | true=>some names)) :
  TS B u c (.asgTs w is xs) (fun env=>exec (.Assign [.Tuple es k tp] (.Tuple vs k' vp) pos) env):=fun G N Q E K H q z=>by
 have tup:∀ {Q':PV→Shared→Prop},(∀ d Y t us,is.length = d.length∧K (.next (setMany (rvs w is) (rvs w d) G.ρ) Y.σ)→Aft B.D N noA Y→IsTp Y.s.heap t us→Vals B Y d us.toList→Q' (.ref t) Y.s)→Wp B G N (eval (.Tuple vs k' vp) G.env) Q' E:=fun q' =>
  Tuple_ (h G N _ E _ H.go q fun d Y v k1 l1 a r=>have b:=tre_ok (o:=tpO v.toArray) a.sm rfl; have w:=bK_of k1
   wpAny_newTuple (q' d (Y.tre _) _ v.toArray ⟨of_decide_eq_true w.1,w.2⟩ (a.trans b) ⟨_,push_at rfl⟩ (Vals.on b r)) (seq_len r l1 hl))
 cases w with
 | false =>
  refine Assign_Tuple (tup fun d Y t us k1 a it rs=>?_) (hs _ H.go.eo.sc) (hw _ H.go.eo.sc)
  have e:=nms_len (show NmS c is es from hb) G.env
  rw [assign_Tuple]
  refine wpAny_bind (wpAny_standAt (unpack_sized (G:=G) (N:=Y) H.go.rm.hand (IsTp.tup it) (e.1.trans (k1.1.trans (len_eq rs).symm)) e.2 fun s' m=>?_))
  have b:=m.aft a.sm
  exact stores (show NmS c is es from hb) G (Y.at s') d _ _ k1.1 (H.to (a.trans b)) (Vals.on b rs) fun Z e2 a2 H2=>z.1 _ Z (by rw [e2]; exact k1.2) ((a.trans b).up.trans a2) H2
 | true =>
  refine Assign_Tuple_swapped (tup fun d Y t us k1 a it rs=>?_) (hs _ H.go.eo.sc) (hw _ H.go.eo.sc)
  have hn:NmN c is.reverse names.reverse:=hb
  have hl2:=hn.len
  rw [List.length_reverse,List.length_reverse] at hl2
  rw [show names.length = us.size from hl2.symm.trans (k1.1.trans (len_eq rs).symm)]
  refine wpAny_unpackItems_tuple H.go.rm.hand (IsTp.tup it) fun h' e=>?_
  have b:=More.aft (y:=Y) (s:={ Y.s with heap:=h' }) ⟨fun b o g=>e b o (fun q=>no_new (q ▸ has_of g)) g,rfl,rfl⟩ a.sm
  exact store_names hn G (Y.at { Y.s with heap:=h' }) d.reverse _ _ (by rw [List.length_reverse,List.length_reverse]; exact k1.1) (H.to (a.trans b)) (RVs_rev (Vals.on b rs)) fun Z e2 a2 H2=>z.1 _ Z (by rw [e2]; exact k1.2) ((a.trans b).up.trans a2) H2
end
end Mine.Internal
namespace Mine.Internal
open PySem PySem.W PyProof.Rows PySem.Calls
noncomputable def TSt (B:Bd) (u:Nat) (c:Ck) (t:Tgt) (tg:PE):Prop :=
 isStarred tg = false∧∀ (G:Ev) (N:Nx) (Q:Unit→Shared→Prop) (E:PV→Shared→Prop) (K:REnv→St→Prop) (d:V) (v:PV),Gs B u c G N→Val B N d v→kSto B.P B.T d G.ρ N.σ K t →
  (∀ ρ Y,K ρ Y.σ→Aft B.D N (Fr c G.env) Y→Gs B u c (G.to ρ) Y→Q () Y.s)→Wp B G N (assign tg G.env v) Q E
section
variable {B:Bd} {u:Nat} {c:Ck} {G:Ev} {N Y Z:Nx} {g:Gt}
theorem st_name {i:Nat} {x:Str} {p:Pos} (nm:Nm c x i):TSt B u c (.name i) (.Name x p):=⟨rfl,fun G N Q E K d v H r k z =>
 wpAny_assign_Name (store_ok H nm r fun Y e a H1=>z _ Y (by rw [e]; exact k) a H1)⟩
theorem st_attr {o:X} {f:Nat} {oe:PE} {attr:Str} {ap:Pos} (F:Facts B g) (hx:attr∈g.flds) (hos:strOk attr = true) (he:encS attr = f) (h2:TE B u c o (fun env=>eval oe env)):TSt B u c (.attr o f) (.Attribute oe attr ap):=⟨rfl,fun G N Q E K d v H r k z=>by
 delta Wp
 rw [assign_Attribute]
 exact wpAny_bind (wpAny_holding (wpAny_mono (core_attr (Q:=Q) F hx hos he h2 H.go r k fun Y k a=>z _ Y k a.up (H.to a)) (fun ov s h=>wpAny_bind (wpAny_standAt (wpAny_bind (wpAny_holding (wpAny_mono h (fun _ s h=>wpAny_release h) fun _ _ x=>x))))) fun _ _ x=>x))⟩
theorem st_item {o k:X} {oe ke:PE} {sp:Pos} (hu:30≤u) (h2:TE B u c o (fun env=>eval oe env)) (h3:TE B u c k (fun env=>eval ke env)):TSt B u c (.item o k) (.Subscript oe ke sp):=⟨rfl,fun G N Q E K d v H r k z=>by
 delta Wp
 rw [assign_Subscript]
 exact wpAny_bind (wpAny_holding (wpAny_mono (core_item (Q:=Q) hu h2 h3 H.go r k fun Y k a=>z _ Y k a.up (H.to a)) (fun ov s h=>wpAny_bind (wpAny_holding (wpAny_mono h (fun iv s h=>wpAny_bind (wpAny_standAt (wpAny_bind (wpAny_holding (wpAny_mono h (fun _ s h=>wpAny_release h) fun _ _ x=>x))))) fun _ _ x=>x))) fun _ _ x=>x))⟩
theorem each_cons {t:PE} {r:List PE} {env:PEnv} (h:isStarred t = false):assignEach (t :: r) env = (false,assign t env) :: assignEach r env:=by
 cases t <;> first | rfl | cases h
theorem stM_len {ts:List Tgt} {es:List PE} (h:All2 (TSt B u c) ts es) (env:PEnv):(assignEach es env).length = ts.length∧(assignEach es env).findIdx? (·.1) = none:=by
 induction h with
 | nil=>exact ⟨rfl,rfl⟩
 | cons h1 _ ih =>
  rw [each_cons h1.1]
  exact ⟨congrArg (· + 1) ih.1,by rw [List.findIdx?_cons,ih.2]; rfl⟩
theorem storesM {ts:List Tgt} {es:List PE} (h:All2 (TSt B u c) ts es):∀ (G:Ev) (N:Nx) (l:List V) (vs:List PV) (Q:Unit→Shared→Prop) (E:PV→Shared→Prop) (K:REnv→St→Prop),ts.length = l.length→Gs B u c G N→Vals B N l vs→kStM B.P B.T ts l G.ρ N.σ K →
  (∀ ρ Y,K ρ Y.σ→Aft B.D N (Fr c G.env) Y→Gs B u c (G.to ρ) Y→Q () Y.s)→Wp B G N (assignInOrder ((assignEach es G.env).map (·.2)) vs) Q E:=by
 induction h with
 | nil=>exact fun G N l vs Q E K hl H rs k z=>assignInOrder_nil (z _ N k (.refl H.go.sm) H)
 | @cons _ _ ts es h1 _ ih =>
  intro G N l vs Q E K hl H rs k z
  cases l with
  | nil=>cases hl
  | cons d l =>
   obtain ⟨v,t,rfl,r1,r2⟩:=rs
   rw [each_cons h1.1]
   exact assignInOrder_cons (h1.2 G N _ E (fun ρ σ=>kStM B.P B.T ts l ρ σ K) d v H r1 k fun ρ Y k a H1=>ih (G.to ρ) Y l t Q E K (Nat.succ.inj hl) H1 (Vals.on a r2) k fun ρ Z k2 b H2=>z ρ Z k2 (a.trans b) H2)
theorem ts_asgM {ts:List Tgt} {x:X} {es:List PE} {t:PE} {k:Nat} {tp pos:Pos} (hb:All2 (TSt B u c) ts es) (h:TE B u c x (fun env=>eval t env)) (hs:∀ env:PEnv,env.scope = c.sc→swapsWithSole [.Tuple es k tp] t pos.line env = pure false) (hw:∀ env:PEnv,env.scope = c.sc→swappedStores [.Tuple es k tp] t env = pure none) :
  TS B u c (.asgM ts x) (fun env=>exec (.Assign [.Tuple es k tp] t pos) env):=fun G N Q E K H q z =>
 Assign_Tuple (h G N _ E _ H.go q fun d Y v k1 a r=>by
  cases d with
  | tup l =>
   obtain ⟨hl,k1⟩:=bK_of k1
   have hl:=of_decide_eq_true hl
   obtain ⟨b,arr,rfl,wa,t,rs⟩:=r
   have e:=stM_len hb G.env
   rw [assign_Tuple]
   refine wpAny_bind (wpAny_standAt (unpack_sized (N:=Y) H.go.rm.hand (IsTp.tup t) (e.1.trans (hl.trans (len_eq rs).symm)) e.2 fun s' m=>?_))
   have b:=m.aft a.sm
   exact storesM hb G (Y.at s') l _ _ E _ hl (H.to (a.trans b)) (Vals.on b rs) k1 fun ρ Z k2 b2 H2=>z.1 ρ Z k2 ((a.trans b).up.trans b2) H2
  | _=>exact False.elim k1) (hs _ H.go.eo.sc) (hw _ H.go.eo.sc)
end
end Mine.Internal
namespace Mine.Internal
open PySem PySem.W PyProof.Rows PySem.Calls
mutual
theorem beq_eq:∀ (a:V) {b:V},V.beq a b = true→a = b
 | .none,b,h=>by cases b <;> first | rfl | exact absurd h Bool.false_ne_true
 | .bool x,b,h=>by cases b <;> first | exact congrArg V.bool (eq_of_beq h) | exact absurd h Bool.false_ne_true
 | .int x,b,h=>by cases b <;> first | exact congrArg V.int (of_decide_eq_true h) | exact absurd h Bool.false_ne_true
 | .str x,b,h=>by cases b <;> first | exact congrArg V.str (of_decide_eq_true h) | exact absurd h Bool.false_ne_true
 | .loc x,b,h=>by cases b <;> first | exact congrArg V.loc (of_decide_eq_true h) | exact absurd h Bool.false_ne_true
 | .tup l,b,h=>by cases b <;> first | exact congrArg V.tup (beqs_eq l h) | exact absurd h Bool.false_ne_true
 | .list l,b,h=>by cases b <;> first | exact congrArg V.list (beqs_eq l h) | exact absurd h Bool.false_ne_true
 | .dict l,b,h=>by cases b <;> first | exact congrArg V.dict (beqp_eq l h) | exact absurd h Bool.false_ne_true
theorem beqs_eq:∀ (a:List V) {b:List V},beqs a b = true→a = b
 | [],b,h=>by cases b <;> first | rfl | exact absurd h Bool.false_ne_true
 | x :: r,b,h=>by cases b <;> first | exact (have w:=Bool.and_eq_true_iff.mp h; List.cons_eq_cons.mpr ⟨beq_eq x w.1,beqs_eq r w.2⟩) | exact absurd h Bool.false_ne_true
theorem beqp_eq:∀ (a:List (V × V)) {b:List (V × V)},beqp a b = true→a = b
 | [],b,h=>by cases b <;> first | rfl | exact absurd h Bool.false_ne_true
 | (x,y) :: r,b,h=>by cases b <;> first | exact (have w:=Bool.and_eq_true_iff.mp h; have z:=Bool.and_eq_true_iff.mp w.2; List.cons_eq_cons.mpr ⟨Prod.ext (beq_eq x w.1) (beq_eq y z.1),beqp_eq r z.2⟩) | exact absurd h Bool.false_ne_true
end
theorem still_of {g:Option Nat} {l:List V} {σ:St} (h:stillB g l σ = true):still g l σ:=by
 cases g with
 | none=>trivial
 | some n =>
  show σ[n]? = _
  have h:stO l σ[n]? = true:=h
  generalize σ[n]? = o at h ⊢
  cases o with
  | none=>exact absurd h Bool.false_ne_true
  | some o=>cases o <;> first | exact congrArg (fun l=>some (SObj.list l)) (beqs_eq _ h) | exact absurd h Bool.false_ne_true
theorem stB_of {g:Option Nat} {l:List V} {σ:St} {p:Prop} (h:bK (stillB g l σ) p):still g l σ∧p:=⟨still_of (bK_of h).1,(bK_of h).2⟩
structure ItOk (D:Wd) (tg:PE) (I:Addr) (fp:Addr→Prop) (J:Nat→Nx→Prop) (vs:List V) (g:Option Nat):Prop where
 jm:∀ (k:Nat) (N Y:Nx),Le N Y→(∀ b,fp b→∀ o,N.s.heap.get? b = some o→Y.s.heap.get? b = some o)→J k N→J k Y
 item:∀ (A:Around) (k:Nat) (d:V) (N:Nx) (Q:PV→Shared→Prop) (E E':PV→Shared→Prop),A.handled = none→vs[k]? = some d→J k N→Sm D N→(∀ b,fp b→Pv N b)→still g vs N.σ →
  (∀ v Y,J (k + 1) Y→Aft D N fp Y→Y.σ = N.σ→RV D Y d v→Q v Y.s)→wpAny (model D.prog D.w) A (pyNext (.ref I)) (fun r s₁=>∃ v,r = some v∧wpAny (model D.prog D.w) A (letOwnedTupleGo tg (.ref I) v) (fun _ s₂=>Q v s₂) E' s₁) E N.s
 stop:∀ (A:Around) (N:Nx) (Q:Shared→Prop) (E:PV→Shared→Prop),A.handled = none→J vs.length N→Sm D N→still g vs N.σ →
  (∀ s₁:Shared,(∀ b o,N.s.heap.get? b = some o→¬ fp b→s₁.heap.get? b = some o)→s₁.gens = N.s.gens→s₁.os = N.s.os→Q s₁)→wpAny (model D.prog D.w) A (pyNext (.ref I)) (fun r s₁=>r = none∧Q s₁) E N.s
 self:∀ (A:Around) (k:Nat) (N:Nx) (Q:PV→Shared→Prop) (E:PV→Shared→Prop),J k N→Q (.ref I) N.s→wpAny (model D.prog D.w) A (pyIter (.ref I)) Q E N.s
noncomputable def ownsTuples (n:String):Bool:=["enumerate","zip","dict_itemiterator","dict_reverseitemiterator","odict_iterator","itertools.zip_longest","itertools.pairwise"].contains n
noncomputable def Itr (nm:String) (h:Heap) (a l:Addr) (i:Nat):Prop:=∃ o,h.get? a = some o∧o.cls = .type nm∧o.data = .fields #[.ref l,.int i 0]
noncomputable def Cn (D:Wd) (g:Option Nat) (vs:List V) (T:Heap→Addr→Array PV→Prop) (l:Addr) (C:Nx→Prop):Prop :=
 (∀ N Y,Le N Y→C N→C Y)∧∀ N,Sm D N→still g vs N.σ→C N→∃ arr,T N.s.heap l arr∧RVs D N vs arr.toList
section
variable {D:Wd} {A:Around} {N:Nx} {tg:PE} {vs:List V} {g:Option Nat} {it l:Addr} {C:Nx→Prop}
theorem letgo_skip {s:Shared} {I:Addr} {v:PV} {o:Obj} {n:String} {vs:Array PV} {Q:Unit→Shared→Prop} {E:PV→Shared→Prop} (ho:s.heap.get? I = some o) (hc:o.cls = .type n) (hd:o.data = .fields vs) (hn:ownsTuples n = false) (q:Q () s) :
  wpAny (model D.prog D.w) A (letOwnedTupleGo tg (.ref I) v) Q E s:=by
 have core:wpAny (model D.prog D.w) A (do
   let (.ref r,.ref a):=((.ref I,v):PV × PV) | return
   let o ← load r
   match o.cls,o.data with
   | .type n,.fields vs =>
    if ["enumerate","zip","dict_itemiterator","dict_reverseitemiterator","odict_iterator","itertools.zip_longest","itertools.pairwise"].contains n && vs[0]? == some (rawInt a) then
     rule "for.unpacks-the-owned-tuple"
     updateField r 0 .none
   | _,_=>pure ():Sem Unit) Q E s:=by
  cases v with
  | ref T =>
   refine wpAny_bind (wpAny_load ho ?_)
   rw [hc,hd]
   show wpAny _ _ (if (ownsTuples n && _) = true then _ else _) _ _ _
   rw [hn]
   exact wpAny_pure q
  | _=>exact wpAny_pure q
 cases tg <;> first | exact core | exact wpAny_pure q
theorem get_arr {arr:Array PV} {k:Nat} {x:Option PV} (h:arr.toList[k]? = x):arr[k]? = x:=by rw [← Array.getElem?_toList]; exact h
theorem arr_stop {arr:Array PV} (r:RVs D N vs arr.toList):arr[vs.length]? = none:=get_arr (List.getElem?_eq_none (Nat.le_of_eq (RVs_length r)))
theorem it_seq {nm:String} {T:Heap→Addr→Array PV→Prop} (hn:ownsTuples nm = false) (hc:Cn D g vs T l C)
  (hi:∀ {A:Around} {s:Shared} {i:Nat} {arr:Array PV} {x:PV} {Q:Option PV→Shared→Prop} {E:PV→Shared→Prop},Itr nm s.heap it l i→T s.heap l arr→arr[i]? = some x→(∀ h',Itr nm h' it l (i + 1)→Heap.SameBut it s.heap h'→Q (some x) { s with heap:=h' })→wpAny (model D.prog D.w) A (pyNext (.ref it)) Q E s)
  (he:∀ {A:Around} {s:Shared} {i:Nat} {arr:Array PV} {Q:Option PV→Shared→Prop} {E:PV→Shared→Prop},A.handled = none→Itr nm s.heap it l i→T s.heap l arr→arr[i]? = none→(∀ h',Heap.ExtBut it s.heap h'→Q none { s with heap:=h' })→wpAny (model D.prog D.w) A (pyNext (.ref it)) Q E s)
  (hs:∀ {A:Around} {s:Shared} {i:Nat} {Q:PV→Shared→Prop} {E:PV→Shared→Prop},Itr nm s.heap it l i→Q (.ref it) s→wpAny (model D.prog D.w) A (pyIter (.ref it)) Q E s) :
  ItOk D tg it (fun b=>b = it) (fun k N=>Itr nm N.s.heap it l k∧C N) vs g :=
 ⟨fun k N Y le hk j=>⟨j.1.elim fun o q=>⟨o,hk it rfl o q.1,q.2⟩,hc.1 N Y le j.2⟩,
  fun A k d N Q E E' hh hv j m pv st q=>(hc.2 N m st j.2).elim fun arr w=>(RVs_get w.2 hv).elim fun x r=>hi j.1 w.1 (get_arr r.1) fun h' j2 sb =>
   have a:=Aft.turn1 (t:=N.s.toks) m (pv it rfl) (fun c o n e=>sb.extBut c o n e) (j2.elim fun o q=>⟨o,q.1⟩)
   ⟨x,rfl,j2.elim fun o w=>letgo_skip w.1 w.2.1 w.2.2 hn (q x (N.at { N.s with heap:=h' }) ⟨j2,hc.1 _ _ a.le j.2⟩ a rfl (RV_le a.le d x r.2))⟩,
  fun A N Q E hh j m st q=>(hc.2 N m st j.2).elim fun arr w=>he hh j.1 w.1 (arr_stop w.2) fun h' sb=>⟨rfl,q { N.s with heap:=h' } (fun b o e n=>sb b o n e) rfl rfl⟩,
  fun A k N Q E j q=>hs j.1 q⟩
theorem it_list (hc:Cn D g vs Heap.IsList l C):ItOk D tg it (fun b=>b = it) (fun k N=>Itr "list_iterator" N.s.heap it l k∧C N) vs g :=
 it_seq (by decide) hc (fun a b c q=>wpAny_pyNext_list_item a b c q) (fun a b c d q=>wpAny_pyNext_list_end a b c d q) fun a q=>wpAny_pyIter_listiter a q
theorem it_tuple (hc:Cn D g vs Heap.IsTuple l C):ItOk D tg it (fun b=>b = it) (fun k N=>Itr "tuple_iterator" N.s.heap it l k∧C N) vs g :=
 it_seq (by decide) hc (fun a b c q=>wpAny_pyNext_tuple_item a b c q) (fun a b c d q=>wpAny_pyNext_tuple_end a b c d q) fun a q=>wpAny_pyIter_tupleiter a q
theorem range_at {n k:Nat} {d:V} (h:((List.range n).map fun (k:Nat)=>V.int k)[k]? = some d):k < n∧d = .int k:=by
 have l:=(List.getElem?_eq_some_iff.mp h).1
 rw [List.length_map,List.length_range] at l
 rw [List.getElem?_map,List.getElem?_range l] at h
 exact ⟨l,(Option.some.inj h).symm⟩
theorem it_range {n:Nat}:ItOk D tg it (fun b=>b = it) (fun k N=>IsRangeIter N.s.heap it k (n - k:Int) 1) ((List.range n).map fun (k:Nat)=>V.int k) none :=
 ⟨fun k N Y le hk j=>hk it rfl _ j,
  fun A k d N Q E E' hh hv j m pv st q=>have w:=range_at hv
   wpAny_pyNext_range_item j (Int.sub_pos.mpr (Int.ofNat_lt.mpr w.1)) fun h' j2 sb =>
    have a:=Aft.turn1 (t:=N.s.toks + 1) m (pv it rfl) (fun c o n e=>sb.extBut c o n e) ⟨_,j2⟩
    ⟨_,rfl,letgo_skip j2 rfl rfl (by decide) (q _ (N.at { N.s with heap:=h',toks:=N.s.toks + 1 }) (by
     show IsRangeIter h' it ((k + 1:Nat):Int) ((n:Int) - ((k + 1:Nat):Int)) 1
     rw [Int.natCast_add,← Int.sub_sub]; exact j2) a rfl (by rw [w.2]; exact ⟨_,rfl⟩))⟩,
  fun A N Q E hh j m st q=>wpAny_pyNext_range_end hh j (by rw [List.length_map,List.length_range]; exact Int.le_of_eq (Int.sub_self _)) fun h' sb=>⟨rfl,q { N.s with heap:=h' } (fun b o e n=>sb b o n e) rfl rfl⟩,
  fun A k N Q E j q=>wpAny_pyIter_rangeiter j q⟩
theorem hand_out {F:Addr→Prop} {s:Shared} {T:Addr} {a b:PV} (m:Sm D N) (hF:∀ b,F b→Pv N b) (k:∀ b o,N.s.heap.get? b = some o→¬ F b→s.heap.get? b = some o) (z:∀ a,F a→∃ o,s.heap.get? a = some o) (g:s.gens = N.s.gens) (os:s.os = N.s.os) (hT:IsPair s.heap T a b) (nT:¬ N.has T) :
  Aft D N F ((N.at s).wi T)∧∀ {d1 d2},RV D ((N.at s).wi T) d1 a→RV D ((N.at s).wi T) d2 b→RV D ((N.at s).wi T) (.tup [d1,d2]) (.ref T) :=
 ⟨(Aft.turn m hF k (fun a f=>Option.isSome_iff_exists.mpr (z a f)) g os).wi ⟨Option.isSome_iff_exists.mpr ⟨_,hT⟩,fun w=>nT (m.wd T w),fun p hp=>⟨fun e=>nT (e ▸ (m.lt p hp).1),fun e=>nT (e ▸ (m.lt p hp).2)⟩⟩ nT,
  fun r1 r2=>⟨T,_,rfl,.inr rfl,⟨_,hT⟩,_,_,rfl,r1,_,_,rfl,r2,rfl⟩⟩
theorem enum_at {k:Nat} {d:V} (h:((List.range vs.length).zip vs |>.map fun (q:Nat × V)=>V.tup [.int q.1,q.2])[k]? = some d):∃ x,vs[k]? = some x∧d = .tup [.int k,x]:=by
 rw [List.getElem?_map] at h
 obtain ⟨⟨a,x⟩,e1,e2⟩:=Option.map_eq_some_iff.mp h
 have e3:=List.getElem?_zip_eq_some.mp e1
 have l:=(List.getElem?_eq_some_iff.mp e3.1).1
 rw [List.length_range] at l
 exact ⟨x,e3.2,by rw [← e2,← Option.some.inj ((List.getElem?_range l).symm.trans e3.1)]⟩
theorem it_enum {elts:List PE} {x1:Nat} {tp:Pos} {e:Addr} (hei:e ≠ it) (hc:Cn D none vs Heap.IsList l C) :
  ItOk D (.Tuple elts x1 tp) e (fun b=>b = e ∨ b = it) (fun k N=>(∃ old,IsEnum N.s.heap e it (k:Int) old)∧Itr "list_iterator" N.s.heap it l k∧C N) ((List.range vs.length).zip vs |>.map fun (q:Nat × V)=>V.tup [.int q.1,q.2]) none :=
 ⟨fun k N Y le hk j=>⟨j.1.elim fun old q=>⟨old,hk e (.inl rfl) _ q⟩,j.2.1.elim fun o q=>⟨o,hk it (.inr rfl) o q.1,q.2⟩,hc.1 N Y le j.2.2⟩,
  fun A k d N Q E E' hh hv j m pv st q=>(enum_at hv).elim fun y w=>(hc.2 N m trivial j.2.2).elim fun arr t=>(RVs_get t.2 w.1).elim fun v r=>j.1.elim fun old h1 =>
   wpAny_pyNext_enum_item h1 j.2.1 t.1 (x:=v) (get_arr r.1) hei fun h' h3 h4 h5 h6 k1=>⟨_,rfl,wpAny_letOwnedTupleGo_enum h3 fun h'' h7 sb =>
    have hne:N.s.heap.objs.size ≠ e:=fun z=>no_new (z ▸ has_of h1)
    have i2:Itr "list_iterator" h'' it l (k + 1):=h4.elim fun o q=>⟨o,sb.extBut it o hei.symm q.1,q.2⟩
    have a:=hand_out (s:={ N.s with heap:=h'',toks:=N.s.toks + 1 }) m pv (fun b o eo n=>sb.extBut b o (fun z=>n (.inl z)) (k1 b o (fun z=>n (.inl z)) (fun z=>n (.inr z)) eo)) (fun a f=>f.elim (fun f=>⟨_,f ▸ h7⟩) fun f=>i2.elim fun o q=>⟨o,f ▸ q.1⟩) rfl rfl (sb.extBut _ _ hne h5) no_new
    q _ _ ⟨⟨_,by rw [Int.natCast_add]; exact h7⟩,i2,hc.1 _ _ a.1.le j.2.2⟩ a.1 rfl (by rw [w.2]; exact a.2 ⟨_,rfl⟩ (RV_le a.1.le y v r.2))⟩,
  fun A N Q E hh j m st q=>(hc.2 N m trivial j.2.2).elim fun arr t=>j.1.elim fun old h1=>by
   have z:((List.range vs.length).zip vs |>.map fun (q:Nat × V)=>V.tup [.int q.1,q.2]).length = vs.length:=by rw [List.length_map,List.length_zip,List.length_range,Nat.min_self]
   have j2:=j.2.1
   rw [z] at h1 j2
   exact wpAny_pyNext_enum_end hh h1 j2 t.1 (arr_stop t.2) fun h' sb=>⟨rfl,q { N.s with heap:=h' } (fun b o e n=>sb b o (fun z=>n (.inr z)) e) rfl rfl⟩,
  fun A k N Q E j q=>j.1.elim fun _ h1=>wpAny_pyIter_enum h1 q⟩
end
end Mine.Internal
namespace Mine.Internal
open PySem PySem.W PyProof.Rows PySem.Calls
noncomputable def TSr (B:Bd) (u:Nat) (c:Ck) (tg:PE) (x:Src) (t:PE):Prop :=
 ∀ (G:Ev) (N:Nx) (Q E:PV→Shared→Prop) (K:List V × Option Nat→St→Prop),Go B u c G N→kSrc B.P B.T x G.ρ N.σ K →
  (∀ vs g Y I fp J,K (vs,g) Y.σ→ItOk B.D tg I fp J vs g→J 0 Y→Aft B.D N noA Y→(∀ b,fp b→¬ N.has b∧Pv Y b)→Q (.ref I) Y.s) →
  Wp B G N (eval t G.env) (fun x s₁=>wpAny (model B.D.prog B.D.w) G.A (pyIter x) Q E s₁) E
noncomputable def lone (l:List V) (p:V→Prop):Prop:=match l with
 | [v]=>p v
 | _=>False
theorem lone_of {l:List V} {p:V→Prop} (h:lone l p):∃ v,l = [v]∧p v:=match l,h with
 | [v],h=>⟨v,rfl,h⟩
section
variable {D:Wd} {A:Around} {N:Nx} {g:Option Nat} {it l:Addr} {C:Nx→Prop}
theorem cn_tp {vs:List V} {b:Addr}:Cn D none vs Heap.IsTuple b fun N=>N.W b∧∃ arr,IsTp N.s.heap b arr∧RVs D N vs arr.toList :=
 ⟨fun N Y le h=>h.2.elim fun arr q=>have w:=q.1.le le h.1; ⟨w.1,arr,w.2,RVs_le le _ _ q.2⟩,fun N m st h=>h.2.elim fun arr q=>⟨arr,q.1.tup,q.2⟩⟩
theorem cn_ls {vs:List V} {b:Addr}:Cn D none vs Heap.IsList b fun N=>N.W b∧∃ arr,IsLs N.s.heap b arr∧RVs D N vs arr.toList :=
 ⟨fun N Y le h=>h.2.elim fun arr q=>have w:=q.1.le le h.1; ⟨w.1,arr,w.2,RVs_le le _ _ q.2⟩,fun N m st h=>h.2.elim fun arr q=>⟨arr,q.1.list,q.2⟩⟩
theorem cn_st {vs:List V} {n:Nat} {p:Addr × Addr}:Cn D (some n) vs Heap.IsList p.1 fun N=>N.μ[n]? = some p :=
 ⟨fun N Y le h=>le.m _ _ h,fun N m st h=>(m.obj n _ p st h).2.elim fun arr q=>⟨arr,q.1.list,q.2⟩⟩
theorem RVd_at:∀ {d:List (V × V)} {v:List (Str × PV)},RVd D N d v→∀ {i:Nat} {q:V × V},d[i]? = some q→∃ y u,v[i]? = some (y,u)∧(q.1 = .str (encS y)∧strOk y = true)∧RV D N q.2 u:=by
 intro d
 induction d with
 | nil=>intro v r i q e; cases e
 | cons x l ih =>
  intro v r i q e
  obtain ⟨n,w,t,rfl,hk,r1,r2⟩:=r
  cases i with
  | zero=>cases e; exact ⟨n,w,rfl,hk,r1⟩
  | succ i=>exact ih r2 (i:=i) e
theorem entry_itemiter:entryFor table "dict_itemiterator.__iter__" = some Builtin.«dict_keyiterator.__iter__» :=
 entryFor_alias (id':="dict_keyiterator.__iter__") (by kernel_rfl) (by first | rfl | decide +kernel | (unfold String.splitOn; simp +decide [String.splitOnAux])) (by decide +kernel) (by kernel_rfl)
theorem pyIter_itemiter {prog:Program} {w:World} {s:Shared} {d:Addr} {i n ep:Nat} {ok ov:PV} {Q:PV→Shared→Prop} {E:PV→Shared→Prop} (hit:IsItemIter s.heap it d i n ep ok ov) (h:Q (.ref it) s):wpAny (model prog w) A (pyIter (.ref it)) Q E s :=
 have hT:s.TypeIs (.ref it) "dict_itemiterator":=⟨_,hit,rfl⟩
 wpAny_pyIter_slot hT PySem.F.slot_dict_itemiterator_iter (wpAny_call_entry PySem.F.slot_dict_itemiterator_iter hT entry_itemiter (show wpAny _ _ (ret (.ref it)) _ _ s from wpAny_pure ⟨_,rfl,"dict_itemiterator",_,hT,PySem.F.slot_dict_itemiterator_next.lookup,h⟩) (PySem.F.args_dict_itemiterator_iter_1 _))
theorem it_items {elts:List PE} {x1:Nat} {tp:Pos} {d:Addr} {vs:List (V × V)} {n ep:Nat} :
  ItOk D (.Tuple elts x1 tp) it (fun b=>b = it) (fun k N=>(∃ ok ov,IsItemIter N.s.heap it d k n ep ok ov)∧N.W d∧∃ kvs,N.s.heap.DictAt (SK D) d kvs ep∧RVd D N vs kvs∧n = kvs.length) (vs.map fun (q:V × V)=>V.tup [q.1,q.2]) none :=
 have go:∀ {N Y:Nx},Le N Y→(N.W d∧∃ kvs,N.s.heap.DictAt (SK D) d kvs ep∧RVd D N vs kvs∧n = kvs.length)→Y.W d∧∃ kvs,Y.s.heap.DictAt (SK D) d kvs ep∧RVd D Y vs kvs∧n = kvs.length:=fun {N Y} le j =>
  ⟨j.2.elim fun kvs q=>q.1.elim fun o q=>q.elim fun es q=>(le.w d _ j.1 q.1).2,j.2.elim fun kvs q=>⟨kvs,q.1.elim fun o r=>r.elim fun es r=>⟨o,es,(le.w d _ j.1 r.1).1,r.2⟩,RVd_le le _ _ q.2.1,q.2.2⟩⟩
 ⟨fun k N Y le hk j=>⟨j.1.elim fun ok q=>q.elim fun ov q=>⟨ok,ov,hk it rfl _ q⟩,go le j.2⟩,
  fun A k dd N Q E E' hh hv j m pv st q=>by
   obtain ⟨⟨ok,ov,h1⟩,wd,kvs,t,rs,e0⟩:=id j
   rw [e0] at h1
   rw [List.getElem?_map] at hv
   obtain ⟨p,hp,hd⟩:=Option.map_eq_some_iff.mp hv
   obtain ⟨y,v,e1,hk,rv⟩:=RVd_at rs hp
   refine wpAny_pyNext_items_item h1 t e1 fun key h' hkey h3 h5 h6 k1=>⟨_,rfl,wpAny_letOwnedTupleGo_items h3 fun h'' h7 sb=>?_⟩
   have hne:N.s.heap.objs.size ≠ it:=fun z=>no_new (z ▸ has_of h1)
   have a:=hand_out (s:={ N.s with heap:=h'' }) m pv (fun b o eo n=>sb.extBut b o n (k1 b o n eo)) (fun a f=>⟨_,f ▸ h7⟩) rfl rfl (sb.extBut _ _ hne h5) no_new
   obtain ⟨tk,rfl⟩:=Value.isStrOf_shape hkey
   rw [← e0] at h7
   exact q _ _ ⟨⟨_,_,h7⟩,go a.1.le j.2⟩ a.1 rfl (by rw [← hd]; exact a.2 (by rw [hk.1]; exact ⟨y,tk,rfl,hk.2,rfl⟩) (RV_le a.1.le _ v rv)),
  fun A N Q E hh j m st q=>by
   obtain ⟨⟨ok,ov,h1⟩,wd,kvs,t,rs,e0⟩:=j
   rw [List.length_map,← RVd_length rs,e0] at h1
   exact wpAny_pyNext_items_end hh h1 t (List.getElem?_eq_none (Nat.le_refl _)) fun h' sb=>⟨rfl,q { N.s with heap:=h' } (fun b o e n=>sb b o n e) rfl rfl⟩,
  fun A k N Q E j q=>j.1.elim fun _ w=>w.elim fun _ w=>pyIter_itemiter w q⟩
end
section
variable {B:Bd} {u:Nat} {c:Ck} {G:Ev} {N Y Z:Nx} {g:Gt}
theorem tsr_val {tg:PE} {y:X} {e:PE} (h:TE B u c y (fun env=>eval e env)):TSr B u c tg (.val y) e:=fun G N Q E K H q z=>h G N _ E _ H q fun d Y v k a r=>by
 have fin:∀ {l:List V} {g:Option Nat} {o:Obj} {J:Nat→Nx→Prop},o.isFreed = false→K (l,g) Y.σ→ItOk B.D tg Y.s.heap.objs.size (fun b=>b = Y.s.heap.objs.size) J l g→(Aft B.D Y noA (Y.psh o)→J 0 (Y.psh o))→Q (.ref Y.s.heap.objs.size) (Y.psh o).s:=fun {l g o J} hf k io j =>
  have w:=push_ok a.sm hf
  z l g (Y.psh o) _ _ J k io (j w.1) (a.trans w.1) fun b e=>⟨fun h=>no_new (a.ex _ (e ▸ h)),e ▸ w.2⟩
 cases d with
 | tup l =>
  obtain ⟨b,arr,rfl,w,t,rs⟩:=r
  exact wpAny_pyIter_tuple t.tup (fin rfl k (it_tuple cn_tp) fun a=>⟨⟨_,push_at rfl,rfl,rfl⟩,cn_tp.1 _ _ a.le ⟨w,arr,t,rs⟩⟩)
 | list l =>
  obtain ⟨b,arr,rfl,w,t,rs⟩:=r
  exact wpAny_pyIter_list t.list (fin rfl k (it_list cn_ls) fun a=>⟨⟨_,push_at rfl,rfl,rfl⟩,cn_ls.1 _ _ a.le ⟨w,arr,t,rs⟩⟩)
 | loc n =>
  obtain ⟨p,rfl,hp⟩:=r
  obtain ⟨o,k,w,e⟩:=st_of (f:=fun o=>oK (locL o) fun l=>K (l,some n) Y.σ) a.sm hp k id
  cases o with
  | list l=>exact (cn_st.2 Y a.sm e hp).elim fun arr t=>wpAny_pyIter_list t.1 (fin rfl k (it_list (cn_st (p:=p))) fun a=>⟨⟨_,push_at rfl,rfl,rfl⟩,hp⟩)
  | _=>exact False.elim k
 | _=>exact False.elim k
theorem range_size {n:Int}:Builtin.Range.rangeSize 0 n 1 = (n.toNat:Int):=by
 delta Builtin.Range.rangeSize
 rw [if_pos (by decide)]
 split
 ·rename_i h
  have:(n - 0 - 1) / 1 = n - 1:=by rw [Int.ediv_one]; (first | lia | omega)
  rw [this]; (first | lia | omega)
 ·(first | lia | omega)
theorem range_small {n:Int} (h1:-1000000≤n) (h2:n≤1000000):Builtin.Range.small 0 n 1 = true:=by
 have p:(2:Int) ^ 63 = 9223372036854775808:=by decide
 have h4:((n.toNat:Int))≤1000000:=by (first | lia | omega)
 have h3:(0:Int)≤(n.toNat:Int):=by (first | lia | omega)
 delta Builtin.Range.small
 rw [range_size]
 delta Builtin.Range.rangeFitsLong
 rw [p,if_pos (by decide)]
 simp only [Bool.and_eq_true,Bool.or_eq_true,decide_eq_true_eq]
 refine ⟨⟨⟨⟨⟨?_,?_⟩,?_,?_⟩,?_,?_⟩,?_,?_⟩,.inr ⟨?_,?_⟩⟩ <;> (first | lia | omega)
theorem tsr_range {tg:PE} {y:X} {e:PE} {x:Str} {np pos:Pos} (F:Facts B g) (BB:BiOk B.D c x (.type "range")) (hs:isStarred e = false) (h:TEs B u c [y] (fun env=>spliced (backTo pos (starEach [e] env)))) :
  TSr B u c tg (.range y) (.Call (.Name x np) [e] [] pos):=fun G N Q E K H q z =>
 call_name (K:=fun l σ=>lone l fun v=>oK (rangeE v) fun l=>K (l,none) σ) F BB rfl (by rw [List.all_cons,hs]; rfl) h H q fun ds Y vs k a r=>by
  obtain ⟨d,rfl,k⟩:=lone_of k
  obtain ⟨v,rfl,rv⟩:=Vals.one r
  obtain ⟨n,t,rfl,rfl,k⟩:=asInt_of (oK_bind k) rv
  have w:=if_of k
  refine call_range_1 (wpAny_pyIter_range (push_at rfl) (range_small w.1.1 w.1.2) ?_)
  have m:=((More.refl Y).push { cls:=.type "range",data:=.fields #[.int 0 Y.s.toks,.int n t,.int 1 (Y.s.toks + 1)] }).toks (Y.s.toks + 1 + 1)
  rw [range_size]
  exact z _ none (Y.at _) _ _ _ w.2 it_range (by rw [Int.natCast_zero,Int.sub_zero]; exact push_at rfl) (a.trans ((m.push _).aft a.sm)) fun b e=>⟨fun h=>m.no (a.ex _ (e ▸ h)),e ▸ (m.push _).pv a.sm m.no (push_at rfl)⟩
theorem tsr_enum {elts:List PE} {x1:Nat} {tp:Pos} {y:X} {e:PE} {x:Str} {np pos:Pos} (F:Facts B g) (BB:BiOk B.D c x (.type "enumerate")) (hs:isStarred e = false) (h:TEs B u c [y] (fun env=>spliced (backTo pos (starEach [e] env)))) :
  TSr B u c (.Tuple elts x1 tp) (.enum y) (.Call (.Name x np) [e] [] pos):=fun G N Q E K H q z =>
 call_name (K:=fun l σ=>lone l fun v=>oK (asListL v) fun l=>K (((List.range l.length).zip l |>.map fun (q:Nat × V)=>V.tup [.int q.1,q.2]),none) σ) F BB rfl (by rw [List.all_cons,hs]; rfl) h H q fun ds Y vs k a r=>by
  obtain ⟨d,rfl,k⟩:=lone_of k
  obtain ⟨v,rfl,rv⟩:=Vals.one r
  cases d with
  | list l =>
   obtain ⟨b,arr,rfl,wa,t,rs⟩:=rv
   refine call_enumerate_list t.list fun h' h1 h2 h3 kp=>wpAny_pyIter_enum h1 ?_
   have m:More Y { Y.s with heap:=h' }:=⟨kp,rfl,rfl⟩
   have n1:∀ {k:Nat},Y.s.heap.objs.size≤k→¬ Y.has k:=fun hk h=>absurd (has_lt h) (Nat.not_lt.mpr hk)
   have af:=m.aft a.sm
   exact z _ none (Y.at _) _ _ _ k (it_enum (Nat.succ_ne_self _) cn_ls) ⟨⟨_,h1⟩,h2,cn_ls.1 _ _ af.le ⟨wa,arr,t,rs⟩⟩ (a.trans af) fun b e=>e.elim (fun e=>by
    rw [e]; exact ⟨fun h=>n1 (Nat.le_succ _) (a.ex _ h),m.pv a.sm (n1 (Nat.le_succ _)) h1⟩) fun e=>by
    rw [e]; exact ⟨fun h=>n1 (Nat.le_refl _) (a.ex _ h),h2.elim fun o q=>m.pv a.sm (n1 (Nat.le_refl _)) q.1⟩
  | _=>exact False.elim k
theorem tsr_items {elts:List PE} {x1:Nat} {tp:Pos} {y:X} {e:PE} {apos pos:Pos} (hb:plainBase e = true) (hl:(apos.endLine == pos.line) = true) (h:TE B u c y (fun env=>eval e env)) :
  TSr B u c (.Tuple elts x1 tp) (.items y) (.Call (.Attribute e "items" apos) [] [] pos):=fun G N Q E K H q z =>
 call_meth (xs:=[]) PySem.F.plainAttrs_dict PySem.F.slot_dict_items PySem.F.type_dict_items hb hl (by decide) rfl h tes_nil H q fun d Y v k a r=>by
  cases d with
  | dict l =>
   obtain ⟨b,kvs,rfl,wa,t,rs⟩:=r
   refine ⟨dict_typ t,fun l' σ=>K ((l.map fun (q:V × V)=>V.tup [q.1,q.2]),none) σ∧l' = [],⟨k,rfl⟩,fun ds Z vs k a2 r2=>?_⟩
   cases k.2
   cases (r2:vs = [])
   obtain ⟨wa,t⟩:=t.le a2.le wa
   refine call_meetsIn PySem.F.slot_dict_items t.2.typeIs PySem.F.entry_dict_items (PySem.F.args_dict_items_1 _) (meets_dict_items (SK B.D) b (not_sys t.1)) ⟨⟨kvs,t.2⟩,?_⟩
   obtain ⟨ep,da⟩:=t.2.dictAt
   refine wpAny_pyIter_items ⟨_,push_at rfl,rfl,rfl⟩ (da.push _) ?_
   have m:=(More.refl Z).push { cls:=.type "dict_items",data:=.fields #[.ref b] }
   have af:=(m.push { cls:=.type "dict_itemiterator",data:=.fields #[.none,.bool false,.ref b,.int 0 0,.int kvs.length 0,.int ep 0,.none,.none] }).aft a2.sm
   exact z _ none (Z.at _) _ _ _ k.1 it_items ⟨⟨_,_,push_at rfl⟩,wa,kvs,(da.push _).push _,RVd_le (af.le) _ _ (RVd_le a2.le _ _ rs),rfl⟩ ((a.trans a2).trans af) fun b e=>⟨fun h=>m.no (a2.ex _ (a.ex _ (e ▸ h))),e ▸ (m.push _).pv a2.sm m.no (push_at rfl)⟩
  | _=>exact False.elim k
end
end Mine.Internal
namespace Mine.Internal
open PySem PySem.W PyProof.Rows PySem.Calls
noncomputable def nm2 (b:Bool):String:=bif b then "tuple_iterator" else "list_iterator"
noncomputable def Sq2 (b:Bool) (h:Heap) (a:Addr) (vs:Array PV):Prop:=bif b then h.IsTuple a vs else h.IsList a vs
structure ZS (b2:Bool) (z TI TO i1 i2 l1 l2:Addr) (f:PV) (k:Nat) (h:Heap):Prop where
 hz:IsZip h z TI TO f
 hI:IsPair h TI (.ref i1) (.ref i2)
 hO:∃ a b,IsPair h TO a b
 h1:Itr "tuple_iterator" h i1 l1 k
 h2:Itr (nm2 b2) h i2 l2 k
noncomputable def Zf (z TI TO i1 i2:Addr) (c:Addr):Prop:=c = z ∨ c = TI ∨ c = TO ∨ c = i1 ∨ c = i2
section
variable {prog:Program} {w:World} {A:Around} {E:PV→Shared→Prop} {s:Shared}
theorem nextOf_tp {it t:Addr} {i:Nat} {items:Array PV} {Q:PV→Shared→Prop} (hit:Itr "tuple_iterator" s.heap it t i) (ht:s.heap.IsTuple t items) (hh:A.handled = none)
  (q:∀ x h',items[i]? = some x→Itr "tuple_iterator" h' it t (i + 1)→Heap.SameBut it s.heap h'→Q x { s with heap:=h' })
  (e:∀ h' x,items[i]? = none→Heap.ExtBut it s.heap h'→(∃ o,h'.get? x = some o∧o.cls = .type "StopIteration")→E (.ref x) { s with heap:=h' }) :
  wpAny (model prog w) A (Builtin.SmallTypes.nextOf (.ref it)) Q E s:=by
 obtain ⟨o,ho,hc,hd⟩:=hit
 obtain ⟨ol,hol,_,nl,hdl⟩:=ht
 delta Builtin.SmallTypes.nextOf
 refine wpAny_bind (wpAny_callSpecial?_slot (name:=Str.ofString "__next__") ⟨o,ho,hc⟩ PySem.F.slot_tuple_iterator_next (wpAny_call_entry PySem.F.slot_tuple_iterator_next ⟨o,ho,hc⟩ PySem.F.entry_tuple_iterator_next ?_ (PySem.F.args_tuple_iterator_next_1 _)))
 refine wpAny_bind (m:=field (.ref it) 0) (wpAny_field ho hd (x:=.ref t) rfl ?_)
 refine wpAny_bind (m:=field (.ref it) 1) (wpAny_field ho hd (x:=.int i 0) rfl ?_)
 refine wpAny_bind (m:=seqItems? (.ref t)) (wpAny_seqItems hol hdl ?_)
 cases hx:items[i]? with
 | some x =>
  simp only [Int.toNat_natCast,hx]
  refine wpAny_bind (wpAny_setField ho hd (by simp) (wpAny_pure ⟨x,rfl,wpAny_pure (q x _ hx ?_ (Heap.SameBut.update ..))⟩))
  exact ⟨_,Heap.get?_update_self _ ho (Obj.isFreed_of_fields (Obj.data_mapFields hd _)),(Obj.cls_mapFields ..).trans hc,by rw [Obj.data_mapFields hd]; rfl⟩
 | none =>
  simp only [Int.toNat_natCast,hx]
  refine wpAny_bind (wpAny_rule (wpAny_bind (wpAny_setField ho hd (by simp) ?_)))
  refine wpAny_bind (m:=newExc (.type "StopIteration") []) ?_
  refine wpAny_bind (m:=newTuple []) (wpAny_newObj_type ?_ (by size_fits))
  refine wpAny_bind (m:=firstArgMember _ _) (wpAny_of_eq (a:=Value.none) (by first | rfl | (simp only [firstArgMember]; rfl)) ?_)
  refine wpAny_newObj_type ?_ (by size_fits)
  delta raiseNew
  refine wpAny_bind (wpAny_handled ?_)
  rw [show A.in1.handled = none from hh]
  exact wpAny_bind (wpAny_pure (wpAny_throw (e _ _ hx (((Heap.SameBut.update ..).extBut.push _).push _) ⟨_,Heap.get?_push_size _ rfl,rfl⟩)))
theorem Itr.ext {nm:String} {h h':Heap} {a l:Addr} {i:Nat} (x:Itr nm h a l i) (e:∀ o,h.get? a = some o→h'.get? a = some o):Itr nm h' a l i:=x.elim fun o q=>⟨o,e o q.1,q.2⟩
theorem Sq2.ext {b2:Bool} {h h':Heap} {a:Addr} {vs:Array PV} (t:Sq2 b2 h a vs) (e:∀ o,h.get? a = some o→h'.get? a = some o):Sq2 b2 h' a vs:=by
 cases b2 with
 | true=>exact Heap.IsTuple.at (show h.IsTuple a vs from t) e
 | false=>exact Heap.IsList.at (show h.IsList a vs from t) e
theorem nextOf_2 {b2:Bool} {it t:Addr} {i:Nat} {items:Array PV} {x:PV} {Q:PV→Shared→Prop} (hit:Itr (nm2 b2) s.heap it t i) (ht:Sq2 b2 s.heap t items) (hh:A.handled = none) (hx:items[i]? = some x)
  (q:∀ h',Itr (nm2 b2) h' it t (i + 1)→Heap.SameBut it s.heap h'→Q x { s with heap:=h' }) :
  wpAny (model prog w) A (Builtin.SmallTypes.nextOf (.ref it)) Q E s:=by
 cases b2 with
 | true=>exact nextOf_tp hit ht hh (fun y h' hy j sb=>Option.some.inj (hx.symm.trans hy) ▸ q h' j sb) fun h' y hy _ _=>nomatch hx.symm.trans hy
 | false=>exact wpAny_nextOf_list_item hit ht hx q
theorem zip_tl {b2:Bool} {z TI TO i1 i2 l1 l2:Addr} {k:Nat} {xs ys:Array PV} {Q:PV→Shared→Prop} (hh:A.handled = none) (D:ZipApart z TI TO i1 i2 l1 l2) (S:ZS b2 z TI TO i1 i2 l1 l2 .none k s.heap) (t1:s.heap.IsTuple l1 xs) (t2:Sq2 b2 s.heap l2 ys) (hy:∀ x,xs[k]? = some x→∃ y,ys[k]? = some y)
  (q:∀ x y h',xs[k]? = some x→ys[k]? = some y→ZS b2 z TI TO i1 i2 l1 l2 (rawInt s.heap.objs.size) (k + 1) h'→IsPair h' s.heap.objs.size x y→(∀ c o,s.heap.get? c = some o→¬ Zf z TI TO i1 i2 c→h'.get? c = some o)→Q (.ref s.heap.objs.size) { s with heap:=h' })
  (e:∀ h' x,xs[k]? = none→(∀ c o,s.heap.get? c = some o→¬ Zf z TI TO i1 i2 c→h'.get? c = some o)→(∃ o,h'.get? x = some o∧o.cls = .type "StopIteration")→E (.ref x) { s with heap:=h' }) :
  wpAny (model prog w) A (Builtin.«zip.__next__» ⟨[.ref z],[]⟩) (fun fin s'=>∃ v,fin = .done (.ret v)∧Q v s') E s:=by
 obtain ⟨hz,hI,⟨a,b,hO⟩,h1,h2⟩:=S
 refine wpAny_bind (m:=field (.ref z) 2) (wpAny_field hz rfl (x:=.bool false) rfl ?_)
 refine wpAny_bind (m:=field (.ref z) 3) (wpAny_field hz rfl (x:=.ref TI) rfl ?_)
 refine wpAny_bind (wpAny_seqItems hI rfl ?_)
 refine wpAny_bind (m:=Builtin.SmallTypes.ownedTupleIsFree (.ref z)) ?_
 delta Builtin.SmallTypes.ownedTupleIsFree
 refine wpAny_bind (wpAny_field hz rfl (x:=.none) rfl (wpAny_pure ?_))
 refine wpAny_bind (wpAny_rule (wpAny_bind (wpAny_field hz rfl (x:=.ref TO) rfl (wpAny_bind (wpAny_setField_rec hz (by decide:0 < 5) fun ha za sa=>?_)))))
 replace za:IsZip ha z TI TO .ellipsis:=za
 refine wpAny_bind ?_
 simp only [List.zipIdx_cons,List.zipIdx_nil,List.forIn_cons,List.forIn_nil]
 refine wpAny_bind (wpAny_bind (wpAny_onRaise ?_))
 have ka:∀ c o,c ≠ z→s.heap.get? c = some o→ha.get? c = some o:=fun c o n e=>sa.extBut c o n e
 refine wpAny_bind (m:=Builtin.SmallTypes.nextOf (.ref i1)) (nextOf_tp (h1.ext fun o e=>ka _ o D.i1z e) (t1.extBut sa.extBut D.l1z) hh (fun x hb hx j1 sb=>wpAny_pure ?_) fun hb x hx sb hx'=>?_)
 ·have kb:∀ c o,c ≠ i1→ha.get? c = some o→hb.get? c = some o:=fun c o n e=>sb.extBut c o n e
  have Ob:IsPair hb TO a b:=kb _ _ D.TOi1 (ka _ _ D.TOz hO)
  refine wpAny_bind (wpAny_seqItems Ob rfl (wpAny_bind (wpAny_updateSeq_pair Ob fun hc Oc sc=>?_)))
  replace Oc:IsPair hc TO x b:=Oc
  have kc:∀ c o,c ≠ TO→hb.get? c = some o→hc.get? c = some o:=fun c o n e=>sc.extBut c o n e
  refine wpAny_bind (wpAny_letGo (wpAny_pure ?_))
  refine wpAny_bind (wpAny_bind (wpAny_onRaise ?_))
  have l2c:Sq2 b2 hc l2 ys:=t2.ext fun o e=>sc.extBut _ o D.l2TO (sb.extBut _ o D.l2i1 (sa.extBut _ o D.l2z e))
  obtain ⟨y,hy⟩:=hy x hx
  refine wpAny_bind (m:=Builtin.SmallTypes.nextOf (.ref i2)) (nextOf_2 (h2.ext fun o e=>kc _ o D.TOi2.symm (kb _ o D.i12.symm (ka _ o D.i2z e))) l2c hh hy fun hd i2d sd=>wpAny_pure ?_)
  have kd:∀ c o,c ≠ i2→hc.get? c = some o→hd.get? c = some o:=fun c o n e=>sd.extBut c o n e
  have Od:IsPair hd TO x b:=kd _ _ D.TOi2 Oc
  refine wpAny_bind (wpAny_seqItems Od rfl (wpAny_bind (wpAny_updateSeq_pair Od fun hf Of sf=>?_)))
  replace Of:IsPair hf TO x y:=Of
  have kf:∀ c o,c ≠ TO→hd.get? c = some o→hf.get? c = some o:=fun c o n e=>sf.extBut c o n e
  refine wpAny_bind (wpAny_letGo (wpAny_pure (wpAny_pure (wpAny_bind (wpAny_seqItems Of rfl (wpAny_bind (wpAny_newTuple ?_)))))))
  have hsz:hf.objs.size = s.heap.objs.size:=by rw [sf.1,sd.1,sc.1,sb.1,sa.1]
  have kbf:∀ c o,c ≠ TO→c ≠ i1→c ≠ i2→ha.get? c = some o→hf.get? c = some o:=fun c o n1 n2 n3 e=>kf c o n1 (kd c o n3 (kc c o n1 (kb c o n2 e)))
  have zf:IsZip hf z TI TO .ellipsis:=kbf _ _ D.TOz.symm D.i1z.symm D.i2z.symm za
  refine wpAny_bind (m:=Builtin.SmallTypes.ownedTupleHandOut (.ref z) (.ref hf.objs.size)) ?_
  delta Builtin.SmallTypes.ownedTupleHandOut
  have zg:IsZip (hf.push { cls:=.type "tuple",data:=.seq #[x,y] }) z TI TO .ellipsis:=Heap.get?_push_of_some _ zf
  refine wpAny_bind (wpAny_setField_rec zg (by decide:0 < 5) fun hg zg' sg=>?_)
  replace zg':IsZip hg z TI TO (rawInt hf.objs.size):=zg'
  refine wpAny_setField_rec zg' (by decide:1 < 5) fun hi zi si=>?_
  replace zi:IsZip hi z TI TO (rawInt hf.objs.size):=zi
  have up:∀ c o,c ≠ z→hf.get? c = some o→hi.get? c = some o:=fun c o c1 e=>si.extBut _ _ c1 (sg.extBut _ _ c1 (Heap.get?_push_of_some _ e))
  have nz:hf.objs.size ≠ z:=Nat.ne_of_gt (Heap.lt_size zf)
  have Tn:IsPair hi hf.objs.size x y:=si.extBut _ _ nz (sg.extBut _ _ nz (Heap.get?_push_size _ rfl))
  rw [hsz] at zi Tn
  refine wpAny_pure ⟨_,rfl,?_⟩
  show Q (.ref hf.objs.size) _
  rw [hsz]
  exact q x y hi hx hy ⟨zi,up _ _ D.TIz (kbf _ _ D.TITO D.TIi1 D.TIi2 (ka _ _ D.TIz hI)),⟨x,y,up _ _ D.TOz Of⟩,Itr.ext j1 fun o e=>up _ o D.i1z (kf _ o D.TOi1.symm (kd _ o D.i12 (kc _ o D.TOi1.symm e))),Itr.ext i2d fun o e=>up _ o D.i2z (kf _ o D.TOi2.symm e)⟩ Tn fun c o eo n =>
   have nn:c ≠ z∧c ≠ TO∧c ≠ i1∧c ≠ i2:=⟨fun e=>n (.inl e),fun e=>n (.inr (.inr (.inl e))),fun e=>n (.inr (.inr (.inr (.inl e)))),fun e=>n (.inr (.inr (.inr (.inr e))))⟩
   up c o nn.1 (kbf c o nn.2.1 nn.2.2.1 nn.2.2.2 (ka c o nn.1 eo))
 ·obtain ⟨oe,hoe,hce⟩:=hx'
  have zb:IsZip hb z TI TO .ellipsis:=sb _ _ D.i1z.symm za
  have xz:x ≠ z:=fun q=>by subst q; cases zb.symm.trans hoe; exact absurd (Value.type.inj (show Value.type "zip" = .type "StopIteration" from hce)) (by decide)
  exact wpAny_setField_rec zb (by decide:0 < 5) fun hf _ sf=>e hf x hx (fun c o eo n=>sf.extBut _ _ (fun e=>n (.inl e)) (sb _ _ (fun e=>n (.inr (.inr (.inr (.inl e))))) (ka _ _ (fun e=>n (.inl e)) eo))) ⟨oe,sf.extBut _ _ xz hoe,hce⟩
end
end Mine.Internal
namespace Mine.Internal
open PySem PySem.W PyProof.Rows PySem.Calls
theorem ZS.ext {b2:Bool} {z TI TO i1 i2 l1 l2:Addr} {f:PV} {k:Nat} {h h':Heap} (x:ZS b2 z TI TO i1 i2 l1 l2 f k h) (e:∀ c,Zf z TI TO i1 i2 c→∀ o,h.get? c = some o→h'.get? c = some o):ZS b2 z TI TO i1 i2 l1 l2 f k h' :=
 ⟨e z (.inl rfl) _ x.hz,e TI (.inr (.inl rfl)) _ x.hI,x.hO.elim fun a q=>q.elim fun b q=>⟨a,b,e TO (.inr (.inr (.inl rfl))) _ q⟩,x.h1.ext (e i1 (.inr (.inr (.inr (.inl rfl))))),x.h2.ext (e i2 (.inr (.inr (.inr (.inr rfl)))))⟩
theorem ZS.has {b2:Bool} {z TI TO i1 i2 l1 l2:Addr} {f:PV} {k:Nat} {h:Heap} (x:ZS b2 z TI TO i1 i2 l1 l2 f k h) {c:Addr} (n:Zf z TI TO i1 i2 c):∃ o,h.get? c = some o:=by
 rcases n with rfl | rfl | rfl | rfl | rfl
 ·exact ⟨_,x.hz⟩
 ·exact ⟨_,x.hI⟩
 ·exact x.hO.elim fun a q=>q.elim fun b q=>⟨_,q⟩
 ·exact x.h1.elim fun o q=>⟨o,q.1⟩
 ·exact x.h2.elim fun o q=>⟨o,q.1⟩
section
variable {D:Wd} {A:Around} {N:Nx}
theorem zip_at {vs ws:List V} {k:Nat} {d:V} (h:((vs.zip ws).map fun (x:V × V)=>V.tup [x.1,x.2])[k]? = some d):∃ a b,vs[k]? = some a∧ws[k]? = some b∧d = .tup [a,b]:=by
 rw [List.getElem?_map] at h
 obtain ⟨⟨a,b⟩,e1,e2⟩:=Option.map_eq_some_iff.mp h
 have e3:=List.getElem?_zip_eq_some.mp e1
 exact ⟨a,b,e3.1,e3.2,e2.symm⟩
theorem it_zip {b2:Bool} {elts:List PE} {x1:Nat} {tp:Pos} {z TI TO i1 i2 l1 l2:Addr} {vs ws:List V} {C1 C2:Nx→Prop} (hl:ws.length = vs.length) (P:ZipApart z TI TO i1 i2 l1 l2) (c1:Cn D none vs Heap.IsTuple l1 C1) (c2:Cn D none ws (Sq2 b2) l2 C2) :
  ItOk D (.Tuple elts x1 tp) z (Zf z TI TO i1 i2) (fun k N=>ZS b2 z TI TO i1 i2 l1 l2 .none k N.s.heap∧C1 N∧C2 N) ((vs.zip ws).map fun (x:V × V)=>V.tup [x.1,x.2]) none:=by
 refine ⟨fun k N Y le hk j=>⟨j.1.ext hk,c1.1 N Y le j.2.1,c2.1 N Y le j.2.2⟩,fun A k d N Q E E' hh hv j m pv st q=>?_,fun A N Q E hh j m st q=>?_,fun A k N Q E j q=>wpAny_pyIter_zip j.1.hz q⟩
 all_goals
  obtain ⟨xs,t1,r1⟩:=c1.2 N m trivial j.2.1
  obtain ⟨ys,t2,r2⟩:=c2.2 N m trivial j.2.2
  have hT:N.s.TypeIs (.ref z) "zip":=⟨_,j.1.hz,rfl⟩
  have hy:∀ {k:Nat} (x:PV),xs[k]? = some x→∃ y,ys[k]? = some y:=fun {k} x h=>⟨ys[k]'(by
   rw [← Array.length_toList,RVs_length r2,hl,← RVs_length r1,Array.length_toList]; exact (Array.getElem?_eq_some_iff.mp h).1),Array.getElem?_eq_getElem _⟩
  delta pyNext
 ·obtain ⟨d1,d2,e1,e2,rfl⟩:=zip_at hv
  obtain ⟨v1,f1,rv1⟩:=RVs_get r1 e1
  obtain ⟨v2,f2,rv2⟩:=RVs_get r2 e2
  refine wpAny_bind (wpAny_attempt (wpAny_callSpecial?_slot (name:=Str.ofString "__next__") hT PySem.F.slot_zip_next (wpAny_call_entry PySem.F.slot_zip_next hT PySem.F.entry_zip_next
   (zip_tl (show A.in1.handled = none from hh) P j.1 t1 t2 hy (fun x y h' hx hy S T kp=>wpAny_pure ⟨_,rfl,?_⟩) fun h' x hend _ _=>nomatch hend.symm.trans (get_arr f1)) (PySem.F.args_zip_next_1 _))))
  cases hx.symm.trans (get_arr f1)
  cases hy.symm.trans (get_arr f2)
  refine wpAny_letOwnedTupleGo_zip S.hz fun h'' h7 sb=>?_
  have hne:N.s.heap.objs.size ≠ z:=fun q=>no_new (q ▸ has_of j.1.hz)
  have S2:ZS b2 z TI TO i1 i2 l1 l2 .none (k + 1) h'':=⟨h7,sb.extBut _ _ P.TIz S.hI,S.hO.elim fun a q=>q.elim fun b q=>⟨a,b,sb.extBut _ _ P.TOz q⟩,S.h1.ext fun o e=>sb.extBut _ o P.i1z e,S.h2.ext fun o e=>sb.extBut _ o P.i2z e⟩
  have a:=hand_out (s:={ N.s with heap:=h'' }) m pv (fun b o eo n=>sb.extBut b o (fun e=>n (.inl e)) (kp b o eo n)) (fun a f=>S2.has f) rfl rfl (sb.extBut _ _ hne T) no_new
  exact q _ _ ⟨S2,c1.1 _ _ a.1.le j.2.1,c2.1 _ _ a.1.le j.2.2⟩ a.1 rfl (a.2 (RV_le a.1.le _ _ rv1) (RV_le a.1.le _ _ rv2))
 ·have j1:=j.1
  have z:((vs.zip ws).map fun (x:V × V)=>V.tup [x.1,x.2]).length = vs.length:=by rw [List.length_map,List.length_zip,hl,Nat.min_self]
  rw [z] at j1
  refine wpAny_bind (wpAny_attempt (wpAny_callSpecial?_slot (name:=Str.ofString "__next__") hT PySem.F.slot_zip_next (wpAny_call_entry PySem.F.slot_zip_next hT PySem.F.entry_zip_next
   (zip_tl (show A.in1.handled = none from hh) P j1 t1 t2 hy (fun x y h' hx _ _ _ _=>nomatch (arr_stop r1).symm.trans hx) fun h' x _ kp hx'=>?_) (PySem.F.args_zip_next_1 _))))
  obtain ⟨o,ho,hc⟩:=hx'
  exact wpAny_bind (wpAny_isInstance (T:="StopIteration") (b:=true) ⟨o,ho,hc⟩ isSubtype_stop (wpAny_pure ⟨rfl,q _ kp rfl rfl⟩))
end
theorem pyIter_2 {prog:Program} {w:World} {A:Around} {E:PV→Shared→Prop} {s:Shared} {b2:Bool} {a:Addr} {vs:Array PV} {Q:PV→Shared→Prop} (t:Sq2 b2 s.heap a vs)
  (q:Q (.ref s.heap.objs.size) { s with heap:=s.heap.push { cls:=.type (nm2 b2),data:=.fields #[.ref a,.int 0 0] } }):wpAny (model prog w) A (pyIter (.ref a)) Q E s:=by
 cases b2 with
 | true=>exact wpAny_pyIter_tuple t q
 | false=>exact wpAny_pyIter_list t q
theorem meets_zip_tl (b2:Bool) (l1 l2:Addr) (xs ys:Array Value) :
  Meets (Builtin.«zip.__new__» ⟨[.type "zip",.ref l1,.ref l2],[]⟩) (fun _ R s=>s.heap.IsTuple l1 xs∧Sq2 b2 s.heap l2 ys ∧
   ∀ h',(∀ c o,s.heap.get? c = some o→h'.get? c = some o)→ZS b2 (s.heap.objs.size + 4) (s.heap.objs.size + 2) (s.heap.objs.size + 3) s.heap.objs.size (s.heap.objs.size + 1) l1 l2 .none 0 h'→R (.ok (.ret (.ref (s.heap.objs.size + 4)))) { s with heap:=h' }) :=
 .of_wp fun prog w A R s h=>by
  obtain ⟨hp,g,d,tk,os⟩:=s; obtain ⟨hl1,hl2,h⟩:=h
  have hsub:=sub_zip
  have hL1:Heap.IsTuple (Shared.heap ⟨hp,g,d,tk,os⟩) l1 xs:=hl1
  have hL2:Sq2 b2 (Shared.heap ⟨hp.push { cls:=.type "tuple_iterator",data:=.fields #[.ref l1,.int 0 0] },g,d,tk,os⟩) l2 ys:=hl2.ext fun o e=>Heap.get?_push_of_some _ e
  wp_walk using wpAny_pyIter_tuple hL1,pyIter_2 hL2
  refine ⟨_,rfl,?_⟩
  simp only [Heap.size_push] at h ⊢
  have at_:∀ (h:Heap) (o:Obj) (n:Nat),o.isFreed = false→h.objs.size = n→(h.push o).get? n = some o:=fun h o n hf e=>by subst e; exact Heap.get?_push_size _ hf
  have up:∀ {h:Heap} {a:Addr} {o o':Obj},h.get? a = some o→(h.push o').get? a = some o:=fun e=>Heap.get?_push_of_some _ e
  have sz:∀ {h:Heap} {o:Obj} {n:Nat},h.objs.size = n→(h.push o).objs.size = n + 1:=fun e=>(Heap.size_push ..).trans (congrArg (· + 1) e)
  exact h _ (fun c o x=>up (up (up (up (up x))))) ⟨at_ _ _ _ rfl (sz (sz (sz (sz rfl)))),up (up (at_ _ _ _ rfl (sz (sz rfl)))),⟨_,_,up (at_ _ _ _ rfl (sz (sz (sz rfl))))⟩,⟨_,up (up (up (up (Heap.get?_push_size _ rfl)))),rfl,rfl⟩,⟨_,up (up (up (at_ _ _ _ rfl (sz rfl)))),rfl,rfl⟩⟩
theorem Sq2.lt {b2:Bool} {h:Heap} {a:Addr} {vs:Array PV} (t:Sq2 b2 h a vs):a < h.objs.size:=by
 cases b2 with
 | true=>exact (show h.IsTuple a vs from t).elim fun o q=>Heap.lt_size q.1
 | false=>exact (show h.IsList a vs from t).elim fun o q=>Heap.lt_size q.1
theorem Sq2.at_ {b2:Bool} {h:Heap} {a:Addr} {vs:Array PV} (t:Sq2 b2 h a vs):∃ o,h.get? a = some o:=by
 cases b2 with
 | true=>exact (show h.IsTuple a vs from t).elim fun o q=>⟨o,q.1⟩
 | false=>exact (show h.IsList a vs from t).elim fun o q=>⟨o,q.1⟩
theorem cn_2 {D:Wd} {vs:List V} {b2:Bool} {b:Addr}:Cn D none vs (Sq2 b2) b fun N=>N.W b∧∃ arr,Sq2 b2 N.s.heap b arr∧RVs D N vs arr.toList :=
 ⟨fun N Y le h=>⟨h.2.elim fun arr q=>q.1.at_.elim fun o e=>(le.w b o h.1 e).2,h.2.elim fun arr q=>⟨arr,q.1.ext fun o e=>(le.w b o h.1 e).1,RVs_le le _ _ q.2⟩⟩,fun N m st h=>h.2⟩
noncomputable def ltwo (l:List V) (p:V→V→Prop):Prop:=match l with
 | [v,w]=>p v w
 | _=>False
section
variable {B:Bd} {u:Nat} {c:Ck} {g:Gt}
theorem tsr_zip {elts:List PE} {x1:Nat} {tp:Pos} {y y2:X} {e f:PE} {x:Str} {np pos:Pos} (F:Facts B g) (BB:BiOk B.D c x (.type "zip")) (hs:isStarred e = false) (hs':isStarred f = false) (h:TEs B u c [y,y2] (fun env=>spliced (backTo pos (starEach [e,f] env)))) :
  TSr B u c (.Tuple elts x1 tp) (.zip y y2) (.Call (.Name x np) [e,f] [] pos):=fun G N Q E K H q z =>
 call_name (K:=fun l σ=>ltwo l fun v w=>oK (asListT v) fun l=>oK (asSeqV w) fun l'=>bK (decide (l'.length = l.length)) (K (((l.zip l').map fun (x:V × V)=>V.tup [x.1,x.2]),none) σ)) F BB rfl (by rw [List.all_cons,List.all_cons,hs,hs']; rfl) h H q fun ds Y vs k a r=>by
  rcases ds with _ | ⟨d,_ | ⟨d2,_ | ⟨_,_⟩⟩⟩
  ·exact False.elim k
  ·exact False.elim k
  ·obtain ⟨v,_,e1,rv,w,_,e2,rw,e3⟩:=r
   subst e3 e2 e1
   cases d with
   | tup l =>
    have sq:∃ l' b2 b' arr',K ((l.zip l').map fun (x:V × V)=>V.tup [x.1,x.2],none) Y.σ∧l'.length = l.length∧w = .ref b'∧Y.W b'∧Sq2 b2 Y.s.heap b' arr'∧Vals B Y l' arr'.toList:=by
     cases d2 with
     | list l'=>obtain ⟨hl,k⟩:=bK_of k; obtain ⟨b',arr',rfl,wa',t',rs'⟩:=rw; exact ⟨l',false,b',arr',k,of_decide_eq_true hl,rfl,wa',t'.list,rs'⟩
     | tup l'=>obtain ⟨hl,k⟩:=bK_of k; obtain ⟨b',arr',rfl,wa',t',rs'⟩:=rw; exact ⟨l',true,b',arr',k,of_decide_eq_true hl,rfl,wa',t'.tup,rs'⟩
     | _=>exact False.elim k
    obtain ⟨l',b2,b',arr',k,hl,rfl,wa',t',rs'⟩:=sq
    obtain ⟨b,arr,rfl,wa,t,rs⟩:=rv
    refine callType_new PySem.F.called_zip (by decide) (PySem.F.typeCall_zip_2 _ _) (PySem.F.newCall_zip_2 _ _) (fun obj=>PySem.F.args_object_init_3 obj _ _) PySem.F.entry_zip_new (meets_zip_tl b2 b b' arr arr') ⟨t.tup,t',fun h' kp S=>⟨⟨_,S.hz,rfl⟩,wpAny_pyIter_zip S.hz ?_⟩⟩
    have m:More Y { Y.s with heap:=h' }:=⟨kp,rfl,rfl⟩
    have n1:∀ k,Y.s.heap.objs.size≤k→¬ Y.has k:=fun k hk h=>absurd (has_lt h) (Nat.not_lt.mpr hk)
    have lb:b < Y.s.heap.objs.size:=t.elim fun k e=>Heap.lt_size e
    have lb':b' < Y.s.heap.objs.size:=t'.lt
    have af:=m.aft a.sm
    revert S n1 lb lb'
    generalize Y.s.heap.objs.size = n
    intro S n1 lb lb'
    have ne:∀ {a b:Nat},a ≠ b→n + a ≠ n + b:=fun h e=>h (Nat.add_left_cancel e)
    have lt:∀ {b} (a:Nat),b < n→b ≠ n + a:=fun a h=>Nat.ne_of_lt (Nat.lt_of_lt_of_le h (Nat.le_add_right n a))
    exact z _ none (Y.at _) _ _ _ k (it_zip hl ⟨ne (by decide),ne (by decide),ne (a:=0) (by decide),ne (by decide),ne (by decide),ne (b:=0) (by decide),ne (by decide),ne (b:=0) (by decide),ne (by decide),ne (a:=0) (by decide),lt 4 lb,lt 3 lb,lt 0 lb,lt 1 lb,lt 4 lb',lt 3 lb',lt 0 lb',lt 1 lb'⟩ cn_tp (cn_2 (b2:=b2)))
     ⟨S,cn_tp.1 _ _ af.le ⟨wa,arr,t,rs⟩,cn_2.1 _ _ af.le ⟨wa',arr',t',rs'⟩⟩ (a.trans af) fun c f =>
      have nc:¬ Y.has c:=by rcases f with rfl | rfl | rfl | rfl | rfl <;> first | exact n1 _ (Nat.le_refl _) | exact n1 _ (Nat.le_add_right _ _)
      ⟨fun h=>nc (a.ex _ h),(S.has f).elim fun o e=>m.pv a.sm nc e⟩
   | _=>exact False.elim k
  ·exact False.elim k
end
end Mine.Internal
namespace Mine.Internal
open PySem PySem.W PyProof.Rows PySem.Calls
section
variable {B:Bd} {u:Nat} {c:Ck} {G:Ev} {N Y Z:Nx} {g:Option Nat} {P:Addr→Prop}
noncomputable def Own (env:PEnv) (a:Addr):Prop:=a = env.locals ∨ ∃ q∈env.cells,q.2 = a
theorem own_has (h:Eo c G.env N) {a:Addr} (o:Own G.env a):N.has a∧¬ chg N.μ a:=o.elim (fun e=>e ▸ h.loc) fun ⟨q,m,e⟩=>e ▸ h.cells q m
theorem Fr.own {b:Addr} (f:Fr c G.env b):Own G.env b:=f.imp id fun ⟨x,_,e⟩=>⟨(x,b),mem_of_lookup e,rfl⟩
theorem Gs.by (H:Gs B u c G Z) (sm:Sm B.D Y) (le:Le Z Y) (hk:∀ a,Own G.env a→∀ o,Z.s.heap.get? a = some o→Y.s.heap.get? a = some o) (hc:∀ a,Z.has a→¬ chg Z.μ a→¬ chg Y.μ a) (hp:∀ b,Fr c G.env b→Pv Y b):Gs B u c G Y :=
 have eo:=H.go.eo
 have ho:∀ a,Own G.env a→Y.has a∧¬ chg Y.μ a:=fun a o=>have w:=own_has eo o
  ⟨(Option.isSome_iff_exists.mp w.1).elim fun b e=>has_of (hk a o b e),hc a w.1 w.2⟩
 ⟨⟨H.go.rm,⟨eo.sc,eo.kind,eo.gl,eo.bi,ho _ (.inl rfl),fun q hq=>ho _ (.inr ⟨q,hq,rfl⟩),eo.fr,eo.cx⟩,fun x i d h1 h2 h3=>(H.go.fe x i d h1 h2 h3).elim fun w q=>⟨w,q.1.keep (fun o e=>hk _ (.inl rfl) o e) fun b o e1 e2=>hk b (.inr ⟨(x,b),mem_of_lookup e1,rfl⟩) o e2,RV_le le d w q.2⟩,sm⟩,
  hp,H.ns.elim fun m n=>⟨m,n.at fun o e=>hk _ (.inl rfl) o e⟩,fun x w h=>(H.cl x w h).elim fun b q=>q.elim fun v q=>⟨b,v,q.1,q.2.elim fun o r=>⟨o,hk _ (.inr ⟨(x,b),mem_of_lookup q.1,rfl⟩) o r.1,r.2⟩⟩,H.ap⟩
theorem Gs.item (H:Gs B u c G Z) (a:Aft B.D Z P Y) (n:∀ b,Own G.env b→¬ P b):Gs B u c G Y :=
 H.by a.sm a.le (fun b o x e=>a.kp b x e (own_has H.go.eo o).2 (n b o)) (fun b=>a.chg) fun b f=>(H.pv b f).go a
theorem Gs.spoil {s:Shared} (H:Gs B u c G Z) (p:∀ b,P b→Pv Z b) (k:∀ b o,Z.s.heap.get? b = some o→¬ P b→s.heap.get? b = some o) (n:∀ b,Own G.env b→¬ P b):Gs B u c G (Z.at s) :=
 have w:=H.go.sm.turn (F:=P) p k
 H.by w.2 w.1 (fun b o x e=>k b x e (n b o)) (fun b _ h=>h) fun b f=>⟨has_kept k (H.pv b f).lt (n b f.own),(H.pv b f).nw,(H.pv b f).nm⟩
theorem drop_end {α:Type} {l:List α} {k:Nat} (h:k≤l.length) (e:l.drop k = []):k = l.length:=Nat.le_antisymm h (List.drop_eq_nil_iff.mp e)
theorem drop_get {α:Type} {l r:List α} {d:Nat} {a:α} (h:l.drop d = a :: r):l[d]? = some a∧l.drop (d + 1) = r :=
 ⟨by rw [← Nat.add_zero d,← List.getElem?_drop,h]; rfl,by rw [← List.drop_drop,h]; rfl⟩
theorem ts_for {tg:Tg} {src:Src} {body:List S} {target iter:PE} {bodyE:List Stmt} {pos:Pos} (hs:TSr B u c target src iter) (hf:∀ env x,foldedSetIterable iter env x = pure x) (hB:TgOk c tg target) (hb:TSs B u c body (fun env=>execs bodyE env)) :
  TS B u c (.for_ tg src body) (fun env=>exec (.For target iter bodyE [] pos) env):=fun G N Q E K H q z =>
 wpAny_For (hs:=hf G.env) (hs G N _ E _ H.go q fun vs g Y I fp J k0 io j0 a0 nf =>
  have np:∀ b,Own G.env b→¬ fp b:=fun b o f=>(nf b f).1 (own_has H.go.eo o).1
  codeAny_forLoop_any (fun j s2=>∃ k ρ Z,s2 = Z.s∧j = vs.length - k∧k≤vs.length∧kLoopS (stillB g vs) (fun v ρ=>bindTg ρ tg v) (fun ρ σ k=>kSs B.P B.T body ρ σ k) (vs.drop k) ρ Z.σ K∧J k Z∧Aft B.D N (Fr c G.env) Z∧Gs B u c (G.to ρ) Z∧∀ b,fp b→Pv Z b) (fun j s2 h=>by
   obtain ⟨k,ρ,Z,rfl,rfl,hk,q,jz,a,HZ,pv⟩:=h
   cases hd:vs.drop k with
   | nil =>
    rw [hd] at q
    have q:=stB_of q
    rw [drop_end hk hd] at jz
    exact wpAny_mono (io.stop G.A Z (fun s₁=>Q .next s₁) _ H.go.rm.hand jz HZ.go.sm q.1 fun s₁ kp g os=>z.1 ρ (Z.at s₁) q.2 (a.lose (fun b f=>(nf b f).1) pv kp g os) (HZ.spoil pv kp np)) (fun r s₁ h=>h.1 ▸ wpAny_execs_nil h.2) fun _ _ h=>h
   | cons d rest =>
    rw [hd] at q
    have q:=stB_of q
    have w:=drop_get hd
    have hlt:=(List.getElem?_eq_some_iff.mp w.1).1
    refine wpAny_mono (io.item G.A k d Z (fun v s₂=>wpAny (model B.D.prog B.D.w) G.A (assign target G.env v) _ _ s₂) _ _ H.go.rm.hand w.1 jz HZ.go.sm pv q.1 fun v Y1 j1 a1 e1 rv=>?_) (fun r s₁ h=>h.elim fun v h=>h.1 ▸ h.2) fun _ _ h=>h
    refine bind_for (G:=G.to ρ) hB (HZ.item a1 np) q.2 rv fun ρ' Y2 k2 e2 a2 H2=>?_
    rw [← e1,← e2] at k2
    refine hb (G.to ρ') Y2 _ _ _ H2 k2 ⟨fun ρ3 Y3 k3 a3 H3=>?_,fun d Y3 v k3 a3 rv=>z.2 d Y3 v k3 (((a.then a1 fun b f=>(nf b f).1).trans a2).trans a3) rv⟩
    have a23:=a2.trans a3
    have pv1:∀ b,fp b→Pv Y1 b:=fun b f=>(pv b f).go a1
    exact ⟨vs.length - (k + 1),Nat.sub_lt_sub_left hlt (Nat.lt_succ_self k),k + 1,ρ3,Y3,rfl,rfl,hlt,by rw [w.2]; exact k3,io.jm (k + 1) Y1 Y3 a23.le (fun b f o e=>a23.kp b o e (pv1 b f).nc fun r=>np b r.own f) j1,(a.then a1 fun b f=>(nf b f).1).trans a23,H3,fun b f=>(pv1 b f).go a23⟩) _
   ⟨0,G.ρ,Y,rfl,rfl,Nat.zero_le _,by rw [List.drop_zero]; exact k0,j0,a0.up,H.to a0,fun b f=>(nf b f).2⟩)
end
end Mine.Internal
namespace Mine.Internal
open PySem PySem.W PyProof.Rows PySem.Calls
noncomputable abbrev PComp:=PySem.Comprehension
noncomputable def relS (sc o:Scope):Scope:={ sc with names:=sc.names.map fun (n,k)=>if (k == .free && o.kind == .function && o.names.lookup n == some .cell) then (n,.cell) else (n,k) }
noncomputable def relK (o:Scope) (x:Str) (k:NameKind):NameKind:=if (k == .free && o.kind == .function && o.names.lookup x == some .cell) = true then .cell else k
theorem relS_find {o sc:Scope} {x:Str}:(relS sc o).names.lookup x = (sc.names.lookup x).map (relK o x):=by
 show List.lookup x (sc.names.map _) = _
 induction sc.names with
 | nil=>rfl
 | cons p l ih =>
  obtain ⟨n,j⟩:=p
  show List.lookup x ((if (j == NameKind.free && o.kind == .function && o.names.lookup n == some .cell) = true then (n,NameKind.cell) else (n,j)) :: _) = _
  rw [show (if (j == NameKind.free && o.kind == .function && o.names.lookup n == some .cell) = true then (n,NameKind.cell) else (n,j)) = (n,relK o n j) by delta relK; split <;> rfl,List.lookup_cons,List.lookup_cons]
  cases h:x == n with
  | true=>rw [eq_of_beq h]; rfl
  | false=>exact ih
theorem relK_free {o:Scope} {x:Str} {k:NameKind} (h:k = .free):relK o x k = .cell ∨ relK o x k = .free:=by
 delta relK; split
 ·exact .inl rfl
 ·exact .inr h
theorem relK_of {o:Scope} {x:Str} {k:NameKind} (h:relK o x k = .cell ∨ relK o x k = .free):k = .cell ∨ k = .free:=by
 delta relK at h; split at h
 ·rename_i e; exact .inr (eq_of_beq (and_l (and_l e)))
 ·exact h
noncomputable def closOf (cells:List (Str × Addr)):List (Str × NameKind)→List (Str × Addr)→List (Str × Addr)
 | [],cs=>cs
 | (x,k) :: r,cs=>closOf cells r (if (k == .free) = true then (x,(cells.lookup x).getD 0) :: cs else cs)
theorem clos_go {env:PEnv}:∀ (l:List (Str × NameKind)) (cs:List (Str × Addr)),(∀ p∈l,p.2 = .free→(env.cells.lookup p.1).isSome = true) →
  (forIn l cs fun (x:Str × NameKind) (r:List (Str × Addr))=>if (x.2 == .free) = true then (do let c ← cellOf env x.1; pure (ForInStep.yield ((x.1,c) :: r)):Sem (ForInStep (List (Str × Addr)))) else pure (ForInStep.yield r)) = pure (closOf env.cells l cs)
 | [],cs,_=>rfl
 | (x,k) :: l,cs,hl=>by
  rw [List.forIn_cons]
  unfold closOf
  by_cases hk:(k == .free) = true
  ·obtain ⟨c,hc⟩:=Option.isSome_iff_exists.mp (hl (x,k) (List.mem_cons_self ..) (eq_of_beq hk))
   rw [if_pos hk,show cellOf env x = pure c by delta cellOf; rw [hc],if_pos hk,hc,pure_bind,pure_bind]
   exact clos_go l _ fun q hq=>hl q (List.mem_cons_of_mem _ hq)
  ·rw [if_neg hk,if_neg hk,pure_bind]
   exact clos_go l _ fun q hq=>hl q (List.mem_cons_of_mem _ hq)
theorem clos_eq {sc:Scope} {env:PEnv} (h:∀ p∈sc.names,p.2 = .free→(env.cells.lookup p.1).isSome = true):closureFor sc env = pure (closOf env.cells sc.names []):=by
 delta closureFor
 exact (congrArg (· >>= pure) (clos_go sc.names [] h)).trans (pure_bind _ _)
theorem clos_keep {cells:List (Str × Addr)} {x:Str}:∀ (l:List (Str × NameKind)) (cs:List (Str × Addr)),cs.lookup x = some ((cells.lookup x).getD 0)→(closOf cells l cs).lookup x = some ((cells.lookup x).getD 0)
 | [],cs,h=>h
 | (y,k) :: l,cs,h=>clos_keep l _ (by
  split
  ·rw [List.lookup_cons]
   cases e:x == y with
   | true=>rw [eq_of_beq e]
   | false=>exact h
  ·exact h)
theorem clos_lookup {cells:List (Str × Addr)} {x:Str}:∀ (l:List (Str × NameKind)) (cs:List (Str × Addr)),(x,.free)∈l→(closOf cells l cs).lookup x = some ((cells.lookup x).getD 0)
 | (y,k) :: l,cs,h=>(List.mem_cons.mp h).elim (fun h=>by cases h; exact clos_keep l _ (by rw [if_pos (by rfl),List.lookup_cons,BEq.rfl])) fun h=>clos_lookup l _ h
theorem clos_mem {cells:List (Str × Addr)} {q:Str × Addr}:∀ (l:List (Str × NameKind)) (cs:List (Str × Addr)),q∈closOf cells l cs→q∈cs ∨ ((q.1,.free)∈l∧q.2 = (cells.lookup q.1).getD 0)
 | [],cs,h=>.inl h
 | (y,k) :: l,cs,h=>(clos_mem l _ h).elim (fun h=>by
  split at h
  ·rename_i hk
   exact (List.mem_cons.mp h).elim (fun e=>.inr (by rw [e,← eq_of_beq hk]; exact ⟨List.mem_cons_self ..,rfl⟩)) .inl
  ·exact .inl h) fun h=>.inr ⟨List.mem_cons_of_mem _ h.1,h.2⟩
structure CpOk (c:Ck) (sc:Scope) (nm:List (Str × Nat)) (slots:List Nat):Prop where
 kind:sc.kind = .function
 okl:∀ x∈sc.names,x.2 = .local→sc.names.lookup x.1 = some .local
 okc:∀ x∈sc.names,x.2 = .cell→sc.names.lookup x.1 = some .cell
 fre:∀ x∈sc.names,x.2 = .free→c.sc.names.lookup x.1 = some .cell ∨ c.sc.names.lookup x.1 = some .free
 nm:∀ x i,nm.lookup x = some i→i∈slots ∨ (c.names.lookup x = some i∧sc.names.lookup x = some .free)
noncomputable def ifsT (ifs:List PE) (env:PEnv):Sem Bool:=forIn ifs true fun c r=>if r = true then do let ok ← isTrue c env (eval c env); pure (ForInStep.yield ok) else pure (ForInStep.yield r)
noncomputable def bodyOf (elt:PE) (gens:List PComp) (d:Nat) (sc:Scope) (pos:Pos) (it acc:PV) (env:PEnv):Sem Fin:=match gens[d + 1]? with
 | none=>(eval elt env >>= fun x=>call (.builtin "list.append") [acc,x] >>= fun _=>pure ()) >>= fun _=>again (.compLoop (.ListComp elt gens sc pos) d it acc env)
 | some g=>eval g.iter env >>= fun x=>standAt g.iter.pos >>= fun _=>if (g.is_async != 0) = true then (foldedIterable g.iter x >>= fun x=>holding [x] (if (g.is_async != 0) = true then asyncIter x else pyIter x) >>= fun i=>runOwn (.compStart (.ListComp elt gens sc pos) (d + 1) i acc env) env >>= fun _=>again (.compLoop (.ListComp elt gens sc pos) d it acc env))
  else (foldedSetIterable g.iter env x >>= fun x=>holding [x] (if (g.is_async != 0) = true then asyncIter x else pyIter x) >>= fun i=>runOwn (.compStart (.ListComp elt gens sc pos) (d + 1) i acc env) env >>= fun _=>again (.compLoop (.ListComp elt gens sc pos) d it acc env))
theorem turn_eq {elt:PE} {gens:List PComp} {sc:Scope} {pos:Pos} {d:Nat} {target iter:PE} {ifs:List PE} (hg:gens[d]? = some ⟨target,iter,ifs,0⟩) (it acc:PV) (env:PEnv) :
  compTurn (.ListComp elt gens sc pos) d it acc env = (standAt iter.pos >>= fun _=>pyNext it >>= fun r=>match r with
   | none=>pure (.done .next)
   | some v=>letOwnedTupleGo target it v >>= fun _=>assign target env v >>= fun _=>ifsT ifs env >>= fun ok =>
     (if ok = true then bodyOf elt gens d sc pos it acc env else again (.compLoop (.ListComp elt gens sc pos) d it acc env))):=by
 delta compTurn bodyOf
 dsimp only
 rw [hg]
 cases gens[d + 1]? <;> rfl
section
variable {prog:Program} {w:World} {A:Around} {E:PV→Shared→Prop} {R:Result→Shared→Prop} {s:Shared} {elt:PE} {gens:List PComp} {sc:Scope} {pos:Pos} {d:Nat} {it acc:PV} {env:PEnv}
theorem loop_any {target iter:PE} {ifs:List PE} (hg:gens[d]? = some ⟨target,iter,ifs,0⟩) (I:Nat→Shared→Prop)
  (turn:∀ n s (E:PV→Shared→Prop),I n s→wpAny (model prog w) A (pyNext it) (fun r s₁=>match r with
   | none=>R (.ok .next) s₁
   | some v=>wpAny (model prog w) A (letOwnedTupleGo target it v) (fun _ s₁=>wpAny (model prog w) A (assign target env v) (fun _ s₂=>wpAny (model prog w) A (ifsT ifs env) (fun ok s₃ =>
      if ok = true then wpAny (model prog w) A (bodyOf elt gens d sc pos it acc env) (fun f s₄=>f = .again (.compLoop (.ListComp elt gens sc pos) d it acc env)∧∃ m,m < n∧I m s₄) E s₃ else ∃ m,m < n∧I m s₃) E s₂) E s₁) E s₁) E s)
  (n:Nat) (h:I n s):codeAny (model prog w) A (.compLoop (.ListComp elt gens sc pos) d it acc env) R s:=by
 refine codeAny_loop rfl I (fun n s hI=>?_) n h
 show wpAny _ A ((compTurn (.ListComp elt gens sc pos) d it acc env).onRaise (fun x=>do noteFrame x env; theTreesLotGoes x)) _ _ s
 refine wpAny_noted ?_
 rw [turn_eq hg]
 refine wpAny_bind (wpAny_standAt (wpAny_bind (wpAny_mono (turn n s _ hI) (fun r s₁ h₁=>?_) fun _ _ h'=>h')))
 cases r with
 | none=>exact wpAny_pure h₁
 | some v =>
  refine wpAny_bind (wpAny_mono h₁ (fun _ s₁ h₁=>wpAny_bind (wpAny_mono h₁ (fun _ s₂ h₂=>wpAny_bind (wpAny_mono h₂ (fun ok s₃ h₃=>?_) fun _ _ h'=>h')) fun _ _ h'=>h')) fun _ _ h'=>h')
  cases ok with
  | false=>exact wpAny_pure ⟨rfl,h₃⟩
  | true=>exact wpAny_mono h₃ (fun f s₄ h₄=>by cases h₄.1; exact ⟨rfl,h₄.2⟩) fun _ _ h'=>h'
theorem start_at {g:PComp} (hg:gens[d]? = some g) (ha:g.is_async = 0) (h0:codeAny (model prog w) A (.compLoop (.ListComp elt gens sc pos) d it acc env) R s)
  (h:∀ E,wpAny (model prog w) A (pyIter it) (fun it' s'=>codeAny (model prog w) A (.compLoop (.ListComp elt gens sc pos) d it' acc env) R s') E s) :
  codeAny (model prog w) A (.compStart (.ListComp elt gens sc pos) d it acc env) R s:=by
 refine codeAny_of_tree ?_
 show wpAny _ _ ((compStart (.ListComp elt gens sc pos) d it acc env).onRaise (fun x=>do noteFrame x env; standAt theWindowsPlace)) _ _ s
 refine wpAny_notedAt ?_
 have hc:(clausesOf (.ListComp elt gens sc pos))[d]? = some g:=hg
 delta compStart
 simp only [hc,Option.elim,ha,bne_self_eq_false,Bool.false_eq_true,if_false]
 refine wpAny_bind (wpAny_askSetting (wpAny_ite ?_))
 split
 ·first
   | exact wpAny_bind (wpAny_pure (wpAny_pure (And.intro rfl h0)))
   | exact wpAny_pure (And.intro rfl h0)
   | exact wpAny_bind (wpAny_bind (wpAny_pure (wpAny_pure (And.intro rfl h0))))
 ·first
   | exact wpAny_bind (wpAny_rule (wpAny_bind (wpAny_standAt (wpAny_bind (wpAny_mono (h _) (fun it' s' h'=>wpAny_pure (And.intro rfl h')) fun _ _ x=>x)))))
   | (refine wpAny_bind (wpAny_rule ?_); exact wpAny_bind (wpAny_standAt (wpAny_bind (wpAny_mono (h _) (fun it' s' h'=>wpAny_pure (And.intro rfl h')) fun _ _ x=>x))))
end
end Mine.Internal
namespace Mine.Internal
open PySem PySem.W PyProof.Rows PySem.Calls
structure Cs (B:Bd) (u:Nat) (c:Ck) (G:Ev) (b:Addr) (N:Nx) (ds:List V):Prop where
 gs:Gs B u c G N
 pv:Pv N b
 nb:¬ Own G.env b
 rc:RC B.D N b (.list ds)
noncomputable def Ac (c:Ck) (G:Ev) (b:Addr) (a:Addr):Prop:=Fr c G.env a ∨ a = b
noncomputable def Clr (l:List Nat) (ρ:REnv):Prop:=∀ i∈l,∀ d:V,ρ[i]? ≠ some (some d)
noncomputable def BdOk (B:Bd) (u:Nat) (c:Ck) (r:C) (elt:PE) (rest:List PComp):Prop :=
 ∀ (gens:List PComp) (d:Nat) (sc:Scope) (pos:Pos) (it:PV) (b:Addr) (G:Ev) (N:Nx) (ds:List V) (Q:Fin→Shared→Prop) (E:PV→Shared→Prop) (K:List V→St→Prop),
  gens.drop (d + 1) = rest→Cs B u c G b N ds→Clr r.slots G.ρ→kC B.P B.T r ds G.ρ N.σ K →
  (∀ l Y,K l Y.σ→Aft B.D N (Ac c G b) Y→Cs B u c G b Y l→Q (.again (.compLoop (.ListComp elt gens sc pos) d it (.ref b) G.env)) Y.s)→Wp B G N (bodyOf elt gens d sc pos it (.ref b) G.env) Q E
noncomputable def LoopSt (B:Bd) (u:Nat) (c:Ck) (tg:Tg) (ifs:List X) (r:C) (target elt:PE) (ifsE:List PE) (rest:List PComp):Prop :=
 ∀ (gens:List PComp) (d:Nat) (iter:PE) (sc:Scope) (pos:Pos) (G:Ev) (N0 N:Nx) (b:Addr) (ds:List V) (I:Addr) (fp:Addr→Prop) (J:Nat→Nx→Prop) (vs:List V) (g:Option Nat) (K:List V→St→Prop) (R:Result→Shared→Prop),
  gens[d]? = some ⟨target,iter,ifsE,0⟩→gens.drop (d + 1) = rest→kLoopC0 (stillB g vs) (bindTg G.ρ tg) (fun ρ σ k=>kIfs B.P B.T ifs ρ σ k) (fun ds ρ σ k=>kC B.P B.T r ds ρ σ k) vs ds N.σ K →
  ItOk B.D target I fp J vs g→J 0 N→Aft B.D N0 (Ac c G b) N→(∀ a,fp a→¬ N0.has a∧Pv N a∧¬ Own G.env a∧a ≠ b)→Cs B u c G b N ds→Clr (tg.slots++r.slots) G.ρ →
  (∀ l Z,K l Z.σ→Aft B.D N0 (Ac c G b) Z→Cs B u c G b Z l→R (.ok .next) Z.s)→codeAny (model B.D.prog B.D.w) G.A (.compLoop (.ListComp elt gens sc pos) d (.ref I) (.ref b) G.env) R N.s
section
variable {B:Bd} {u:Nat} {c:Ck} {G:Ev} {N Y Z:Nx} {g:Option Nat} {P:Addr→Prop} {b:Addr} {ds:List V} {ρ:REnv}
theorem Cs.on (x:Cs B u c G b Z ds) (H:Gs B u c (G.to ρ) Y) (a:Aft B.D Z P Y) (n:¬ P b):Cs B u c (G.to ρ) b Y ds:=⟨H,x.pv.go a,x.nb,RC_le a.le (fun o e=>a.kp b o e x.pv.nc n) x.rc⟩
theorem Cs.to (x:Cs B u c G b Z ds) (a:Aft B.D Z noA Y):Cs B u c G b Y ds:=x.on (ρ:=G.ρ) (x.gs.to a) a id
theorem Gs.less (H:Gs B u c (G.to ρ) Y) (h:∀ (j:Nat) (d:V),G.ρ[j]? = some (some d)→ρ[j]? = some (some d)):Gs B u c G Y:=⟨⟨H.go.rm,H.go.eo,fun x i d h1 h2 h3=>H.go.fe x i d h1 h2 (h i d h3),H.go.sm⟩,H.pv,H.ns,H.cl,H.ap⟩
theorem Ac.nb {a:Addr} (h:Ac c G b a) (n:¬ Own G.env a∧a ≠ b):False:=h.elim (fun f=>n.1 f.own) n.2
theorem ifs_no {ts:List PE} {env:PEnv} {A:Around} {s:Shared} {Q:Bool→Shared→Prop} {E:PV→Shared→Prop} (h:Q false s):wpAny (model B.D.prog B.D.w) A (forIn ts false fun c r=>if r = true then do let ok ← isTrue c env (eval c env); pure (ForInStep.yield ok) else pure (ForInStep.yield r)) Q E s:=by
 induction ts with
 | nil=>exact wpAny_pure h
 | cons e es ih =>
  rw [List.forIn_cons]
  exact wpAny_bind (wpAny_pure ih)
theorem ifs_ok {xs:List X} {ts:List PE} (h:All2 (fun x t=>TB B u c x (fun env=>isTrue t env (eval t env))) xs ts):∀ (G:Ev) (N:Nx) (Q:Bool→Shared→Prop) (E:PV→Shared→Prop) (K:Bool→St→Prop),Go B u c G N→kIfs B.P B.T xs G.ρ N.σ K →
  (∀ b Y,K b Y.σ→Aft B.D N noA Y→Q b Y.s)→Wp B G N (ifsT ts G.env) Q E:=by
 induction h with
 | nil=>exact fun G N Q E K H q z=>wpAny_pure (z true N q H.refl)
 | cons h1 _ ih =>
   intro G N Q E K H q z
   delta Wp ifsT
   rw [List.forIn_cons]
   exact wpAny_bind (wpAny_bind (h1 G N _ E _ H q fun b Y k a=>wpAny_pure (match b,k with
    | true,k=>ih G Y Q E K (H.to a) k fun b2 Z k2 a2=>z b2 Z k2 (a.trans a2)
    | false,k=>ifs_no (z false Y k a))))
theorem setMany_get:∀ {is:List Nat} {vs:List V} {ρ:REnv} {j:Nat},j ∉ is→(setMany is vs ρ)[j]? = ρ[j]?
 | [],_,_,_,_=>rfl
 | _ :: _,[],_,_,_=>rfl
 | i :: is,v :: vs,ρ,j,h=>(setMany_get (is:=is) fun m=>h (List.mem_cons_of_mem _ m)).trans (List.getElem?_set_ne fun e=>h (by rw [e]; exact List.mem_cons_self ..))
theorem bindTg_get {tg:Tg} {v:V} {ρ':REnv} {j:Nat} (h:bindTg ρ tg v = some ρ') (n:j ∉ tg.slots):ρ'[j]? = ρ[j]?:=by
 cases tg with
 | one i=>cases h; exact List.getElem?_set_ne fun e=>n (by rw [e]; exact List.mem_cons_self ..)
 | many is=>cases v with
  | tup l =>
   have h:(if is.length = l.length then some (setMany is l ρ) else none) = some ρ':=h
   by_cases e:is.length = l.length
   ·rw [if_pos e] at h; cases h; exact setMany_get n
   ·rw [if_neg e] at h; cases h
  | _=>cases h
theorem oK_eq {α:Type} {o:Option α} {K:α→Prop} (h:oK o K):oK o fun a=>o = some a∧K a:=by cases o <;> first | exact h | exact ⟨rfl,h⟩
theorem kLoopC_unf {st:St→Bool} {bnd:V→Option REnv} {ifs:REnv→St→(Bool→St→Prop)→Prop} {body:List V→REnv→St→(List V→St→Prop)→Prop} {l ds:List V} {σ:St} {k:List V→St→Prop} (h:kLoopC st bnd ifs body l ds σ k):kLoopC0 st bnd ifs body l ds σ k:=by
 delta kLoopC at h; exact h
theorem loop_ok {tg:Tg} {ifs:List X} {r:C} {target elt:PE} {ifsE:List PE} {rest:List PComp} (hB:TgOk c tg target) (hI:All2 (fun x t=>TB B u c x (fun env=>isTrue t env (eval t env))) ifs ifsE) (hd:∀ i∈r.slots,i ∉ tg.slots) (hr:BdOk B u c r elt rest) :
  LoopSt B u c tg ifs r target elt ifsE rest:=fun gens d iter sc pos G N0 N b ds I fp J vs g K R hg hdr q io j0 a0 nf x0 cl z =>
 have np:∀ a,Own G.env a→¬ fp a:=fun a o f=>(nf a f).2.2.1 o
 loop_any hg (fun j s2=>∃ k Z ds,s2 = Z.s∧j = vs.length - k∧k≤vs.length∧kLoopC0 (stillB g vs) (bindTg G.ρ tg) (fun ρ σ k=>kIfs B.P B.T ifs ρ σ k) (fun ds ρ σ k=>kC B.P B.T r ds ρ σ k) (vs.drop k) ds Z.σ K∧J k Z∧Aft B.D N0 (Ac c G b) Z∧Cs B u c G b Z ds∧∀ a,fp a→Pv Z a) (fun j s2 E h=>by
  obtain ⟨k,Z,ds,rfl,rfl,hk,q,jz,a,x,pv⟩:=h
  cases e0:vs.drop k with
  | nil =>
   rw [e0] at q
   have q:=stB_of q
   rw [drop_end hk e0] at jz
   exact wpAny_mono (io.stop G.A Z (fun s₁=>R (.ok .next) s₁) _ x.gs.go.rm.hand jz x.gs.go.sm q.1 fun s₁ kp g os=>have w:=x.gs.go.sm.turn (F:=fp) pv kp
    z ds (Z.at s₁) q.2 (a.lose (fun b f=>(nf b f).1) pv kp g os) ⟨x.gs.spoil pv kp np,⟨has_kept kp x.pv.lt fun f=>(nf b f).2.2.2 rfl,x.pv.nw,x.pv.nm⟩,x.nb,RC_le w.1 (fun o e=>kp b o e fun f=>(nf b f).2.2.2 rfl) x.rc⟩) (fun r s₁ h=>by cases h.1; exact h.2) fun _ _ h=>h
  | cons v0 rest =>
   rw [e0] at q
   have q:=stB_of q
   have w:=drop_get e0
   have hlt:=(List.getElem?_eq_some_iff.mp w.1).1
   refine wpAny_mono (io.item G.A k v0 Z (fun v s₂=>wpAny (model B.D.prog B.D.w) G.A (assign target G.env v) _ E s₂) E E x.gs.go.rm.hand w.1 jz x.gs.go.sm pv q.1 fun v Y1 j1 a1 e1 rv=>?_) (fun r s₁ h=>h.elim fun v h=>by cases h.1; exact h.2) fun _ _ h=>h
   refine bind_for (G:=G) hB (x.gs.item a1 np) (oK_eq q.2) rv fun ρ' Y2 k2 e2 a2 H2=>?_
   obtain ⟨eb,k2⟩:=k2
   have x2:Cs B u c (G.to ρ') b Y2 ds:=(x.on (ρ:=G.ρ) (x.gs.item a1 np) a1 fun f=>(nf b f).2.2.2 rfl).on H2 a2 fun f=>x.nb f.own
   have a12:=a.then a1 fun a f=>(nf a f).1
   have pv1:∀ a,fp a→Pv Y1 a:=fun b f=>(pv b f).go a1
   have back:∀ Y ds,kLoopC0 (stillB g vs) (bindTg G.ρ tg) (fun ρ σ k=>kIfs B.P B.T ifs ρ σ k) (fun ds ρ σ k=>kC B.P B.T r ds ρ σ k) rest ds Y.σ K→Aft B.D Y2 (Ac c G b) Y→Cs B u c (G.to ρ') b Y ds →
     ∃ m,m < vs.length - k∧∃ k Z ds,Y.s = Z.s∧m = vs.length - k∧k≤vs.length∧kLoopC0 (stillB g vs) (bindTg G.ρ tg) (fun ρ σ k=>kIfs B.P B.T ifs ρ σ k) (fun ds ρ σ k=>kC B.P B.T r ds ρ σ k) (vs.drop k) ds Z.σ K∧J k Z∧Aft B.D N0 (Ac c G b) Z∧Cs B u c G b Z ds∧∀ a,fp a→Pv Z a:=fun Y ds k3 a3 x3 =>
    have a23:=(a2.mono fun a f=>.inl f).trans a3
    ⟨vs.length - (k + 1),Nat.sub_lt_sub_left hlt (Nat.lt_succ_self k),k + 1,Y,ds,rfl,rfl,hlt,by rw [w.2]; exact k3,io.jm (k + 1) Y1 Y a23.le (fun a f o e=>a23.kp a o e (pv1 a f).nc fun h=>h.nb (nf a f).2.2) j1,a12.trans a23,
     ⟨x3.gs.less fun j d e=>(bindTg_get eb fun m=>cl j (List.mem_append.mpr (.inl m)) d e).trans e,x3.pv,x3.nb,x3.rc⟩,fun a f=>(pv1 a f).go a23⟩
   rw [← e1,← e2] at k2
   exact ifs_ok hI (G.to ρ') Y2 _ E _ H2.go k2 fun t Y3 k3 a3=>match t,k3 with
    | true,k3=>hr gens d sc pos (.ref I) b (G.to ρ') Y3 ds _ E _ hdr (x2.to a3) (fun i m d e=>cl i (List.mem_append.mpr (.inr m)) d ((bindTg_get eb (hd i m)).symm.trans e)) k3 fun l Y4 k4 a4 x4=>⟨rfl,back Y4 l k4 (a3.up.trans a4) x4⟩
    | false,k3=>back Y3 ds k3 a3.up (x2.to a3)) _
  ⟨0,N,ds,rfl,rfl,Nat.zero_le _,by rw [List.drop_zero]; exact q,j0,a0,x0,fun a f=>(nf a f).2.1⟩
theorem bd_elt {x:X} {elt:PE} (he:TE B u c x (fun env=>eval elt env)):BdOk B u c (.elt x) elt []:=fun gens d sc pos it b G N ds Q E K hd x cl q z=>by
 delta Wp bodyOf
 rw [List.getElem?_eq_none (List.drop_eq_nil_iff.mp hd)]
 refine wpAny_bind (wpAny_bind (he G N _ E _ x.gs.go q fun v Y w k a r=>wpAny_bind ?_))
 have x1:=x.to a
 obtain ⟨arr,il,rs⟩:=x1.rc
 obtain ⟨hz,k⟩:=bK_of k
 refine wpAny_list_append_plain (l:=b) (items:=arr) il (fun h' il' sb=>?_) (cap_ln (len_eq rs) (of_decide_eq_true hz))
 have t:=Aft.turn1 (t:=Y.s.toks) x1.gs.go.sm x1.pv (fun c o n e=>sb.extBut c o n e) (il'.elim fun k e=>⟨_,e⟩)
 exact wpAny_pure (wpAny_pure (z (ds++[v]) (Y.at { Y.s with heap:=h' }) k (a.up.trans (t.mono fun c e=>.inr e)) ⟨x1.gs.item t fun a o e=>x.nb (e ▸ o),x1.pv.go t,x.nb,arr.push w,il',by rw [Array.toList_push]; exact RVs_append (RVs_le t.le _ _ rs) ⟨w,[],rfl,RV_le t.le _ _ r,rfl⟩⟩))
theorem bd_gen {tg:Tg} {src:Src} {ifs:List X} {r:C} {target iter elt:PE} {ifsE:List PE} {rest:List PComp} (hs:TSr B u c target src iter) (hf:∀ env x,foldedSetIterable iter env x = pure x) (hl:LoopSt B u c tg ifs r target elt ifsE rest):BdOk B u c (.gen tg src ifs r) elt (⟨target,iter,ifsE,0⟩ :: rest):=fun gens d sc pos it b G N ds Q E K hd x cl q z=>by
 have hn:=drop_get hd
 delta Wp bodyOf
 rw [hn.1]
 refine wpAny_bind (wpAny_mono (hs G N (fun i s=>codeAny (model B.D.prog B.D.w) G.A (.compStart (.ListComp elt gens sc pos) (d + 1) i (.ref b) G.env) (fun r s₅=>r = .ok .next∧Q (.again (.compLoop (.ListComp elt gens sc pos) d it (.ref b) G.env)) s₅) s) E _ x.gs.go q fun vs g Y I fp J k io j a nf=>?_)
  (fun v s₄ h₄=>wpAny_bind (wpAny_standAt (show wpAny _ _ (foldedSetIterable iter G.env v >>= _) _ _ _ from wpAny_bind (wpAny_of_eq (hf _ v) (wpAny_bind (wpAny_holding (wpAny_mono h₄ (fun i s₅ h₅=>wpAny_bind (wpAny_runOwn (codeAny_mono h₅ fun r s₆ h₆=>by cases h₆.1; exact wpAny_pure h₆.2))) fun _ _ h'=>h'))))))) fun _ _ h=>h)
 have run:=hl gens (d + 1) iter sc pos G N Y b ds I fp J vs g K (fun r s₅=>r = .ok .next∧Q (.again (.compLoop (.ListComp elt gens sc pos) d it (.ref b) G.env)) s₅) hn.1 hn.2 (kLoopC_unf k) io j a.up (fun c f=>⟨(nf c f).1,(nf c f).2,fun o=>(nf c f).1 (own_has x.gs.go.eo o).1,fun e=>(nf c f).1 (e ▸ x.pv.lt)⟩) (x.to a) cl fun l Z k a2 x2=>⟨rfl,z l Z k a2 x2⟩
 exact start_at hn.1 rfl run fun E'=>io.self G.A 0 Y _ E' j run
end
end Mine.Internal
namespace Mine.Internal
open PySem PySem.W PyProof.Rows PySem.Calls
theorem cellsFrom_lookup {x:Str}:∀ (l:List (Str × NameKind)) (n:Nat) (acc:List (Str × Addr)),((x,NameKind.cell)∈l ∨ (acc.lookup x).isSome = true)→((cellsFrom n l acc).lookup x).isSome = true
 | [],n,acc,h=>h.elim (fun h=>nomatch h) id
 | (y,k) :: r,n,acc,h=>by
  unfold cellsFrom
  split
  ·refine cellsFrom_lookup r (n + 1) _ (h.elim (fun h=>(List.mem_cons.mp h).elim (fun h=>.inr ?_) .inl) fun h=>.inr ?_)
   ·cases h; rw [List.lookup_cons,BEq.rfl]; rfl
   ·rw [List.lookup_cons]
    cases x == y with
    | true=>rfl
    | false=>exact h
  ·rename_i hk
   exact cellsFrom_lookup r n acc (h.imp (fun h=>(List.mem_cons.mp h).elim (fun h=>by cases h; exact absurd rfl hk) id) id)
theorem cells_app:∀ (l:List (Str × NameKind)) (n:Nat) (a b:List (Str × Addr)),cellsFrom n l (a++b) = cellsFrom n l a++b
 | [],_,_,_=>rfl
 | (x,k) :: r,n,a,b=>by
  unfold cellsFrom
  split
  ·exact cells_app r (n + 1) ((x,n) :: a) b
  ·exact cells_app r n a b
theorem cells_mem {q:Str × Addr}:∀ (l:List (Str × NameKind)) (n:Nat) (acc:List (Str × Addr)),q∈cellsFrom n l acc→q∈acc ∨ (q.1,NameKind.cell)∈l
 | [],_,_,h=>.inl h
 | (x,k) :: r,n,acc,h=>by
  unfold cellsFrom at h
  split at h
  ·rename_i hk
   exact (cells_mem r _ _ h).elim (fun h=>(List.mem_cons.mp h).elim (fun e=>.inr (by rw [e,← eq_of_beq hk]; exact List.mem_cons_self ..)) .inl) fun h=>.inr (List.mem_cons_of_mem _ h)
  ·exact (cells_mem r _ _ h).imp id (List.mem_cons_of_mem _)
theorem newEnv_cells {M:Model} {A:Around} {E:PV→Shared→Prop} {s:Shared} {scope:Scope} {globals:Addr} {closure:List (Str × Addr)} {qual:Str} {o:PEnv} {Q:PEnv→Shared→Prop}
  (hQ:∀ h',(∃ m,h'.Ns s.heap.objs.size m)→(∀ b o,s.heap.get? b = some o→h'.get? b = some o)→CellsOk h' (s.heap.objs.size + 1) (cellsFrom (s.heap.objs.size + 1) scope.names []) →
   Q (newEnv scope s.heap.objs.size globals (cellsFrom (s.heap.objs.size + 1) scope.names []++closure) qual none .none (some o) builtinsNs) { s with heap:=h' }):wpAny M A (newFunctionEnv scope globals closure [] qual none .none (some o)) Q E s:=by
 simp only [newFunctionEnv,Option.isSome_some,if_true]
 refine wpAny_bind (wpAny_alloc ?_)
 refine wpAny_bind (wpAny_layCells _ (fun name kind cells=>by cases hkc:kind == NameKind.cell <;> simp [hkc]) _ _ _ _ ?_)
 have ok:=cellsFrom_ok scope.names (s.heap.push { cls:=.type "dict",data:=.dict #[] }) (s.heap.objs.size + 1) [] ⟨fun _ _ hm=>(nomatch hm),List.Pairwise.nil⟩ (by rw [Heap.size_push]; exact Nat.le_refl _)
 rw [Heap.size_push] at ok
 rw [show ({ s with heap:=s.heap.push { cls:=.type "dict",data:=.dict #[] } }:Shared).heap.objs.size = s.heap.objs.size + 1 from Heap.size_push ..,show closure = []++closure from rfl,cells_app]
 exact wpAny_bind (wpAny_pure (wpAny_pure (hQ _ ⟨_,(Heap.Ns.new s.heap (.type "dict")).keeps (pushCells_keeps _ _)⟩ (fun b o e=>pushCells_keeps _ _ b o (Heap.get?_push_of_some _ e)) ok)))
theorem look_app {α:Type} {x:Str} {v:α}:∀ {l k:List (Str × α)},l.lookup x = some v→(l++k).lookup x = some v
 | (y,u) :: l,k,h=>by
  rw [List.cons_append]
  rw [List.lookup_cons] at h ⊢
  cases e:x == y with
  | true=>rw [e] at h; exact h
  | false=>rw [e] at h; exact look_app h
theorem look_skip {α:Type} {x:Str}:∀ {l k:List (Str × α)},l.lookup x = none→(l++k).lookup x = k.lookup x
 | [],_,_=>rfl
 | (y,u) :: l,k,h=>by
  rw [List.cons_append,List.lookup_cons]
  rw [List.lookup_cons] at h
  cases e:x == y with
  | true=>rw [e] at h; cases h
  | false=>rw [e] at h; exact look_skip h
section
variable {B:Bd} {u:Nat} {c:Ck} {G:Ev} {N Y Z:Nx}
theorem clr_get:∀ {is:List Nat} {ρ:REnv} {j:Nat} {d:V},(clr is ρ)[j]? = some (some d)→ρ[j]? = some (some d)∧j ∉ is
 | [],_,_,_,h=>⟨h,List.not_mem_nil⟩
 | i :: is,ρ,j,d,h=>have w:=clr_get (is:=is) (ρ:=ρ.set i none) h
  (set_some w.1).elim (fun e=>nomatch e.2) fun e=>⟨e.2,fun m=>(List.mem_cons.mp m).elim (fun g=>e.1 g.symm) w.2⟩
theorem comp_core {tg:Tg} {src:Src} {ifs:List X} {r:C} {target iter elt:PE} {ifsE:List PE} {rest:List PComp} {sc0:Scope} {pos:Pos} {nm:List (Str × Nat)} {K:List V→St→Prop} {E:PV→Shared→Prop} (K0:CpOk c sc0 nm (tg.slots++r.slots)) (hs:TSr B u c target src iter)
  (hl:LoopSt B u ⟨nm,relS sc0 c.sc,ownC sc0⟩ tg ifs r target elt ifsE rest) (H:Go B u c G N) (q:kC B.P B.T (.gen tg src ifs r) [] (clr (tg.slots++r.slots) G.ρ) N.σ K) {R:PV→Addr→Result→Shared→Prop}
  (z:∀ l Y b Cl,K l Y.σ→Aft B.D N noA Y→¬ N.has b→¬ N.has Cl→b ≠ Cl→Pv Y b→Pv Y Cl→RC B.D Y b (.list l)→(∃ m,Y.s.heap.Ns Cl m)→R (.ref b) Cl (.ok .next) Y.s) :
  Wp B G N (eval iter G.env) (fun x s₁=>wpAny (model B.D.prog B.D.w) G.A (pyIter x) (fun it s₂=>wpAny (model B.D.prog B.D.w) G.A (newList []) (fun acc s₃ =>
   wpAny (model B.D.prog B.D.w) G.A (newFunctionEnv sc0 G.env.globals (closOf G.env.cells sc0.names []) [] G.env.qual none .none (some G.env)) (fun cenv s₄ =>
    codeAny (model B.D.prog B.D.w) G.A (.compStart (.ListComp elt (⟨target,iter,ifsE,0⟩ :: rest) sc0 pos) 0 it acc { cenv with scope:=relabel sc0 G.env }) (R acc cenv.locals) s₄) E s₃) E s₂) E s₁) E:=by
 refine hs (G.to (clr (tg.slots++r.slots) G.ρ)) N _ E _ ⟨H.rm,H.eo,fun x i d h1 h2 h3=>H.fe x i d h1 h2 (clr_get h3).1,H.sm⟩ q fun vs g Y I fp J k io j a nf=>?_
 refine wpAny_newObj_type (newEnv_cells fun h₁ hns hkp hco=>?_)
 have z1:∀ o:Obj,(Y.s.heap.push o).objs.size = Y.s.heap.objs.size + 1:=fun o=>Heap.size_push ..
 dsimp only at hns hkp hco ⊢
 rw [z1] at hns hco ⊢
 have n1:∀ {k:Nat},Y.s.heap.objs.size≤k→¬ Y.has k:=fun hk h=>absurd (has_lt h) (Nat.not_lt.mpr hk)
 have nb:¬ Y.has Y.s.heap.objs.size:=n1 (Nat.le_refl _)
 have nl:¬ Y.has (Y.s.heap.objs.size + 1):=n1 (Nat.le_succ _)
 have nbl:Y.s.heap.objs.size ≠ Y.s.heap.objs.size + 1:=Nat.ne_of_lt (Nat.lt_succ_self _)
 have hb:h₁.get? Y.s.heap.objs.size = some { cls:=.type "list",dict:=none,data:=.seq ([]:List PV).toArray 0,slots:=#[] }:=hkp _ _ (push_at rfl)
 have hm:∀ q∈cellsFrom (Y.s.heap.objs.size + 1 + 1) sc0.names [],(q.1,NameKind.cell)∈sc0.names:=fun q hq=>(cells_mem _ _ _ hq).resolve_left List.not_mem_nil
 have hown:∀ x,sc0.names.lookup x = some .cell→∃ cc,(cellsFrom (Y.s.heap.objs.size + 1 + 1) sc0.names []).lookup x = some cc:=fun x e=>Option.isSome_iff_exists.mp (cellsFrom_lookup _ _ _ (.inl (mem_of_lookup e)))
 have m:More Y { Y.s with heap:=h₁ }:=⟨fun x o e=>hkp x o (Heap.get?_push_of_some _ e),rfl,rfl⟩
 have pc:∀ q∈cellsFrom (Y.s.heap.objs.size + 1 + 1) sc0.names [],¬ Y.has q.2∧Pv (Y.at { Y.s with heap:=h₁ }) q.2∧q.2 ≠ Y.s.heap.objs.size∧q.2 ≠ Y.s.heap.objs.size + 1:=fun q hq =>
  have w:=hco.empty q.1 q.2 hq
  have n:=n1 (Nat.le_trans (Nat.le_add_right _ 2) w.2)
  ⟨n,(cell_has w.1).elim fun o e=>m.pv a.sm n e,Nat.ne_of_gt (Nat.lt_of_lt_of_le (Nat.lt_succ_of_lt (Nat.lt_succ_self _)) w.2),Nat.ne_of_gt w.2⟩
 generalize cellsFrom (Y.s.heap.objs.size + 1 + 1) sc0.names [] = cs at *
 generalize Y.s.heap.objs.size = b at *
 generalize b + 1 = L at *
 have a1:=m.aft a.sm
 have a2:=a.trans a1
 have pb:=m.pv a.sm nb hb
 have pl:=hns.elim fun _ hns=>(Ns_has hns).elim fun o e=>m.pv a.sm nl e
 have cl:∀ q∈closOf G.env.cells sc0.names [],N.has q.2∧¬ chg N.μ q.2:=fun q hq=>(clos_mem _ _ hq).elim (fun h=>nomatch h) fun h =>
  (Option.isSome_iff_exists.mp (H.eo.cx q.1 (K0.fre _ h.1 rfl))).elim fun cc hc=>by rw [h.2,hc]; exact H.eo.cells (q.1,cc) (mem_of_lookup hc)
 have no:∀ x,¬ N.has x→x ≠ L→(∀ q∈cs,q.2 ≠ x)→¬ Own (compEnvC sc0 (cs++closOf G.env.cells sc0.names []) L G.env) x:=fun x h n nc o=>o.elim n fun ⟨q,hq,e⟩=>(List.mem_append.mp hq).elim (fun hq=>nc q hq e) fun hq=>h (e ▸ (cl q hq).1)
 have fno:∀ x,sc0.names.lookup x = some .free→cs.lookup x = none:=fun x e=>Option.eq_none_iff_forall_ne_some.mpr fun cc hc=>nomatch (K0.okc _ (hm _ (mem_of_lookup hc)) rfl).symm.trans e
 have own:∀ x,ownC sc0 x = true→∃ cc,cs.lookup x = some cc:=fun x e=>hown x (eq_of_beq e)
 have gs:Gs B u ⟨nm,relS sc0 c.sc,ownC sc0⟩ ⟨compEnvC sc0 (cs++closOf G.env.cells sc0.names []) L G.env,G.A,clr (tg.slots++r.slots) G.ρ⟩ (Y.at { Y.s with heap:=h₁ }) :=
  ⟨⟨H.rm,⟨congrArg (relS sc0) H.eo.sc,K0.kind,H.eo.gl,H.eo.bi,⟨pl.lt,pl.nc⟩,fun q hq=>(List.mem_append.mp hq).elim (fun hq=>⟨(pc q hq).2.1.lt,(pc q hq).2.1.nc⟩) fun hq=>⟨a2.ex _ (cl q hq).1,a2.chg (cl q hq).1 (cl q hq).2⟩,H.eo.fr,fun x hx=>by
   have hx:(relS sc0 c.sc).names.lookup x = some .cell ∨ (relS sc0 c.sc).names.lookup x = some .free:=hx
   rw [relS_find] at hx
   have w:∃ k,sc0.names.lookup x = some k∧(relK c.sc x k = .cell ∨ relK c.sc x k = .free):=hx.elim (fun h=>(Option.map_eq_some_iff.mp h).elim fun k w=>⟨k,w.1,.inl w.2⟩) fun h=>(Option.map_eq_some_iff.mp h).elim fun k w=>⟨k,w.1,.inr w.2⟩
   obtain ⟨k,hk,w⟩:=w
   show (List.lookup x (cs++closOf G.env.cells sc0.names [])).isSome = true
   rcases relK_of w with e | e
   ·obtain ⟨cc,hc⟩:=hown x (e ▸ hk)
    rw [look_app hc]; rfl
   ·rw [look_skip (fno x (e ▸ hk)),clos_lookup _ _ (e ▸ mem_of_lookup hk)]; rfl⟩,fun x i d h1 h2 h3=>by
   have w:=clr_get h3
   obtain ⟨e1,e2⟩:=(K0.nm x i h1).resolve_left w.2
   have hm:=mem_of_lookup e2
   have hk:=K0.fre _ hm rfl
   obtain ⟨v,at_,rv⟩:=H.fe x i d e1 (by rw [H.eo.kd]; exact hk.elim (fun e=>by rw [show c.sc.names.lookup x = _ from e]; rfl) fun e=>by rw [show c.sc.names.lookup x = _ from e]; rfl) w.1
   refine ⟨v,?_,RV_le a2.le d v rv⟩
   rcases at_ with ⟨k1,_⟩ | ⟨_,cc,ec,o,ho,hd⟩
   ·rw [H.eo.kd] at k1
    exact hk.elim (fun e=>nomatch k1.symm.trans e) fun e=>nomatch k1.symm.trans e
   ·have kk:(compEnvC sc0 (cs++closOf G.env.cells sc0.names []) L G.env).kindOf x = some (relK c.sc x .free):=(congrArg (fun s=>(relS sc0 s).names.lookup x) H.eo.sc).trans (by rw [relS_find,e2]; rfl)
    exact .inr ⟨(relK_free (o:=c.sc) (x:=x) rfl).imp (fun e=>by rw [kk,e]) fun e=>by rw [kk,e],cc,(look_skip (fno x e2)).trans ((clos_lookup _ _ hm).trans (by rw [ec]; rfl)),o,a2.old (H.eo.cells (x,cc) (mem_of_lookup ec)).2 ho,hd⟩,a1.sm⟩,
  fun x f=>f.elim (fun e=>by rw [e]; exact pl) fun ⟨y,w,e⟩=>(own y w.1).elim fun cc hc=>Option.some.inj ((look_app hc).symm.trans e) ▸ (pc _ (mem_of_lookup hc)).2.1,hns,
  fun y w _=>(own y w).elim fun cc hc=>⟨cc,none,look_app hc,(hco.empty y cc (mem_of_lookup hc)).1⟩,
  fun x y b w _ e1 e2=>(own x w).elim fun cc hc=>by
   cases Option.some.inj ((look_app hc).symm.trans e1)
   exact (List.mem_append.mp (mem_of_lookup e2)).elim (fun h=>name_of_addr hco.apart (mem_of_lookup hc) h) fun h=>absurd (a.ex _ (cl _ h).1) (pc _ (mem_of_lookup hc)).1⟩
 have run:=hl (⟨target,iter,ifsE,0⟩ :: rest) 0 iter sc0 pos _ N _ b [] I fp J vs g K (R (.ref b) L) rfl rfl (kLoopC_unf k) io (io.jm 0 Y _ a1.le (fun b f o e=>m.k b o e) j) a2.up
  (fun x f=>⟨(nf x f).1,(nf x f).2.go a1,no x (nf x f).1 (fun e=>nl (e ▸ (nf x f).2.lt)) fun q hq e=>(pc q hq).1 (e ▸ (nf x f).2.lt),fun e=>nb (e ▸ (nf x f).2.lt)⟩) ⟨gs,pb,no b (fun h=>nb (a.ex _ h)) nbl fun q hq=>(pc q hq).2.2.1,_,⟨0,hb⟩,rfl⟩ (fun i hi d e=>(clr_get e).2 hi)
  fun l Z k2 a3 x3=>z l Z b L k2 (a3.hide fun x f=>f.elim (fun f=>f.elim (fun (e:x = L) h=>nl (a.ex _ (e ▸ h))) fun ⟨y,w,e⟩ h=>(own y w.1).elim fun cc hc=>(pc _ (mem_of_lookup hc)).1 (a.ex _ (Option.some.inj ((look_app hc).symm.trans e) ▸ h))) fun e h=>nb (a.ex _ (e ▸ h))) (fun h=>nb (a.ex _ h)) (fun h=>nl (a.ex _ h)) nbl x3.pv (x3.gs.pv L (.inl rfl)) x3.rc x3.gs.ns
 exact start_at (g:=⟨target,iter,ifsE,0⟩) rfl rfl run fun E'=>io.self G.A 0 _ _ E' (io.jm 0 Y _ a1.le (fun b f o e=>m.k b o e) j) run
variable {tg:Tg} {src:Src} {ifs:List X} {r:C} {target iter elt:PE} {ifsE:List PE} {rest:List PComp} {sc0:Scope} {nm:List (Str × Nat)}
theorem tf_comp {pos:Pos} (K0:CpOk c sc0 nm (tg.slots++r.slots)) (hs:TSr B u c target src iter) (hf:∀ env x,foldedSetIterable iter env x = pure x) (hl:LoopSt B u ⟨nm,relS sc0 c.sc,ownC sc0⟩ tg ifs r target elt ifsE rest) :
  TF B u c (.comp (.gen tg src ifs r)) (fun env=>eval (.ListComp elt (⟨target,iter,ifsE,0⟩ :: rest) sc0 pos) env):=fun G N Q E K H q z=>by
 show wpAny _ G.A (eval (.ListComp elt (⟨target,iter,ifsE,0⟩ :: rest) sc0 pos) G.env) Q E N.s
 rw [eval_ListComp]
 exact wpAny_comprehension_free (use:=none) rfl (hf G.env) (clos_eq fun p hp e=>H.eo.cx p.1 (K0.fre p hp e)) K0.kind K0.okl (comp_core (R:=fun acc C=>compPost (model B.D.prog B.D.w) G.A E none Q acc C) K0 hs hl H q fun l Y b Cl k a nb nc ne pb pc rc ns=>ns.elim fun mm ns=>⟨mm,ns,fun h' sb =>
  have kp:∀ c o,Y.s.heap.get? c = some o→¬ c = Cl→h'.get? c = some o:=fun c o e n=>sb.extBut c o n e
  have w:=a.sm.turn (F:=fun c=>c = Cl) (s:={ Y.s with heap:=h' }) (fun c e=>e ▸ pc) kp
  z (.list l) (Y.at { Y.s with heap:=h' }) b k (a.lose (P:=fun c=>c = Cl) (fun c e=>e ▸ nc) (fun c e=>e ▸ pc) kp rfl rfl) nb ⟨has_kept kp pb.lt ne,pb.nw,pb.nm⟩ (RC_le w.1 (fun o e=>kp b o e ne) rc)⟩)
theorem name_core {cpos pos py:Pos} {i:Nat} {y:Str} {K:Out→Prop} {Kc:List V→St→Prop} {Q:Flow→Shared→Prop} {E:PV→Shared→Prop} (hn:Nm c y i) (K0:CpOk c sc0 nm (tg.slots++r.slots)) (hs:TSr B u c target src iter) (hf:∀ env x,foldedSetIterable iter env x = pure x) (hl:LoopSt B u ⟨nm,relS sc0 c.sc,ownC sc0⟩ tg ifs r target elt ifsE rest)
  (hsw:∀ env:PEnv,env.scope = c.sc→swapsWith (.ListComp elt (⟨target,iter,ifsE,0⟩ :: rest) sc0 cpos) (some (.Name y py)) pos.line env = pure true) (H:Gs B u c G N) (q:kC B.P B.T (.gen tg src ifs r) [] (clr (tg.slots++r.slots) G.ρ) N.σ Kc) (z:OutOk B u c G N K Q)
  (pub:∀ l Y b,Kc l Y.σ→Aft B.D N noA Y→¬ N.has b→Pv Y b→RC B.D Y b (.list l)→∃ d Y',Y'.s = Y.s∧Aft B.D N noA Y'∧Val B Y' d (.ref b)∧K (.next (G.ρ.set i (some d)) Y'.σ)∧∀ a,b ≠ a→Pv Y a→Pv Y' a) :
  Wp B G N (exec (.Assign [.Name y py] (.ListComp elt (⟨target,iter,ifsE,0⟩ :: rest) sc0 cpos) pos) G.env) Q E:=by
 delta Wp
 rw [exec_Assign_Name_used _ _ _ _ (hsw G.env H.go.eo.sc)]
 refine wpAny_bind (wpAny_standAt (wpAny_bind ?_))
 show wpAny _ _ (do let _ ← comprehension (.ListComp elt (⟨target,iter,ifsE,0⟩ :: rest) sc0 cpos) sc0 G.env _ (newList []) false (eval iter G.env) (some (assign (.Name y py) G.env))) _ _ _
 refine wpAny_bind (wpAny_mono (wpAny_comprehension_free (use:=some (assign (.Name y py) G.env)) (Q:=fun _ s'=>Q .next s') rfl (hf G.env) (clos_eq fun p hp e=>H.go.eo.cx p.1 (K0.fre p hp e)) K0.kind K0.okl
  (comp_core (R:=fun acc C=>compPost (model B.D.prog B.D.w) G.A E (some (assign (.Name y py) G.env)) (fun _ s'=>Q .next s') acc C) K0 hs hl H.go q fun l Y b Cl k a nb nc ne pb pc rc ns=>ns.elim fun mm ns=>?_)) (fun _ s' hq=>wpAny_pure (wpAny_pure hq)) fun _ _ e=>e)
 obtain ⟨d,Y',e,aw,rv,k,pp⟩:=pub l Y b k a nb pb rc
 have pw:=pp Cl ne pc
 have nF:¬ Own G.env Cl:=fun o=>nc (own_has H.go.eo o).1
 show wpAny _ _ (assign (.Name y py) G.env (.ref b)) _ _ Y.s
 rw [← e] at ns ⊢
 refine wpAny_assign_Name (store_ok (N:=Y') (H.to aw) hn rv fun Y2 es a2 H2=>⟨mm,ns.at fun o e=>a2.kp Cl o e pw.nc fun f=>nF f.own,fun h' sb=>?_⟩)
 have kp:∀ c o,Y2.s.heap.get? c = some o→¬ c = Cl→h'.get? c = some o:=fun c o e n=>sb.extBut c o n e
 exact z.1 _ (Y2.at { Y2.s with heap:=h' }) (show K (.next (G.ρ.set i (some d)) Y2.σ) by rw [es]; exact k) ((aw.up.trans a2).lose (P:=fun c=>c = Cl) (fun c e=>e ▸ nc) (fun c e=>e ▸ pw.go a2) kp rfl rfl) (H2.spoil (P:=fun c=>c = Cl) (fun c e=>e ▸ pw.go a2) kp fun c o e=>nF (e ▸ o))
theorem ts_nameC {cpos pos py:Pos} {i:Nat} {y:Str} (hn:Nm c y i) (K0:CpOk c sc0 nm (tg.slots++r.slots)) (hs:TSr B u c target src iter) (hf:∀ env x,foldedSetIterable iter env x = pure x) (hl:LoopSt B u ⟨nm,relS sc0 c.sc,ownC sc0⟩ tg ifs r target elt ifsE rest)
  (hsw:∀ env:PEnv,env.scope = c.sc→swapsWith (.ListComp elt (⟨target,iter,ifsE,0⟩ :: rest) sc0 cpos) (some (.Name y py)) pos.line env = pure true) :
  TS B u c (.asg (.name i) (.comp (.gen tg src ifs r))) (fun env=>exec (.Assign [.Name y py] (.ListComp elt (⟨target,iter,ifsE,0⟩ :: rest) sc0 cpos) pos) env)∧TS B u c (.asg (.name i) (.mut (.comp (.gen tg src ifs r)))) (fun env=>exec (.Assign [.Name y py] (.ListComp elt (⟨target,iter,ifsE,0⟩ :: rest) sc0 cpos) pos) env) :=
 ⟨fun G N Q E K H q z=>name_core hn K0 hs hf hl hsw H q z fun l Y b k a nb pb rc=>⟨.list l,Y.wi b,rfl,a.wi pb nb,RC_RV (.inr rfl) (RC_le Le.wi (fun _ e=>e) rc),k,fun x ne px=>⟨px.lt,fun w=>w.elim px.nw fun e=>ne e.symm,px.nm⟩⟩,
  fun G N Q E K H q z=>name_core hn K0 hs hf hl hsw H q z fun l Y b k a nb pb rc=>⟨.loc Y.σ.length,Y.lo (b,b) (.list l),rfl,a.lo pb pb ⟨nb,nb⟩ (base_none H.go.sm nb) (OR_le Le.lo (fun _ e=>e) (fun _ e=>e) ⟨rfl,rc⟩),⟨(b,b),rfl,by rw [← a.sm.len]; exact at_end⟩,k,
   fun x ne px=>⟨px.lt,px.nw,fun p hp=>(mem_snoc hp).elim (px.nm p) fun e=>by rw [e]; exact ⟨ne,ne⟩⟩⟩⟩
end
end Mine.Internal
namespace Mine.Internal
open PySem PySem.W PyProof.Rows PySem.Calls
theorem cellsFrom_nodup:∀ (l:List (Str × NameKind)) (n:Nat) (acc:List (Str × Addr)),(l.map (·.1)).Nodup→(acc.map (·.1)).Nodup→(∀ x∈l.map (·.1),x ∉ acc.map (·.1))→((cellsFrom n l acc).map (·.1)).Nodup
 | [],_,_,_,h,_=>h
 | (y,k) :: r,n,acc,h1,h2,h3=>by
  have h1:=List.nodup_cons.mp h1
  unfold cellsFrom
  split
  ·exact cellsFrom_nodup r (n + 1) _ h1.2 (List.nodup_cons.mpr ⟨h3 y (List.mem_cons_self ..),h2⟩) fun x hx hm=>(List.mem_cons.mp hm).elim (fun e=>h1.1 (e ▸ hx)) (h3 x (List.mem_cons_of_mem _ hx))
  ·exact cellsFrom_nodup r n acc h1.2 h2 fun x hx=>h3 x (List.mem_cons_of_mem _ hx)
theorem lookup_of {α:Type} {x:Str} {b:α}:∀ {l:List (Str × α)},(l.map (·.1)).Nodup→(x,b)∈l→l.lookup x = some b
 | (y,c) :: r,hn,h=>by
  have hn:=List.nodup_cons.mp hn
  rw [List.lookup_cons]
  rcases List.mem_cons.mp h with h' | h'
  ·cases h'; rw [BEq.rfl]
  ·rw [show (x == y) = false from beq_eq_false_iff_ne.mpr fun e=>hn.1 (e ▸ List.mem_map.mpr ⟨_,h',rfl⟩)]; exact lookup_of hn.2 h'
section
variable {ko:Str→Option NameKind}
theorem bindL_not {x:Str}:∀ (l:List (Str × PV)) (m:Str→Option PV),x ∉ l.map (·.1)→bindL ko l m x = m x
 | [],m,_=>rfl
 | (y,v) :: r,m,h=>by
  unfold bindL
  rw [bindL_not r _ fun hm=>h (List.mem_cons_of_mem _ hm)]
  split
  ·exact if_neg fun e:x = y=>h (e ▸ List.mem_cons_self ..)
  ·rfl
theorem bindC_not {x:Str}:∀ (l:List (Str × PV)) (m:Str→Option PV),x ∉ l.map (·.1)→bindC ko l m x = m x
 | [],m,_=>rfl
 | (y,v) :: r,m,h=>by
  unfold bindC
  rw [bindC_not r _ fun hm=>h (List.mem_cons_of_mem _ hm)]
  split
  ·rfl
  ·exact if_neg fun e:x = y=>h (e ▸ List.mem_cons_self ..)
theorem bind_at {x:Str} {v:PV}:∀ (l:List (Str × PV)) (m m':Str→Option PV),(l.map (·.1)).Nodup→(x,v)∈l→(ko x = some .local→bindL ko l m x = some v)∧(ko x ≠ some .local→bindC ko l m' x = some v)
 | (y,w) :: r,m,m',hn,h=>by
  have hn:=List.nodup_cons.mp hn
  rcases List.mem_cons.mp h with h | h
  ·cases h
   exact ⟨fun hk=>by unfold bindL; rw [bindL_not r _ hn.1,if_pos hk]; exact if_pos rfl,fun hk=>by unfold bindC; rw [bindC_not r _ hn.1,if_neg hk]; exact if_pos rfl⟩
  ·have w:=fun m m'=>bind_at r m m' hn.2 h
   exact ⟨fun hk=>by unfold bindL; exact (w _ m').1 hk,fun hk=>by unfold bindC; exact (w m _).2 hk⟩
end
structure FnB (B:Bd) (u:Nat) (names:List (Str × Nat)) (ps:List Str) (f:Nat) (d:FDef) (fd:FuncData) (body:List Stmt):Prop where
 hu:u≤90
 hK:∃ o,B.D.K.lookup (B.D.fa f) = some o∧o.data = .func fd
 hcd:codeIn B.D.K fd.code fd.qualname = true
 hb:fd.body = .stmts body
 hcl:fd.closure = []
 hg:fd.globals = mainGlobals
 hbi:fd.builtins = builtinsNs
 co:fd.scope.isCoroutine = false
 gen:fd.scope.isGenerator = false
 kind:fd.scope.kind = .function
 nf:∀ x,fd.scope.names.lookup x ≠ some .free
 nd:(fd.scope.names.map (·.1)).Nodup
 pl:ps.length = d.params
 pn:ps.Nodup
 pk:∀ x∈ps,fd.scope.names.lookup x = some .local ∨ fd.scope.names.lookup x = some .cell
 bind:∀ vals:List PV,vals.length = d.params→bindArgs fd ⟨vals,[]⟩ = pure (ps.zip vals)
 nm:∀ x i,names.lookup x = some i→d.params≤i ∨ ps[i]? = some x
 ts:TSs B u ⟨names,fd.scope,allOwn⟩ d.body (fun env=>execs body env)
noncomputable def FnGo (B:Bd) (f:Nat) (d:FDef):Prop :=
 ∀ (A:Around) (N:Nx) (ds:List V) (vs:List PV) (K:V→St→Prop) (R:Result→Shared→Prop),ds.length = d.params→kSs B.P B.T d.body (enter d ds) N.σ (outK K)→Room (B.n + 1) 0 A→Sm B.D N→Vals B N ds vs →
  (∀ d Y v,K d Y.σ→Aft B.D N noA Y→Val B Y d v→R (.ok (.ret v)) Y.s)→codeAny (model B.D.prog B.D.w) A (.call (.ref (B.D.fa f)) ⟨vs,[]⟩) R N.s
theorem enter_get {d:FDef} {ds:List V} {i:Nat} {x:V} (h:(enter d ds)[i]? = some (some x)):ds[i]? = some x:=by
 delta enter at h
 by_cases hi:i < (ds.map some).length
 ·rw [List.getElem?_append_left hi,List.getElem?_map] at h
  obtain ⟨y,e,e2⟩:=Option.map_eq_some_iff.mp h
  rw [e,e2]
 ·rw [List.getElem?_append_right (Nat.le_of_not_lt hi),List.getElem?_replicate] at h
  split at h <;> cases h
theorem Room.lt {n:Nat} {A:Around} (rm:Room (n + 1) 0 A):A.depth < recursionLimit:=Nat.lt_of_le_of_lt (Nat.le_trans (Nat.le_trans (Nat.le_add_right _ _) (Nat.le_add_right _ _)) (Nat.le_add_right _ _)) rm.depth
theorem Room.deep {n u:Nat} {A:Around} {env:PEnv} (rm:Room (n + 1) 0 A) (hu:u≤90):Room n u (A.deeper env) :=
 ⟨Nat.lt_of_le_of_lt (show A.depth + 1 + 5 * n + min u 2 + 2≤A.depth + 5 * (n + 1) + min 0 2 + 2 by
  rw [Nat.mul_succ,Nat.add_assoc A.depth,Nat.add_comm 1,Nat.zero_min,Nat.add_assoc A.depth (5 * n + 1),Nat.add_assoc (5 * n)]
  exact Nat.add_le_add_right (Nat.add_le_add_left (Nat.add_le_add_left (Nat.le_trans (Nat.add_le_add_left (Nat.min_le_right ..) 1) (by decide)) _) _) 2) rm.depth,Nat.lt_of_le_of_lt (show A.units + 3 + 100 * n + u≤A.units + 100 * (n + 1) + 0 by
  rw [Nat.mul_succ,Nat.add_assoc A.units,Nat.add_comm 3,Nat.add_assoc A.units,Nat.add_assoc (100 * n)]
  exact Nat.add_le_add_left (Nat.add_le_add_left (Nat.le_trans (Nat.add_le_add_left hu 3) (by decide)) _) _) rm.units,rm.hand⟩
section
variable {B:Bd} {g:Gt}
theorem call_fn (H:Facts B g) {u:Nat} {names:List (Str × Nat)} {ps:List Str} {f:Nat} {d:FDef} {fd:FuncData} {body:List Stmt} (F:FnB B u names ps f d fd body):FnGo B f d:=fun A N ds vs K R hl q rm sm rs z=>by
 obtain ⟨o,hK,hdt⟩:=F.hK
 have X:=H.x sm
 have hvl:vs.length = d.params:=(RVs_length rs).trans hl
 have hzip:(ps.zip vs).map (·.1) = ps:=List.map_fst_zip (Nat.le_of_eq (F.pl.trans hvl.symm))
 have mem_ps:∀ x∈ps.zip vs,x.1∈ps:=fun x hx=>hzip ▸ List.mem_map.mpr ⟨x,hx,rfl⟩
 have cs:∀ x k,fd.scope.names.lookup x = some NameKind.cell→((cellsFrom k fd.scope.names []).lookup x).isSome = true:=fun x k e=>cellsFrom_lookup _ _ _ (.inl (mem_of_lookup e))
 refine codeAny_call_cells (o:=o) (fd:=fd) (body:=body) (binds:=ps.zip vs) rm.lt (X _ _ hK) hdt (H.lim.keeps sm.gi) (codeRec_of X F.hcd) F.hb (F.bind vs hvl) F.hcl (fun x hx=>(F.pk _ (mem_ps x hx)).imp id fun e=>⟨e,cs _ _ e⟩) (fun s1 ic=>?_) F.co F.gen F.kind
 have ic0:=ic.toInCall
 obtain ⟨h1,tk1,rfl⟩:=ic0.same
 have hcells:(callEnvC fd N.s.heap.objs.size (B.D.fa f)).cells = cellsFrom (N.s.heap.objs.size + 1) fd.scope.names []:=rfl
 have hscope:(callEnvC fd N.s.heap.objs.size (B.D.fa f)).scope = fd.scope:=rfl
 have hloc:(callEnvC fd N.s.heap.objs.size (B.D.fa f)).locals = N.s.heap.objs.size:=rfl
 have hframe:(callEnvC fd N.s.heap.objs.size (B.D.fa f)).frame = some N.s.heap.objs.size:=rfl
 have hglob:(callEnvC fd N.s.heap.objs.size (B.D.fa f)).globals = fd.globals:=rfl
 have hbuil:(callEnvC fd N.s.heap.objs.size (B.D.fa f)).builtins = fd.builtins:=rfl
 generalize callEnvC fd N.s.heap.objs.size (B.D.fa f) = env at *
 have hkd:∀ x,env.kindOf x = fd.scope.names.lookup x:=fun x=>congrArg (fun s:Scope=>s.names.lookup x) hscope
 have cn:(env.cells.map (·.1)).Nodup:=by rw [hcells]; exact cellsFrom_nodup _ _ _ F.nd List.nodup_nil fun x _ hm=>nomatch hm
 have cell_at:∀ q∈env.cells,∃ v,h1.IsCell q.2 v:=fun q hq=>⟨_,ic.cell q.1 q.2 (lookup_of cn hq)⟩
 have m:More N { N.s with heap:=h1,toks:=tk1 }:=⟨ic0.keep,rfl,rfl⟩
 have old:∀ b,N.s.heap.objs.size≤b→¬ N.has b:=fun b h n=>absurd (has_lt n) (Nat.not_lt.mpr h)
 have af:=m.aft sm
 have pl:Pv (N.at { N.s with heap:=h1,toks:=tk1 }) env.locals:=(Ns_has ic0.ns).elim fun o e=>m.pv sm (old _ (Nat.le_of_eq hloc.symm)) e
 have pc:∀ q∈env.cells,¬ N.has q.2∧Pv (N.at { N.s with heap:=h1,toks:=tk1 }) q.2:=fun q hq =>
  have n:=old q.2 (Nat.le_of_lt (hloc ▸ ic.above q.1 q.2 hq))
  ⟨n,(cell_at q hq).elim fun v w=>(cell_has w).elim fun o e=>m.pv sm n e⟩
 have gs:Gs B u ⟨names,fd.scope,allOwn⟩ ⟨env,A.deeper env,enter d ds⟩ (N.at { N.s with heap:=h1,toks:=tk1 }):=by
  refine ⟨⟨rm.deep F.hu,⟨hscope,(congrArg Scope.kind hscope).trans F.kind,hglob.trans F.hg,hbuil.trans F.hbi,⟨pl.lt,pl.nc⟩,fun q hq=>⟨(pc q hq).2.lt,(pc q hq).2.nc⟩,by rw [hframe]; rfl,fun x hx=>?_⟩,fun x i d' h1' h2' h3'=>?_,af.sm⟩,
   fun b f=>f.elim (fun e=>by rw [e]; exact pl) fun ⟨x,_,e⟩=>(pc (x,b) (mem_of_lookup e)).2,⟨_,ic0.ns⟩,fun x _ hx=>?_,fun x y b _ hx h1' h2'=>name_of_addr ic.apart (mem_of_lookup h1') (mem_of_lookup h2')⟩
  ·rw [hcells]
   exact hx.elim (cs _ _) fun hx=>absurd hx (F.nf x)
  ·have hd:=enter_get h3'
   have hi:i < d.params:=hl ▸ (List.getElem?_eq_some_iff.mp hd).1
   have hpx:=(F.nm x i h1').resolve_left (Nat.not_le.mpr hi)
   obtain ⟨v,hv,rv⟩:=RVs_get rs hd
   have hm:(x,v)∈ps.zip vs:=List.mem_of_getElem? (i:=i) (by rw [List.getElem?_zip_eq_some]; exact ⟨hpx,hv⟩)
   refine ⟨v,?_,RV_le af.le _ _ rv⟩
   have ba:=bind_at (ko:=env.kindOf) (ps.zip vs) (fun _=>none) (fun _=>none) (by rw [hzip]; exact F.pn) hm
   rcases F.pk x (mem_ps _ hm) with hxk | hxk
   ·exact .inl ⟨(hkd x).trans hxk,_,ic0.ns,ba.1 ((hkd x).trans hxk)⟩
   ·obtain ⟨b,hb⟩:=Option.isSome_iff_exists.mp (cs x (N.s.heap.objs.size + 1) hxk)
    rw [← hcells] at hb
    have w:=ic.cell x b hb
    rw [ba.2 fun e=>by rw [hkd,hxk] at e; cases e] at w
    exact .inr ⟨.inl ((hkd x).trans hxk),b,hb,w⟩
  ·obtain ⟨b,hb⟩:=Option.isSome_iff_exists.mp (cs x (N.s.heap.objs.size + 1) hx)
   rw [← hcells] at hb
   exact ⟨b,_,hb,ic.cell x b hb⟩
 have nF:∀ b,Fr ⟨names,fd.scope,allOwn⟩ env b→¬ N.has b:=fun b f=>f.elim (fun e=>by rw [e]; exact old _ (Nat.le_of_eq hloc.symm)) fun ⟨x,_,e⟩=>(pc (x,b) (mem_of_lookup e)).1
 have done:∀ {Y},Aft B.D (N.at { N.s with heap:=h1,toks:=tk1 }) (Fr ⟨names,fd.scope,allOwn⟩ env) Y→Aft B.D N noA Y:=fun a=>(af.up.trans a).hide nF
 exact F.ts ⟨env,A.deeper env,enter d ds⟩ _ _ _ _ gs q ⟨fun ρ Y k a _=>z .none Y .none k (done a) rfl,fun d Y v k a r=>z d Y v k (done a) r⟩
theorem tok_go {D:Wd} {P:Prog} (hF:∀ n T,TOk ⟨D,P,T,n⟩→∀ f d,P.fn f = some d→FnGo ⟨D,P,T,n⟩ f d):∀ n,TOk ⟨D,P,⟨callK P n⟩,n⟩
 | 0=>fun A N f ds vs K e=>False.elim e
 | n + 1=>fun A N f ds vs K e rm sm rs=>oK_of (show oK (P.fn f) _ from e) fun d hd e =>
  have w:=bK_of e
  ⟨by show (P.fn f).isSome = true; rw [hd]; rfl,fun R z=>hF n ⟨callK P n⟩ (tok_go hF n) f d hd A N ds vs K R (of_decide_eq_true w.1) w.2 rm sm rs z⟩
end
end Mine.Internal
namespace Mine.Internal
open PySem PySem.W PyProof.Rows
noncomputable section
noncomputable def oB {α:Type} (o:Option α) (f:α→Bool):Bool:=match o with
 | some a=>f a
 | none=>false
@[irreducible] noncomputable def oS {α:Type} {p:α→Prop} (o:Option { a:α // p a }) (f:α→Bool):Bool:=match o with
 | some a=>f a.1
 | none=>false
theorem oS_of {α:Type} {p:α→Prop} {o:Option { a:α // p a }} {f:α→Bool} (h:oS o f = true):∃ a,p a∧f a = true:=by
 delta oS at h
 cases o with
 | some a=>exact ⟨a.1,a.2,h⟩
 | none=>exact absurd h Bool.false_ne_true
theorem oS_el {α:Type} {p:α→Prop} {o:Option { a:α // p a }} {f:α→Bool} {Z:Prop} (h:oS o f = true) (z:∀ a,p a→f a = true→Z):Z:=(oS_of h).elim fun a w=>z a w.1 w.2
noncomputable def dCon (e:PE):Option { w:Const × Nat × Pos // e = .Constant w.1 w.2.1 w.2.2 }:=if h:e.ctorIdx = 19 then PySem.Expr.Constant.elim (motive_1:=fun e=>Option { w:Const × Nat × Pos // e = .Constant w.1 w.2.1 w.2.2 }) e h (fun k n p=>some ⟨(k,n,p),rfl⟩) else none
noncomputable def kInt (k:Const):Option { j:Int // k = .int j }:=if h:k.ctorIdx = 2 then PySem.Const.int.elim (motive:=fun k=>Option { j:Int // k = .int j }) k h (fun j=>some ⟨j,rfl⟩) else none
noncomputable def kStr (k:Const):Option { x:Str // k = .str x }:=if h:k.ctorIdx = 5 then PySem.Const.str.elim (motive:=fun k=>Option { x:Str // k = .str x }) k h (fun x=>some ⟨x,rfl⟩) else none
noncomputable def kBool (k:Const):Option { b:Bool // k = .bool b }:=if h:k.ctorIdx = 1 then PySem.Const.bool.elim (motive:=fun k=>Option { b:Bool // k = .bool b }) k h (fun b=>some ⟨b,rfl⟩) else none
noncomputable def kNone (k:Const):Option { b:Unit // k = .none }:=if h:k.ctorIdx = 0 then PySem.Const.none.elim (motive:=fun k=>Option { b:Unit // k = .none }) k h (some ⟨(),rfl⟩) else none
noncomputable def dNeg (e:PE):Option { w:UnaryOp × PE × Pos // e = .UnaryOp w.1 w.2.1 w.2.2 }:=if h:e.ctorIdx = 3 then PySem.Expr.UnaryOp.elim (motive_1:=fun e=>Option { w:UnaryOp × PE × Pos // e = .UnaryOp w.1 w.2.1 w.2.2 }) e h (fun o f p=>some ⟨(o,f,p),rfl⟩) else none
noncomputable def dName (e:PE):Option { x:Str × Pos // e = .Name x.1 x.2 }:=if h:e.ctorIdx = 23 then PySem.Expr.Name.elim (motive_1:=fun e=>Option { x:Str × Pos // e = .Name x.1 x.2 }) e h (fun x p=>some ⟨(x,p),rfl⟩) else none
noncomputable def dTup (e:PE):Option { w:List PE × Nat × Pos // e = .Tuple w.1 w.2.1 w.2.2 }:=if h:e.ctorIdx = 25 then PySem.Expr.Tuple.elim (motive_1:=fun e=>Option { w:List PE × Nat × Pos // e = .Tuple w.1 w.2.1 w.2.2 }) e h (fun es k p=>some ⟨(es,k,p),rfl⟩) else none
noncomputable def dList (e:PE):Option { w:List PE × Pos // e = .List w.1 w.2 }:=if h:e.ctorIdx = 24 then PySem.Expr.List.elim (motive_1:=fun e=>Option { w:List PE × Pos // e = .List w.1 w.2 }) e h (fun es p=>some ⟨(es,p),rfl⟩) else none
noncomputable def dDict (e:PE):Option { w:List (Option PE) × List PE × Pos // e = .Dict w.1 w.2.1 w.2.2 }:=if h:e.ctorIdx = 6 then PySem.Expr.Dict.elim (motive_1:=fun e=>Option { w:List (Option PE) × List PE × Pos // e = .Dict w.1 w.2.1 w.2.2 }) e h (fun ks vs p=>some ⟨(ks,vs,p),rfl⟩) else none
noncomputable def dAttr (e:PE):Option { w:PE × Str × Pos // e = .Attribute w.1 w.2.1 w.2.2 }:=if h:e.ctorIdx = 20 then PySem.Expr.Attribute.elim (motive_1:=fun e=>Option { w:PE × Str × Pos // e = .Attribute w.1 w.2.1 w.2.2 }) e h (fun o a p=>some ⟨(o,a,p),rfl⟩) else none
noncomputable def dSub (e:PE):Option { w:PE × PE × Pos // e = .Subscript w.1 w.2.1 w.2.2 }:=if h:e.ctorIdx = 21 then PySem.Expr.Subscript.elim (motive_1:=fun e=>Option { w:PE × PE × Pos // e = .Subscript w.1 w.2.1 w.2.2 }) e h (fun o i p=>some ⟨(o,i,p),rfl⟩) else none
noncomputable def dSlice (e:PE):Option { w:Option PE × Option PE × Pos // e = .Slice w.1 w.2.1 none w.2.2 }:=if h:e.ctorIdx = 26 then PySem.Expr.Slice.elim (motive_1:=fun e=>Option { w:Option PE × Option PE × Pos // e = .Slice w.1 w.2.1 none w.2.2 }) e h (fun l h s p=>match s with | none=>some ⟨(l,h,p),rfl⟩ | some _=>none) else none
noncomputable def dBin (e:PE):Option { w:PE × Operator × PE × Pos // e = .BinOp w.1 w.2.1 w.2.2.1 w.2.2.2 }:=if h:e.ctorIdx = 2 then PySem.Expr.BinOp.elim (motive_1:=fun e=>Option { w:PE × Operator × PE × Pos // e = .BinOp w.1 w.2.1 w.2.2.1 w.2.2.2 }) e h (fun l o r p=>some ⟨(l,o,r,p),rfl⟩) else none
noncomputable def dBool (e:PE):Option { w:BoolOp × List PE × Pos // e = .BoolOp w.1 w.2.1 w.2.2 }:=if h:e.ctorIdx = 0 then PySem.Expr.BoolOp.elim (motive_1:=fun e=>Option { w:BoolOp × List PE × Pos // e = .BoolOp w.1 w.2.1 w.2.2 }) e h (fun o es p=>some ⟨(o,es,p),rfl⟩) else none
noncomputable def dCmp (e:PE):Option { w:PE × List CmpOp × List PE × Pos // e = .Compare w.1 w.2.1 w.2.2.1 w.2.2.2 }:=if h:e.ctorIdx = 15 then PySem.Expr.Compare.elim (motive_1:=fun e=>Option { w:PE × List CmpOp × List PE × Pos // e = .Compare w.1 w.2.1 w.2.2.1 w.2.2.2 }) e h (fun l o r p=>some ⟨(l,o,r,p),rfl⟩) else none
noncomputable def dIte (e:PE):Option { w:PE × PE × PE × Pos // e = .IfExp w.1 w.2.1 w.2.2.1 w.2.2.2 }:=if h:e.ctorIdx = 5 then PySem.Expr.IfExp.elim (motive_1:=fun e=>Option { w:PE × PE × PE × Pos // e = .IfExp w.1 w.2.1 w.2.2.1 w.2.2.2 }) e h (fun t b o p=>some ⟨(t,b,o,p),rfl⟩) else none
noncomputable def dCall (e:PE):Option { w:PE × List PE × Pos // e = .Call w.1 w.2.1 [] w.2.2 }:=if h:e.ctorIdx = 16 then PySem.Expr.Call.elim (motive_1:=fun e=>Option { w:PE × List PE × Pos // e = .Call w.1 w.2.1 [] w.2.2 }) e h (fun f es k p=>match k with | []=>some ⟨(f,es,p),rfl⟩ | _ :: _=>none) else none
noncomputable def dComp (e:PE):Option { w:PE × List PComp × Scope × Pos // e = .ListComp w.1 w.2.1 w.2.2.1 w.2.2.2 }:=if h:e.ctorIdx = 8 then PySem.Expr.ListComp.elim (motive_1:=fun e=>Option { w:PE × List PComp × Scope × Pos // e = .ListComp w.1 w.2.1 w.2.2.1 w.2.2.2 }) e h (fun t g s p=>some ⟨(t,g,s,p),rfl⟩) else none
noncomputable def dJs (e:PE):Option { w:List PE × Pos // e = .JoinedStr w.1 w.2 }:=if h:e.ctorIdx = 18 then PySem.Expr.JoinedStr.elim (motive_1:=fun e=>Option { w:List PE × Pos // e = .JoinedStr w.1 w.2 }) e h (fun es p=>some ⟨(es,p),rfl⟩) else none
noncomputable def dFmt (e:PE):Option { w:PE × Int × Pos // e = .FormattedValue w.1 w.2.1 none w.2.2 }:=if h:e.ctorIdx = 17 then PySem.Expr.FormattedValue.elim (motive_1:=fun e=>Option { w:PE × Int × Pos // e = .FormattedValue w.1 w.2.1 none w.2.2 }) e h (fun f i o p=>match o with | none=>some ⟨(f,i,p),rfl⟩ | some _=>none) else none
noncomputable def dOne {α:Type} (l:List α):Option { a:α // l = [a] }:=match l with
 | [a]=>some ⟨a,rfl⟩
 | _=>none
noncomputable def dTwo {α:Type} (l:List α):Option { a:α × α // l = [a.1,a.2] }:=match l with
 | [a,b]=>some ⟨(a,b),rfl⟩
 | _=>none
noncomputable def dCons {α:Type} (l:List α):Option { a:α × List α // l = a.1 :: a.2 }:=match l with
 | a :: b=>some ⟨(a,b),rfl⟩
 | _=>none
noncomputable def dGen (g:PComp):Option { w:PE × PE × List PE // g = ⟨w.1,w.2.1,w.2.2,0⟩ }:=match g with
 | ⟨t,i,f,0⟩=>some ⟨(t,i,f),rfl⟩
 | _=>none
noncomputable def noSet (e:PE):Bool:=e.ctorIdx != 7
noncomputable def biStr:Bi→Str × PV
 | .len=>("len",.builtin "len")
 | .list=>("list",.type "list")
 | .tuple=>("tuple",.type "tuple")
 | .int=>("int",.type "int")
 | .max=>("max",.builtin "max")
 | .dict=>("dict",.type "dict")
 | .sum=>("sum",.builtin "sum")
 | .abs=>("abs",.builtin "abs")
 | .lenSet=>("len",.builtin "len")
 | .items=>("list",.type "list")
 | _=>("sorted",.builtin "sorted")
noncomputable def nst (b:Bi):Bool:=b.ctorIdx == 5 || b.ctorIdx == 10
noncomputable def isFb:Bi→Bool
 | .list=>true
 | .dict=>true
 | _=>false
noncomputable def isF (x:X):Bool:=x.ctorIdx == 4 || (x.ctorIdx == 5 || (x.ctorIdx == 21 || if h:x.ctorIdx = 19 then X.bi.elim (motive_1:=fun _=>Bool) x h (fun b _=>isFb b) else false))
noncomputable def isGlob (c:Ck) (x:Str):Bool:=c.sc.names.lookup x == some .globalImplicit && !(x == ("__debug__":Str))
noncomputable def isVar (c:Ck) (x:Str) (i:Nat):Bool:=c.names.lookup x == some i && (isLoc (c.sc.names.lookup x) && (!(x == ("__debug__":Str)) && !(x == ("__classdict__":Str))))
noncomputable def strN (v:V):Option Nat:=if h:v.ctorIdx = 3 then V.str.elim (motive_1:=fun _=>Option Nat) v h (fun n=>some n) else none
noncomputable def dCst (x:X):Option { v:V // x = .cst v }:=if h:x.ctorIdx = 0 then X.cst.elim (motive_1:=fun x=>Option { v:V // x = .cst v }) x h (fun v=>some ⟨v,rfl⟩) else none
noncomputable def dVs (v:V):Option { z:Nat // v = .str z }:=if h:v.ctorIdx = 3 then V.str.elim (motive_1:=fun v=>Option { z:Nat // v = .str z }) v h (fun z=>some ⟨z,rfl⟩) else none
noncomputable def dVn (v:V):Option { z:Unit // v = .none }:=if h:v.ctorIdx = 0 then V.none.elim (motive_1:=fun v=>Option { z:Unit // v = .none }) v h (some ⟨(),rfl⟩) else none
noncomputable def isN (x:X):Bool:=oS (dCst x) fun v=>oS (dVn v) fun _=>true
noncomputable def oO (o:Option PE) (b:Bool) (f:PE→Bool):Bool:=match o with
 | some e=>f e
 | none=>b
noncomputable def chkCst (v:V) (e:PE):Bool:=match v with
 | .none=>oS (dCon e) fun w=>oS (kNone w.1) fun _=>true
 | .bool b=>oS (dCon e) fun w=>oS (kBool w.1) fun d=>b == d
 | .int i=>oS (dCon e) (fun w=>oS (kInt w.1) fun j=>decide (i = j)) || oS (dNeg e) fun w=>w.1 == .USub && oS (dCon w.2.1) fun w=>oS (kInt w.1) fun j=>decide (i = -j)
 | .str z=>oS (dCon e) fun w=>oS (kStr w.1) fun x=>strOk x && encS x == z
 | _=>false
noncomputable def namesT (tg:Tg) (e:PE):List (Str × Nat):=match tg with
 | .one i=>match dName e with
  | some x=>[(x.1.1,i)]
  | none=>[]
 | .many is=>match dTup e with
  | some es=>(es.1.1.zip is).filterMap fun p=>(dName p.1).map fun x=>(x.1.1,p.2)
  | none=>[]
noncomputable def namesC:C→List PComp→List (Str × Nat)
 | .elt _,_=>[]
 | .gen tg _ _ r,l=>match l with
  | g :: l=>namesT tg g.target++namesC r l
  | []=>[]
noncomputable def freeOf (c:Ck) (sc:Scope):List (Str × Nat):=c.names.filter fun p=>sc.names.lookup p.1 == some .free
noncomputable def cpB (c:Ck) (sc:Scope) (nm:List (Str × Nat)) (slots:List Nat):Bool :=
 (sc.kind == .function) && ((sc.names.all fun x=>(x.2 != .local || sc.names.lookup x.1 == some .local) && ((x.2 != .cell || sc.names.lookup x.1 == some .cell) && (x.2 != .free || (c.sc.names.lookup x.1 == some .cell || c.sc.names.lookup x.1 == some .free)))) &&
  nm.all fun p=>slots.contains p.2 || (c.names.lookup p.1 == some p.2 && sc.names.lookup p.1 == some .free))
noncomputable def isNm (c:Ck) (x:Str) (i:Nat):Bool:=c.names.lookup x == some i && ((c.names.all fun p=>p.2 != i || p.1 == x) && (c.sc.names.lookup x == some .local || (c.own x && c.sc.names.lookup x == some .cell)))
noncomputable def chkNm (c:Ck):List Nat→List PE→Bool
 | [],es=>es.isEmpty
 | i :: is,es=>oS (dCons es) fun w=>oS (dName w.1) fun x=>isNm c x.1 i && chkNm c is w.2
noncomputable def chkNn (c:Ck):List Nat→List Str→Bool
 | [],es=>es.isEmpty
 | i :: is,es=>oS (dCons es) fun w=>isNm c w.1 i && chkNn c is w.2
noncomputable def chkTg (c:Ck) (tg:Tg) (e:PE):Bool:=match tg with
 | .one i=>oS (dName e) fun x=>isNm c x.1 i
 | .many is=>oS (dTup e) fun w=>chkNm c is w.1
section
variable (P:Prog) (g:Gt)
mutual
noncomputable def chkE:X→Ck→PE→Bool
 | .cst v,c,e=>chkCst v e
 | .var i,c,e=>oS (dName e) fun w=>isVar c w.1 i
 | .glob k,c,e=>(P.glob k).isNone || oS (dName e) fun w=>g.consts.lookup w.1 == some k && isGlob c w.1
 | .tup xs,c,e=>oS (dTup e) fun w=>decide (xs.length≤1000) && chkEs xs c w.1
 | .list xs,c,e=>oS (dList e) fun w=>decide (xs.length≤1000) && chkEs xs c w.1
 | .dict xs,c,e=>oS (dDict e) fun w=>decide (w.1.length≤15) && chkKv xs c w.1 w.2.1
 | .mut x,c,e=>(isF x && plainTest e) && chkE x c e
 | .attr y f,c,e=>oS (dAttr e) fun w=>(plainBase w.1 && (g.flds.contains w.2.1 && (strOk w.2.1 && encS w.2.1 == f))) && chkE y c w.1
 | .item y i,c,e=>oS (dSub e) fun w=>notSlice w.2.1 && (chkE y c w.1 && chkE i c w.2.1)
 | .sidx cs i,c,e=>oS (dSub e) fun w=>oS (dCon w.1) fun k=>oS (kStr k.1) fun x=>(strOk x && (cs.map strN == x.cps.toList.map fun c=>some (encL [c]))) && (notSlice w.2.1 && chkE i c w.2.1)
 | .sl y l h,c,e=>oS (dSub e) fun w=>oS (dSlice w.2.1) fun s=>chkE y c w.1 && (oO s.1 (isN l) (fun e=>chkE l c e) && oO s.2.1 (isN h) (fun e=>chkE h c e))
 | .bin o a b,c,e=>oS (dBin e) fun w=>(bopOf o == w.2.1) && (chkE a c w.1 && chkE b c w.2.2.1)
 | .and xs,c,e=>oS (dBool e) fun w=>(w.1 == .And) && chkEs xs c w.2.1
 | .or xs,c,e=>oS (dBool e) fun w=>(w.1 == .Or) && chkEs xs c w.2.1
 | .cmp o a b,c,e=>oS (dCmp e) fun w=>oS (dOne w.2.1) fun op=>oS (dOne w.2.2.1) fun r=>(op == copOf o && !behindInMarks (copOf o) r) && (chkE a c w.1 && chkE b c r)
 | .ite x y z,c,e=>oS (dIte e) fun w=>chkE x c w.1 && (chkE y c w.2.1 && chkE z c w.2.2.1)
 | .call f xs,c,e=>oS (dCall e) fun w=>oS (dName w.1) fun x=>(g.fns.lookup x.1 == some f && ((P.fn f).isSome && isGlob c x.1)) && chkEs xs c w.2.1
 | .meth y f xs,c,e=>oS (dCall e) fun w=>oS (dAttr w.1) fun a=>(plainBase a.1 && (a.2.2.endLine == w.2.2.line && (decide (w.2.1.length < 29) && (g.mths.contains a.2.1 && (strOk a.2.1 && encS a.2.1 == f))))) && (chkE y c a.1 && chkEs xs c w.2.1)
 | .new k xs,c,e=>oS (dCall e) fun w=>oS (dName w.1) fun x=>(g.clss.lookup x.1 == some k && isGlob c x.1) && chkEs xs c w.2.1
 | .bi b xs,c,e=>bif b.ctorIdx == 11 then oS (dCall e) fun w=>oS (dName w.1) fun x=>oS (dOne w.2.1) fun a=>oS (dCall a) fun v=>oS (dAttr v.1) fun t=>(x.1 == ("list":Str) && (isGlob c x.1 && (t.2.1 == ("items":Str) && (plainBase t.1 && (t.2.2.endLine == v.2.2.line && v.2.1.isEmpty))))) && (xs.length == 1 && chkEs xs c [t.1])
  else bif nst b then oS (dCall e) fun w=>oS (dName w.1) fun x=>oS (dOne w.2.1) fun a=>oS (dCall a) fun v=>oS (dName v.1) fun y=>(x.1 == (biStr b).1 && (isGlob c x.1 && (y.1 == ("set":Str) && isGlob c y.1))) && (xs.length == 1 && chkEs xs c v.2.1)
  else oS (dCall e) fun w=>oS (dName w.1) fun x=>(x.1 == (biStr b).1 && isGlob c x.1) && chkEs xs c w.2.1
 | .get y xs,c,e=>oS (dCall e) fun w=>oS (dAttr w.1) fun a=>(a.2.1 == ("get":Str) && (plainBase a.1 && (a.2.2.endLine == w.2.2.line && decide (w.2.1.length < 29)))) && (chkE y c a.1 && chkEs xs c w.2.1)
 | .comp C,c,e=>oS (dComp e) fun w=>(cpB c w.2.2.1 (namesC C w.2.1++freeOf c w.2.2.1) C.slots && !w.2.1.isEmpty) && chkC C c ⟨namesC C w.2.1++freeOf c w.2.2.1,relS w.2.2.1 c.sc,ownC w.2.2.1⟩ w.1 w.2.1
 | .fstr xs,c,e=>oS (dJs e) fun w=>decide (2≤xs.length) && chkPs xs c w.1
 | .not x,c,e=>oS (dNeg e) fun w=>w.1 == .Not && chkE x c w.2.1
 | .cntT y,c,e=>oS (dCall e) fun w=>oS (dAttr w.1) fun a=>oS (dOne w.2.1) fun t=>oS (dCon t) fun k=>oS (kBool k.1) fun b=>(b && (a.2.1 == ("count":Str) && (plainBase a.1 && a.2.2.endLine == w.2.2.line))) && chkE y c a.1
noncomputable def chkEs:List X→Ck→List PE→Bool
 | [],c,es=>es.isEmpty
 | x :: xs,c,es=>oS (dCons es) fun w=>!isStarred w.1 && (chkE x c w.1 && chkEs xs c w.2)
noncomputable def chkPs:List X→Ck→List PE→Bool
 | [],c,es=>es.isEmpty
 | x :: xs,c,es=>oS (dCons es) fun w=>((oS (dFmt w.1) fun f=>f.2.1 == -1 && chkE x c f.1) || oS (dCon w.1) fun k=>oS (kStr k.1) fun y=>oS (dCst x) fun v=>oS (dVs v) fun z=>strOk y && encS y == z) && chkPs xs c w.2
noncomputable def chkKv:List X→Ck→List (Option PE)→List PE→Bool
 | [],c,ks,vs=>ks.isEmpty && vs.isEmpty
 | x :: xs,c,ks,vs=>oS (dCons ks) fun k=>match k.1 with
  | some e=>chkE x c e && chkKw xs c k.2 vs
  | none=>false
noncomputable def chkKw:List X→Ck→List (Option PE)→List PE→Bool
 | [],c,ks,vs=>false
 | x :: xs,c,ks,vs=>oS (dCons vs) fun v=>chkE x c v.1 && chkKv xs c ks v.2
noncomputable def chkC:C→Ck→Ck→PE→List PComp→Bool
 | .elt x,c,c',elt,gens=>gens.isEmpty && chkE x c' elt
 | .gen tg src ifs r,c,c',elt,gens=>oS (dCons gens) fun w=>oS (dGen w.1) fun v=>(noSet v.2.1 && (chkTg c' tg v.1 && r.slots.all fun i=>!tg.slots.contains i)) && (chkSrc src c v.1 v.2.1 && (chkEs ifs c' v.2.2 && chkC r c' c' elt w.2))
noncomputable def chkSrc:Src→Ck→PE→PE→Bool
 | .val x,c,t,e=>chkE x c e
 | .range x,c,t,e=>oS (dCall e) fun w=>oS (dName w.1) fun n=>oS (dOne w.2.1) fun a=>(n.1 == ("range":Str) && (isGlob c n.1 && !isStarred a)) && chkE x c a
 | .enum x,c,t,e=>oS (dTup t) fun _=>oS (dCall e) fun w=>oS (dName w.1) fun n=>oS (dOne w.2.1) fun a=>(n.1 == ("enumerate":Str) && (isGlob c n.1 && !isStarred a)) && chkE x c a
 | .zip x y,c,t,e=>oS (dTup t) fun _=>oS (dCall e) fun w=>oS (dName w.1) fun n=>oS (dTwo w.2.1) fun a=>(n.1 == ("zip":Str) && (isGlob c n.1 && (!isStarred a.1 && !isStarred a.2))) && (chkE x c a.1 && chkE y c a.2)
 | .items x,c,t,e=>oS (dTup t) fun _=>oS (dCall e) fun w=>oS (dAttr w.1) fun a=>(a.2.1 == ("items":Str) && (plainBase a.1 && (a.2.2.endLine == w.2.2.line && w.2.1.isEmpty))) && chkE x c a.1
end
end
end
end Mine.Internal
namespace Mine.Internal
open PySem PySem.W PyProof.Rows
noncomputable def TA (B:Bd) (u:Nat) (c:Ck) (x:X) (e:PE):Prop:=TE B u c x (fun env=>eval e env)∧TB B u c x (fun env=>isTrue e env (eval e env))∧(isF x = true→TF B u c x (fun env=>eval e env))
noncomputable def biNames:List (Str × PV) :=
 [("len",.builtin "len"),("list",.type "list"),("tuple",.type "tuple"),("int",.type "int"),("max",.builtin "max"),("dict",.type "dict"),("sorted",.builtin "sorted"),("set",.type "set"),("range",.type "range"),("enumerate",.type "enumerate"),("zip",.type "zip"),("sum",.builtin "sum"),("abs",.builtin "abs")]
noncomputable def SsOk (B:Bd) (u:Nat) (b:Bi) (y:Str) (q:PV):Prop:=∀ (g:Gt) (c:Ck) (x:X) (f:PE) (p1 p2 p3 p4:Pos),Facts B g→BiOk B.D c y q→BiOk B.D c "set" (.type "set")→isStarred f = false→TEs B u c [x] (fun env=>spliced (backTo p3 (starEach [f] env)))→TE B u c (.bi b [x]) (fun env=>eval (.Call (.Name y p1) [.Call (.Name "set" p2) [f] [] p3] [] p4) env)
structure Hs (B:Bd) (u:Nat) (g:Gt):Prop where
 F:Facts B g
 T:TOk B
 hu:40≤u
 bi:∀ p∈biNames,nsIn B.D.K mainGlobals p.1 = some none∧nsIn B.D.K builtinsNs p.1 = some (some p.2)
 so:CallOk B u (.builtin "sorted") .sorted
 ss:SsOk B u .sortedSet "sorted" (.builtin "sorted")
 sl:SsOk B u .lenSet "len" (.builtin "len")
section
variable {B:Bd} {u:Nat} {g:Gt} {c:Ck} {x:X} {e:PE} {xs:List X} {es:List PE}
theorem ta_te (hp:plainTest e = true) (hf:isF x = false) (h:TE B u c x (fun env=>eval e env)):TA B u c x e:=⟨h,tb_te hp h,fun q=>absurd (hf.symm.trans q) Bool.false_ne_true⟩
theorem ta_tf (hp:plainTest e = true) (h:TF B u c x (fun env=>eval e env)):TA B u c x e:=⟨h.te,tb_te hp h.te,fun _=>h⟩
theorem eq_of {α:Type} [BEq α] [LawfulBEq α] {a b:α} (h:(a == b) = true):a = b:=eq_of_beq h
theorem isGlob_of {y:Str} (h:isGlob c y = true):c.sc.names.lookup y = some .globalImplicit∧(y == ("__debug__":Str)) = false:=⟨eq_of (and_l h),of_not (and_r h)⟩
theorem Hs.b (H:Hs B u g) {y:Str} {v:PV} (m:(y,v)∈biNames) (h:isGlob c y = true):BiOk B.D c y v:=⟨(H.bi _ m).1,(H.bi _ m).2,(isGlob_of h).1,(isGlob_of h).2⟩
theorem ta_var {y:Str} {i:Nat} {p:Pos} (h:isVar c y i = true):TA B u c (.var i) (.Name y p):=ta_te rfl rfl (te_var (eq_of (and_l h)) (and_l (and_r h)) (of_not (and_l (and_r (and_r h)))) (of_not (and_r (and_r (and_r h)))))
theorem ta_void {k:Nat} (h:B.P.glob k = none):TA B u c (.glob k) e:=⟨te_void h,fun G N Q E K H q z=>by
 have q:oK (B.P.glob k) _:=q
 rw [h] at q; exact False.elim q,fun q=>absurd q Bool.false_ne_true⟩
theorem TA.at {e':PE} (h:e = e') (a:TA B u c x e'):TA B u c x e:=h ▸ a
theorem ta_cst {v:V} (h:chkCst v e = true):TA B u c (.cst v) e:=by
 cases v with
 | none=>exact oS_el (o:=dCon e) h fun w he h=>oS_el h fun _ hk _=>TA.at (he.trans (congrArg (PySem.Expr.Constant · _ _) hk)) (ta_te rfl rfl te_none)
 | bool b=>exact oS_el (o:=dCon e) h fun w he h=>oS_el h fun d hk h=>TA.at (he.trans (congrArg (PySem.Expr.Constant · _ _) hk)) (eq_of h ▸ ta_te rfl rfl te_bool)
 | int i =>
  rcases Bool.or_eq_true_iff.mp h with h | h
  ·exact oS_el (o:=dCon e) h fun w he h=>oS_el h fun d hk h=>by
    rw [he,hk,of_decide_eq_true h]; exact ta_te rfl rfl te_int
  ·exact oS_el (o:=dNeg e) h fun w he h=>oS_el (and_r h) fun k hf h2=>oS_el h2 fun d hk h2=>by
    rw [he,eq_of (and_l h),hf,hk,of_decide_eq_true h2]; exact ⟨te_neg,fun e y Q E K H q z=>False.elim q,fun q=>absurd q Bool.false_ne_true⟩
 | str z=>exact oS_el (o:=dCon e) h fun w he h=>oS_el h fun d hk h=>TA.at (he.trans (congrArg (PySem.Expr.Constant · _ _) hk)) (ta_te rfl rfl (te_str (and_l h) (eq_of (and_r h))))
 | _=>exact absurd h Bool.false_ne_true
theorem All2.imp {α β:Type} {R S:α→β→Prop} (h:∀ a b,R a b→S a b) {l:List α} {k:List β} (x:All2 R l k):All2 S l k:=by
 induction x with
 | nil=>exact .nil
 | cons a _ ih=>exact .cons (h _ _ a) ih
noncomputable def TAs (B:Bd) (u:Nat) (c:Ck) (xs:List X) (es:List PE):Prop:=All2 (TA B u c) xs es∧es.all (fun e=>!isStarred e) = true
theorem TAs.tes (h:TAs B u c xs es) (p:Pos):TEs B u c xs (fun env=>spliced (backTo p (starEach es env))):=by
 obtain ⟨h,hs⟩:=h
 induction h with
 | nil=>exact tes_nil
 | cons a _ ih=>exact tes_cons (of_not (and_l hs)) a.1 (ih (and_r hs))
theorem strs_of {f:Nat→Nat}:∀ {cs:List V} {l:List Nat},cs.map strN = l.map (fun c=>some (f c))→cs = l.map fun c=>V.str (f c)
 | [],[],_=>rfl
 | [],_ :: _,h=>nomatch h
 | _ :: _,[],h=>nomatch h
 | v :: cs,c :: l,h=>by
  have h:=List.cons.inj h
  rw [strs_of h.2,show v = .str (f c) by
   have h1:=h.1
   cases v <;> first | exact congrArg V.str (Option.some.inj h1) | exact nomatch h1]; rfl
theorem isN_of (h:isN x = true):x = .cst .none:=oS_el h fun v hx h=>oS_el h fun _ hv _=>hx.trans (congrArg X.cst hv)
theorem noSet_of (h:noSet e = true) (env:PEnv) (v:PV):foldedSetIterable e env v = pure v:=by
 cases e <;> first | rfl | exact absurd h Bool.false_ne_true
theorem isNm_of {y:Str} {i:Nat} (h:isNm c y i = true):Nm c y i :=
 ⟨eq_of (and_l h),fun z hz=>(Bool.or_eq_true_iff.mp (List.all_eq_true.mp (and_l (and_r h)) _ (mem_of_lookup hz))).elim (fun e=>absurd rfl (bne_iff_ne.mp e)) eq_of,(Bool.or_eq_true_iff.mp (and_r (and_r h))).imp eq_of fun e=>⟨and_l e,eq_of (and_r e)⟩⟩
theorem chkNm_of:∀ {is:List Nat} {es:List PE},chkNm c is es = true→NmS c is es
 | [],es,h=>by rw [List.isEmpty_iff.mp h]; exact .nil
 | i :: is,es,h=>oS_el (o:=dCons es) h fun w he h=>oS_el h fun y hy h=>by rw [he,hy]; exact .cons (isNm_of (and_l h)) (chkNm_of (and_r h))
theorem chkNn_of:∀ {is:List Nat} {es:List Str},chkNn c is es = true→NmN c is es
 | [],es,h=>by rw [List.isEmpty_iff.mp h]; exact .nil
 | i :: is,es,h=>oS_el (o:=dCons es) h fun w he h=>by rw [he]; exact .cons (isNm_of (and_l h)) (chkNn_of (and_r h))
theorem chkTg_of {tg:Tg} (h:chkTg c tg e = true):TgOk c tg e:=by
 cases tg with
 | one i=>exact oS_el (o:=dName e) h fun y he h=>he ▸ .one (isNm_of h)
 | many is=>exact oS_el (o:=dTup e) h fun w he h=>he ▸ .many (chkNm_of h)
theorem cpB_of {sc:Scope} {nm:List (Str × Nat)} {sl:List Nat} (h:cpB c sc nm sl = true):CpOk c sc nm sl:=by
 have h2:=List.all_eq_true.mp (and_l (and_r h))
 have key:∀ {p:NameKind × Str} {k:NameKind} {b:Bool},(p.1 != k || b) = true→p.1 = k→b = true:=fun {p k b} h e=>(Bool.or_eq_true_iff.mp h).elim (fun n=>absurd e (bne_iff_ne.mp n)) id
 refine ⟨eq_of (and_l h),fun x hx e=>eq_of (key (p:=(x.2,x.1)) (and_l (h2 x hx)) e),fun x hx e=>eq_of (key (p:=(x.2,x.1)) (and_l (and_r (h2 x hx))) e),fun x hx e=>(Bool.or_eq_true_iff.mp (key (p:=(x.2,x.1)) (and_r (and_r (h2 x hx))) e)).imp eq_of eq_of,fun x i e=>?_⟩
 exact (Bool.or_eq_true_iff.mp (List.all_eq_true.mp (and_r (and_r h)) _ (mem_of_lookup e))).imp (fun e=>List.contains_iff_mem.mp e) fun e=>⟨eq_of (and_l e),eq_of (and_r e)⟩
noncomputable def Cl (B:Bd) (u:Nat) (c c':Ck) (x:C) (elt:PE) (gens:List PComp):Prop:=match x with
 | .elt x=>gens = []∧TE B u c' x (fun env=>eval elt env)
 | .gen tg src ifs r=>∃ target iter ifsE rest,gens = ⟨target,iter,ifsE,0⟩ :: rest∧TSr B u c target src iter∧(∀ env x,foldedSetIterable iter env x = pure x)∧LoopSt B u c' tg ifs r target elt ifsE rest
theorem Cl.bd {x:C} {elt:PE} {gens:List PComp} (h:Cl B u c c x elt gens):BdOk B u c x elt gens:=by
 cases x with
 | elt y=>rw [h.1]; exact bd_elt h.2
 | gen tg src ifs r=>obtain ⟨target,iter,ifsE,rest,rfl,h1,h2,h3⟩:=h; exact bd_gen h1 h2 h3
end
end Mine.Internal
namespace Mine.Internal
open PySem PySem.W PyProof.Rows
section
variable {B:Bd} {u:Nat} {g:Gt}
theorem snd_bi (h:Hs B u g) {c:Ck} {b:Bi} {xs:List X} {es:List PE} {np pos:Pos} (hn:nst b = false) (hi:(b.ctorIdx == 11) = false) (k1:isGlob c (biStr b).1 = true) (r:TAs B u c xs es):TA B u c (.bi b xs) (.Call (.Name (biStr b).1 np) es [] pos):=by
 cases b with
 | len=>exact ta_te rfl rfl (te_bi h.F (h.b (by decide +kernel) k1) rfl r.2 (r.tes _) ok_len)
 | list=>exact ta_tf rfl (tf_bi h.F (h.b (by decide +kernel) k1) rfl r.2 (r.tes _) cf_list)
 | tuple=>exact ta_te rfl rfl (te_bi h.F (h.b (by decide +kernel) k1) rfl r.2 (r.tes _) ok_tuple)
 | dict=>exact ta_tf rfl (tf_bi h.F (h.b (by decide +kernel) k1) rfl r.2 (r.tes _) cf_dict)
 | sorted=>exact ta_te rfl rfl (te_bi h.F (h.b (by decide +kernel) k1) rfl r.2 (r.tes _) h.so)
 | sortedSet=>exact nomatch hn
 | int=>exact ta_te rfl rfl (te_bi h.F (h.b (by decide +kernel) k1) rfl r.2 (r.tes _) ok_int)
 | max=>exact ta_te rfl rfl (te_bi h.F (h.b (by decide +kernel) k1) rfl r.2 (r.tes _) ok_max)
 | sum=>exact ta_te rfl rfl (te_bi h.F (h.b (by decide +kernel) k1) rfl r.2 (r.tes _) ok_sum)
 | abs=>exact ta_te rfl rfl (te_bi h.F (h.b (by decide +kernel) k1) rfl r.2 (r.tes _) ok_abs)
 | lenSet=>exact nomatch hn
 | items=>exact nomatch hi
theorem snd_ss (h:Hs B u g) {c:Ck} {b:Bi} {xs:List X} {es:List PE} {p1 p2 p3 p4:Pos} (hn:nst b = true) (k1:isGlob c (biStr b).1 = true) (k2:isGlob c "set" = true) (hl:(xs.length == 1) = true) (r:TAs B u c xs es):TA B u c (.bi b xs) (.Call (.Name (biStr b).1 p1) [.Call (.Name "set" p2) es [] p3] [] p4):=by
 have ts:=r.tes p3
 obtain ⟨r,hs⟩:=r
 cases r with
 | nil=>exact nomatch hl
 | cons t r=>cases r with
  | nil=>cases b with
   | sortedSet=>exact ta_te rfl rfl (h.ss g _ _ _ _ _ _ _ h.F (h.b (by decide +kernel) k1) (h.b (by decide +kernel) k2) (of_not (and_l hs)) ts)
   | lenSet=>exact ta_te rfl rfl (h.sl g _ _ _ _ _ _ _ h.F (h.b (by decide +kernel) k1) (h.b (by decide +kernel) k2) (of_not (and_l hs)) ts)
   | _=>exact nomatch hn
  | cons _ _=>exact nomatch hl
theorem snd_items (h:Hs B u g) {c:Ck} {xs:List X} {o:PE} {np ap p1 pos:Pos} (hb:plainBase o = true) (hl:(ap.endLine == p1.line) = true) (k1:isGlob c "list" = true) (hx:(xs.length == 1) = true) (r:TAs B u c xs [o]):TA B u c (.bi .items xs) (.Call (.Name "list" np) [.Call (.Attribute o "items" ap) [] [] p1] [] pos):=by
 obtain ⟨r,hs⟩:=r
 cases r with
 | cons t r=>cases r with
  | nil=>exact ta_te rfl rfl (te_items h.F (h.b (by decide +kernel) k1) hb hl t.1)
theorem fstr_of {c:Ck} {xs:List X} {es:List PE} {p:Pos} (hl:decide (2≤xs.length) = true) (r:All2 (TP B u c) xs es):TE B u c (.fstr xs) (fun env=>eval (.JoinedStr es p) env):=by
 cases r with
 | nil=>exact nomatch hl
 | cons a r=>cases r with
  | nil=>exact nomatch hl
  | cons b r=>exact te_fstr a b r
theorem cl_comp {c:Ck} {C:C} {elt:PE} {gens:List PComp} {sc:Scope} {p:Pos} {nm:List (Str × Nat)} (K0:CpOk c sc nm C.slots) (hg:(!gens.isEmpty) = true) (r:Cl B u c ⟨nm,relS sc c.sc,ownC sc⟩ C elt gens):TA B u c (.comp C) (.ListComp elt gens sc p):=by
 cases C with
 | elt x=>rw [r.1] at hg; exact absurd hg Bool.false_ne_true
 | gen tg src ifs r'=>obtain ⟨target,iter,ifsE,rest,e,h1,h2,h3⟩:=r; exact e ▸ ta_tf rfl (tf_comp K0 h1 h2 h3)
mutual
theorem sndE (h:Hs B u g):∀ (x:X) (c:Ck) (e:PE),chkE B.P g x c e = true→TA B u c x e
 | .cst v,c,e,k=>ta_cst k
 | .var i,c,e,k=>oS_el (o:=dName e) k fun w he k=>he ▸ ta_var k
 | .glob i,c,e,k=>(Bool.or_eq_true_iff.mp k).elim (fun k=>ta_void (Option.isNone_iff_eq_none.mp k)) fun k=>oS_el (o:=dName e) k fun w he k=>he ▸ ta_te rfl rfl (te_glob h.F (eq_of (and_l k)) (isGlob_of (and_r k)).1 (isGlob_of (and_r k)).2)
 | .tup xs,c,e,k=>oS_el (o:=dTup e) k fun w he k=>he ▸ ta_te rfl rfl (te_tup (of_decide_eq_true (and_l k)) ((sndEs h xs c w.1 (and_r k)).tes _))
 | .list xs,c,e,k=>oS_el (o:=dList e) k fun w he k=>he ▸ ta_tf rfl (tf_list (of_decide_eq_true (and_l k)) ((sndEs h xs c w.1 (and_r k)).tes _))
 | .dict xs,c,e,k=>oS_el (o:=dDict e) k fun w he k=>he ▸ ta_tf rfl (tf_dict (sndKv h xs c w.1 w.2.1 (and_r k)) (of_decide_eq_true (and_l k)))
 | .mut x,c,e,k=>have t:=te_mut ((sndE h x c e (and_r k)).2.2 (and_l (and_l k)))
  ⟨t,tb_te (and_r (and_l k)) t,fun q=>absurd q Bool.false_ne_true⟩
 | .attr y f,c,e,k=>oS_el (o:=dAttr e) k fun w he k=>he ▸ ta_te rfl rfl (te_attr h.F (and_l (and_l k)) (List.contains_iff_mem.mp (and_l (and_r (and_l k)))) (and_l (and_r (and_r (and_l k)))) (eq_of (and_r (and_r (and_r (and_l k))))) (sndE h y c w.1 (and_r k)).1)
 | .item y i,c,e,k=>oS_el (o:=dSub e) k fun w he k=>he ▸ ta_te rfl rfl (te_item (and_l k) (sndE h y c w.1 (and_l (and_r k))).1 (sndE h i c w.2.1 (and_r (and_r k))).1)
 | .sidx cs i,c,e,k=>oS_el (o:=dSub e) k fun w he k=>oS_el k fun w2 ho k=>oS_el k fun x hx k=>by
  rw [he,ho,hx]
  exact ta_te rfl rfl (te_sidx (and_l (and_l k)) (strs_of (eq_of (and_r (and_l k)))) (and_l (and_r k)) (sndE h i c w.2.1 (and_r (and_r k))).1)
 | .sl y l r,c,e,k=>oS_el (o:=dSub e) k fun w he k=>oS_el k fun s hs k=>by
  have to:∀ (x:X) (o:Option PE),(∀ e,chkE B.P g x c e = true→TA B u c x e)→oO o (isN x) (fun e=>chkE B.P g x c e) = true→TO B u c x o:=fun x o f k=>match o,k with
   | some e,k=>(f e k).1
   | none,k=>isN_of k
  rw [he,hs]
  exact ta_te rfl rfl (te_sl (sndE h y c w.1 (and_l k)).1 (to l s.1 (fun e=>sndE h l c e) (and_l (and_r k))) (to r s.2.1 (fun e=>sndE h r c e) (and_r (and_r k))))
 | .bin o a b,c,e,k=>oS_el (o:=dBin e) k fun w he k=>by
  rw [he,← eq_of (and_l k)]
  exact ta_te rfl rfl (te_bin (sndE h a c w.1 (and_l (and_r k))).1 (sndE h b c w.2.2.1 (and_r (and_r k))).1)
 | .and xs,c,e,k=>oS_el (o:=dBool e) k fun w he k=>by
  have r:=(sndEs h xs c w.2.1 (and_r k)).1
  rw [he,eq_of (and_l k)]
  exact ⟨te_and (r.imp fun a b h=>h.1),tb_and (r.imp fun a b h=>h.2.1),fun q=>absurd q Bool.false_ne_true⟩
 | .or xs,c,e,k=>oS_el (o:=dBool e) k fun w he k=>by
  have r:=(sndEs h xs c w.2.1 (and_r k)).1
  rw [he,eq_of (and_l k)]
  exact ⟨te_or (r.imp fun a b h=>h.1),tb_or (r.imp fun a b h=>h.2.1),fun q=>absurd q Bool.false_ne_true⟩
 | .cmp o a b,c,e,k=>oS_el (o:=dCmp e) k fun w he k=>oS_el k fun op h1 k=>oS_el k fun r h2 k=>by
  have r1:=(sndE h a c w.1 (and_l (and_r k))).1
  have r2:=(sndE h b c r (and_r (and_r k))).1
  have u3:=Nat.le_trans (by decide:30≤40) h.hu
  rw [he,h1,h2,eq_of (and_l (and_l k))]
  exact ⟨te_cmp u3 (of_not (and_r (and_l k))) r1 r2,tb_cmp u3 (of_not (and_r (and_l k))) r1 r2,fun q=>absurd q Bool.false_ne_true⟩
 | .ite x y z,c,e,k=>oS_el (o:=dIte e) k fun w he k =>
  have r1:=sndE h x c w.1 (and_l k)
  have r2:=sndE h y c w.2.1 (and_l (and_r k))
  have r3:=sndE h z c w.2.2.1 (and_r (and_r k))
  he ▸ ⟨te_ite r1.2.1 r2.1 r3.1,TB.ite r1.2.1 r2.2.1 r3.2.1,fun q=>absurd q Bool.false_ne_true⟩
 | .call f xs,c,e,k=>oS_el (o:=dCall e) k fun w he k=>oS_el k fun y hq k =>
  have r:=sndEs h xs c w.2.1 (and_r k)
  have k1:=and_l k
  TA.at (he.trans (congrArg (PySem.Expr.Call · _ _ _) hq)) (ta_te rfl rfl (te_call h.F h.T (eq_of (and_l k1)) (and_l (and_r k1)) (isGlob_of (and_r (and_r k1))).1 (isGlob_of (and_r (and_r k1))).2 r.2 (r.tes _)))
 | .meth y f xs,c,e,k=>oS_el (o:=dCall e) k fun w he k=>oS_el k fun a hq k =>
  have r:=sndEs h xs c w.2.1 (and_r (and_r k))
  have k1:=and_l k
  have k4:=and_r (and_r (and_r k1))
  TA.at (he.trans (congrArg (PySem.Expr.Call · _ _ _) hq)) (ta_te rfl rfl (te_meth h.F h.T (and_l k1) (and_l (and_r k1)) (of_decide_eq_true (and_l (and_r (and_r k1)))) r.2 (List.contains_iff_mem.mp (and_l k4)) (and_l (and_r k4)) (eq_of (and_r (and_r k4))) (sndE h y c a.1 (and_l (and_r k))).1 (r.tes _)))
 | .new i xs,c,e,k=>oS_el (o:=dCall e) k fun w he k=>oS_el k fun y hq k =>
  have r:=sndEs h xs c w.2.1 (and_r k)
  have k1:=and_l k
  TA.at (he.trans (congrArg (PySem.Expr.Call · _ _ _) hq)) (ta_te rfl rfl (te_new h.F h.T h.hu (eq_of (and_l k1)) (isGlob_of (and_r k1)).1 (isGlob_of (and_r k1)).2 r.2 (r.tes _)))
 | .bi b xs,c,e,k=>by
  cases hi:b.ctorIdx == 11 with
  | true =>
   replace k:(bif b.ctorIdx == 11 then _ else _) = true:=k
   rw [hi] at k
   exact oS_el (o:=dCall e) k fun w he k=>oS_el k fun y hq k=>oS_el k fun a ha k=>oS_el k fun v hv k=>oS_el k fun t ht k=>by
    have k1:=and_l k
    have k2:=and_l (and_r k1)
    have k3:=and_r (and_r k1)
    rw [eq_of (and_l k1)] at k2
    rw [he,hq,ha,hv,ht,eq_of (and_l k1),eq_of (and_l k3),List.isEmpty_iff.mp (and_r (and_r (and_r k3))),show b = .items by cases b <;> first | rfl | exact nomatch hi]
    exact snd_items h (and_l (and_r k3)) (and_l (and_r (and_r k3))) k2 (and_l (and_r k)) (sndEs h xs c [t.1] (and_r (and_r k)))
  | false =>
  replace k:(bif b.ctorIdx == 11 then _ else bif nst b then _ else _) = true:=k
  rw [hi] at k
  cases hb:nst b with
  | true =>
   replace k:(bif nst b then _ else _) = true:=k
   rw [hb] at k
   exact oS_el (o:=dCall e) k fun w he k=>oS_el k fun y hq k=>oS_el k fun a ha k=>oS_el k fun v hv k=>oS_el k fun y2 hq2 k=>by
    have k1:=and_l k
    rw [he,hq,ha,hv,hq2,eq_of (and_l k1),eq_of (and_l (and_r (and_r k1)))]
    rw [eq_of (and_l k1),eq_of (and_l (and_r (and_r k1)))] at k1
    exact snd_ss h hb (and_l (and_r k1)) (and_r (and_r (and_r k1))) (and_l (and_r k)) (sndEs h xs c v.2.1 (and_r (and_r k)))
  | false =>
   replace k:(bif nst b then _ else _) = true:=k
   rw [hb] at k
   exact oS_el (o:=dCall e) k fun w he k=>oS_el k fun y hq k=>by
    have k1:=and_r (and_l k)
    rw [eq_of (and_l (and_l k))] at k1
    rw [he,hq,eq_of (and_l (and_l k))]
    exact snd_bi h hb hi k1 (sndEs h xs c w.2.1 (and_r k))
 | .get y xs,c,e,k=>oS_el (o:=dCall e) k fun w he k=>oS_el k fun a hq k=>by
  have k1:=and_l k
  have r:=sndEs h xs c w.2.1 (and_r (and_r k))
  rw [he,hq,eq_of (and_l k1)]
  exact ta_te rfl rfl (te_get (and_l (and_r k1)) (and_l (and_r (and_r k1))) (of_decide_eq_true (and_r (and_r (and_r k1)))) r.2 (sndE h y c a.1 (and_l (and_r k))).1 (r.tes _))
 | .comp C,c,e,k=>oS_el (o:=dComp e) k fun w he k=>he ▸ cl_comp (cpB_of (and_l (and_l k))) (and_r (and_l k)) (sndC h C c _ w.1 w.2.1 (and_r k))
 | .fstr xs,c,e,k=>oS_el (o:=dJs e) k fun w he k=>he ▸ ta_te rfl rfl (fstr_of (and_l k) (sndPs h xs c w.1 (and_r k)))
 | .not x,c,e,k=>oS_el (o:=dNeg e) k fun w he k=>by
  have r:=sndE h x c w.2.1 (and_r k)
  rw [he,eq_of (and_l k)]
  exact ⟨te_not r.1,tb_not r.2.1,fun q=>absurd q Bool.false_ne_true⟩
 | .cntT y,c,e,k=>oS_el (o:=dCall e) k fun w he k=>oS_el k fun a hq k=>oS_el k fun t ht k=>oS_el k fun q hc k=>oS_el k fun b hb k=>by
  have k1:=and_l k
  rw [he,hq,ht,hc,hb,and_l k1,eq_of (and_l (and_r k1))]
  exact ta_te rfl rfl (te_cnt (and_l (and_r (and_r k1))) (and_r (and_r (and_r k1))) (sndE h y c a.1 (and_r k)).1)
theorem sndEs (h:Hs B u g):∀ (xs:List X) (c:Ck) (es:List PE),chkEs B.P g xs c es = true→TAs B u c xs es
 | [],c,es,k=>List.isEmpty_iff.mp k ▸ ⟨.nil,rfl⟩
 | x :: xs,c,es,k=>oS_el (o:=dCons es) k fun w he k =>
  have r:=sndEs h xs c w.2 (and_r (and_r k))
  he ▸ ⟨.cons (sndE h x c w.1 (and_l (and_r k))) r.1,(congrArg (· && _) (and_l k)).trans r.2⟩
theorem sndPs (h:Hs B u g):∀ (xs:List X) (c:Ck) (es:List PE),chkPs B.P g xs c es = true→All2 (TP B u c) xs es
 | [],c,es,k=>List.isEmpty_iff.mp k ▸ .nil
 | x :: xs,c,es,k=>oS_el (o:=dCons es) k fun w he k =>
  have r:=sndPs h xs c w.2 (and_r k)
  he ▸ .cons ((Bool.or_eq_true_iff.mp (and_l k)).elim (fun k=>oS_el k fun f hf k=>by
   rw [hf,eq_of (and_l k)]; exact tp_fmt (sndE h x c f.1 (and_r k)).1) fun k=>oS_el k fun q hq k=>oS_el k fun y hy k=>oS_el k fun v hv k=>oS_el k fun z hz k=>by
   rw [hq,hy,hv,hz]; exact tp_cst (and_l k) (eq_of (and_r k))) r
theorem sndKv (h:Hs B u g):∀ (xs:List X) (c:Ck) (ks:List (Option PE)) (vs:List PE),chkKv B.P g xs c ks vs = true→Kv B u c xs ks vs
 | [],c,ks,vs,k=>List.isEmpty_iff.mp (and_l k) ▸ List.isEmpty_iff.mp (and_r k) ▸ .nil
 | [x],c,ks,vs,k=>oS_el (o:=dCons ks) k fun w he k=>match w.1,k with
  | some e,k=>absurd (and_r k) Bool.false_ne_true
  | none,k=>absurd k Bool.false_ne_true
 | x :: y :: xs,c,ks,vs,k=>oS_el (o:=dCons ks) k fun w he k=>he ▸ match w.1,k with
  | some e,k=>oS_el (o:=dCons vs) (and_r k) fun v hv k2=>hv ▸ .cons (sndE h x c e (and_l k)).1 (sndE h y c v.1 (and_l k2)).1 (sndKv h xs c w.2 v.2 (and_r k2))
  | none,k=>absurd k Bool.false_ne_true
theorem sndC (h:Hs B u g):∀ (x:C) (c c':Ck) (elt:PE) (gens:List PComp),chkC B.P g x c c' elt gens = true→Cl B u c c' x elt gens
 | .elt x,c,c',elt,gens,k=>⟨List.isEmpty_iff.mp (and_l k),(sndE h x c' elt (and_r k)).1⟩
 | .gen tg src ifs r,c,c',elt,gens,k=>oS_el (o:=dCons gens) k fun w hg k=>oS_el k fun v h1 k =>
  have k1:=and_l k
  have k2:=and_r k
  ⟨v.1,v.2.1,v.2.2,w.2,hg.trans (congrArg (· :: w.2) h1),sndSrc h src c v.1 v.2.1 (and_l k2),noSet_of (and_l k1),loop_ok (chkTg_of (and_l (and_r k1))) ((sndEs h ifs c' v.2.2 (and_l (and_r k2))).1.imp fun a b h=>h.2.1)
   (fun i hi m=>absurd (List.contains_iff_mem.mpr m) (by rw [of_not (List.all_eq_true.mp (and_r (and_r k1)) i hi)]; exact Bool.false_ne_true)) (sndC h r c' c' elt w.2 (and_r (and_r k2))).bd⟩
theorem sndSrc (h:Hs B u g):∀ (x:Src) (c:Ck) (t e:PE),chkSrc B.P g x c t e = true→TSr B u c t x e
 | .val x,c,t,e,k=>tsr_val (sndE h x c e k).1
 | .range x,c,t,e,k=>oS_el (o:=dCall e) k fun w he k=>oS_el k fun y hq k=>oS_el k fun a ha k=>by
  have k1:=and_l k
  have hs:=of_not (and_r (and_r k1))
  have hb:=and_l (and_r k1)
  rw [eq_of (and_l k1)] at hb
  rw [he,hq,ha,eq_of (and_l k1)]
  exact tsr_range h.F (h.b (by decide +kernel) hb) hs (tes_cons hs (sndE h x c a (and_r k)).1 tes_nil)
 | .enum x,c,t,e,k=>oS_el (o:=dTup t) k fun tt ht k=>oS_el (o:=dCall e) k fun w he k=>oS_el k fun y hq k=>oS_el k fun a ha k=>by
  have k1:=and_l k
  have hs:=of_not (and_r (and_r k1))
  have hb:=and_l (and_r k1)
  rw [eq_of (and_l k1)] at hb
  rw [ht,he,hq,ha,eq_of (and_l k1)]
  exact tsr_enum h.F (h.b (by decide +kernel) hb) hs (tes_cons hs (sndE h x c a (and_r k)).1 tes_nil)
 | .zip x y,c,t,e,k=>oS_el (o:=dTup t) k fun tt ht k=>oS_el (o:=dCall e) k fun w he k=>oS_el k fun n hq k=>oS_el k fun a ha k=>by
  have k1:=and_l k
  have hs:=and_r (and_r k1)
  have hb:=and_l (and_r k1)
  rw [eq_of (and_l k1)] at hb
  rw [ht,he,hq,ha,eq_of (and_l k1)]
  exact tsr_zip h.F (h.b (by decide +kernel) hb) (of_not (and_l hs)) (of_not (and_r hs)) (tes_cons (of_not (and_l hs)) (sndE h x c a.1 (and_l (and_r k))).1 (tes_cons (of_not (and_r hs)) (sndE h y c a.2 (and_r (and_r k))).1 tes_nil))
 | .items x,c,t,e,k=>oS_el (o:=dTup t) k fun tt ht k=>oS_el (o:=dCall e) k fun w he k=>oS_el k fun a hq k=>by
  have k1:=and_l k
  rw [ht,he,hq,eq_of (and_l k1),List.isEmpty_iff.mp (and_r (and_r (and_r k1)))]
  exact tsr_items (and_l (and_r k1)) (and_l (and_r (and_r k1))) (sndE h x c a.1 (and_r k)).1
end
end
end Mine.Internal
namespace Mine.Internal
open PySem PySem.W PyProof.Rows
noncomputable section
noncomputable def dRet (s:Stmt):Option { w:PE × Pos // s = .Return (some w.1) w.2 }:=if h:s.ctorIdx = 3 then PySem.Stmt.Return.elim (motive_2:=fun s=>Option { w:PE × Pos // s = .Return (some w.1) w.2 }) s h (fun e p=>match e with | some e=>some ⟨(e,p),rfl⟩ | none=>none) else none
noncomputable def dExp (s:Stmt):Option { w:PE × Pos // s = .Expr w.1 w.2 }:=if h:s.ctorIdx = 24 then PySem.Stmt.Expr.elim (motive_2:=fun s=>Option { w:PE × Pos // s = .Expr w.1 w.2 }) s h (fun e p=>some ⟨(e,p),rfl⟩) else none
noncomputable def dSIf (s:Stmt):Option { w:PE × List Stmt × List Stmt × Pos // s = .If w.1 w.2.1 w.2.2.1 w.2.2.2 }:=if h:s.ctorIdx = 12 then PySem.Stmt.If.elim (motive_2:=fun s=>Option { w:PE × List Stmt × List Stmt × Pos // s = .If w.1 w.2.1 w.2.2.1 w.2.2.2 }) s h (fun e a b p=>some ⟨(e,a,b,p),rfl⟩) else none
noncomputable def dWhi (s:Stmt):Option { w:PE × List Stmt × List Stmt × Pos // s = .While w.1 w.2.1 w.2.2.1 w.2.2.2 }:=if h:s.ctorIdx = 11 then PySem.Stmt.While.elim (motive_2:=fun s=>Option { w:PE × List Stmt × List Stmt × Pos // s = .While w.1 w.2.1 w.2.2.1 w.2.2.2 }) s h (fun e a b p=>some ⟨(e,a,b,p),rfl⟩) else none
noncomputable def dFor (s:Stmt):Option { w:PE × PE × List Stmt × List Stmt × Pos // s = .For w.1 w.2.1 w.2.2.1 w.2.2.2.1 w.2.2.2.2 }:=if h:s.ctorIdx = 9 then PySem.Stmt.For.elim (motive_2:=fun s=>Option { w:PE × PE × List Stmt × List Stmt × Pos // s = .For w.1 w.2.1 w.2.2.1 w.2.2.2.1 w.2.2.2.2 }) s h (fun t i a b p=>some ⟨(t,i,a,b,p),rfl⟩) else none
noncomputable def dAsg (s:Stmt):Option { w:List PE × PE × Pos // s = .Assign w.1 w.2.1 w.2.2 }:=if h:s.ctorIdx = 5 then PySem.Stmt.Assign.elim (motive_2:=fun s=>Option { w:List PE × PE × Pos // s = .Assign w.1 w.2.1 w.2.2 }) s h (fun t e p=>some ⟨(t,e,p),rfl⟩) else none
noncomputable def dX (x:X):Option { C:C // x = .comp C }:=if h:x.ctorIdx = 21 then X.comp.elim (motive_1:=fun x=>Option { C:C // x = .comp C }) x h (fun C=>some ⟨C,rfl⟩) else none
noncomputable def dXm (x:X):Option { C:C // x = .mut (.comp C) }:=if h:x.ctorIdx = 6 then X.mut.elim (motive_1:=fun x=>Option { C:C // x = .mut (.comp C) }) x h (fun y=>match dX y with | some C=>some ⟨C.1,congrArg X.mut C.2⟩ | none=>none) else none
noncomputable def asPure {α:Type} (m:Sem α):Option { a:α // m = .pure a }:=if h:m.ctorIdx = 0 then PySem.Sem.pure.elim (motive:=fun m=>Option { a:α // m = .pure a }) m h (fun a=>some ⟨a,rfl⟩) else none
noncomputable def env0 (c:Ck):PEnv:={ scope:=c.sc,locals:=0,globals:=0,cells:=[],qual:="",func:=none,code:=.none,frame:=none,builtins:=0 }
noncomputable def swB (c:Ck) (e:PE) (t:Option PE) (l:Nat) (r:Bool):Bool:=oS (asPure (swapsWith e t l (env0 c))) fun b=>b == r
noncomputable def mthN:Mth→Str
 | .app=>"append"
 | .ext=>"extend"
 | .upd=>"update"
 | .rem=>"remove"
section
variable (P:Prog) (g:Gt)
noncomputable def chkA (c:Ck) (x:X) (ts:List PE) (e:PE) (l:Nat) (t:Tgt):Bool:=chkE P g x c e && oS (dOne ts) fun t0=>match t with
 | .name i=>oS (dName t0) fun y=>isNm c y.1 i && (swB c e (some t0) l false || (((dX x).isSome || (dXm x).isSome) && swB c e (some t0) l true))
 | .attr o f=>oS (dAttr t0) fun a=>((g.flds.contains a.2.1 && (strOk a.2.1 && encS a.2.1 == f)) && swB c e (some t0) l false) && chkE P g o c a.1
 | .item o k=>oS (dSub t0) fun a=>swB c e (some t0) l false && (chkE P g o c a.1 && chkE P g k c a.2.1)
noncomputable def chkT (c:Ck) (t:Tgt) (t0:PE):Bool:=match t with
 | .name i=>oS (dName t0) fun y=>isNm c y.1 i
 | .attr o f=>oS (dAttr t0) fun a=>(g.flds.contains a.2.1 && (strOk a.2.1 && encS a.2.1 == f)) && chkE P g o c a.1
 | .item o k=>oS (dSub t0) fun a=>chkE P g o c a.1 && chkE P g k c a.2.1
noncomputable def chkTs (c:Ck):List Tgt→List PE→Bool
 | [],es=>es.isEmpty
 | t :: ts,es=>oS (dCons es) fun w=>chkT P g c t w.1 && chkTs c ts w.2
mutual
noncomputable def chkS:S→Ck→Stmt→Bool
 | .raise,c,s=>true
 | .ret x,c,s=>oS (dRet s) fun w=>chkE P g x c w.1
 | .expr x,c,s=>oS (dExp s) fun w=>swB c w.1 none w.2.line false && chkE P g x c w.1
 | .ite x a b,c,s=>oS (dSIf s) fun w=>chkE P g x c w.1 && (chkSs a c w.2.1 && chkSs b c w.2.2.1)
 | .while_ x b,c,s=>oS (dWhi s) fun w=>w.2.2.1.isEmpty && (chkE P g x c w.1 && chkSs b c w.2.1)
 | .for_ tg src b,c,s=>oS (dFor s) fun w=>(w.2.2.2.1.isEmpty && (noSet w.2.1 && chkTg c tg w.1)) && (chkSrc P g src c w.1 w.2.1 && chkSs b c w.2.2.1)
 | .mth m o x,c,s=>oS (dExp s) fun w=>oS (dCall w.1) fun v=>oS (dAttr v.1) fun a=>oS (dOne v.2.1) fun e=>(a.2.1 == mthN m && (plainBase a.1 && (a.2.2.endLine == v.2.2.line && !isStarred e))) && (chkE P g o c a.1 && chkE P g x c e)
 | .asgT is x,c,s=>oS (dAsg s) fun w=>oS (dOne w.1) fun t=>oS (dTup t) fun es=>(chkNm c is es.1 && (swB c w.2.1 (some t) w.2.2.line false && oS (asPure (swappedStores [t] w.2.1 (env0 c))) fun r=>r == none)) && chkE P g x c w.2.1
 | .asgTs b is xs,c,s=>oS (dAsg s) fun w=>oS (dOne w.1) fun t=>oS (dTup t) fun es=>oS (dTup w.2.1) fun vs=>(decide (xs.length≤1000) && (swB c w.2.1 (some t) w.2.2.line false && oS (asPure (swappedStores [t] w.2.1 (env0 c))) fun r=>match b with
   | false=>r == none && chkNm c is es.1
   | true=>oB r fun ns=>chkNn c is.reverse ns.reverse)) && chkEs P g xs c vs.1
 | .asg t x,c,s=>oS (dAsg s) fun w=>chkA P g c x w.1 w.2.1 w.2.2.line t
 | .asgM ts x,c,s=>oS (dAsg s) fun w=>oS (dOne w.1) fun t=>oS (dTup t) fun es=>(chkTs P g c ts es.1 && (swB c w.2.1 (some t) w.2.2.line false && oS (asPure (swappedStores [t] w.2.1 (env0 c))) fun r=>r == none)) && chkE P g x c w.2.1
noncomputable def chkSs:List S→Ck→List Stmt→Bool
 | [],c,l=>l.isEmpty
 | s :: ss,c,l=>oS (dCons l) fun w=>chkS s c w.1 && chkSs ss c w.2
end
end
end
theorem sw_of {c:Ck} {e:PE} {t:Option PE} {l:Nat} {r:Bool} (h:swB c e t l r = true) (env:PEnv) (he:env.scope = c.sc):swapsWith e t l env = pure r:=oS_el h fun a w k=>by
 rw [← eq_of k]
 refine Eq.trans ?_ w
 delta swapsWith Env.blockKind Env.kindOf
 rw [he]; rfl
theorem ss_of {c:Ck} {ts:List PE} {e:PE} {r:Option (List Str)} (h:swappedStores ts e (env0 c) = .pure r) (env:PEnv) (he:env.scope = c.sc):swappedStores ts e env = pure r:=by
 refine Eq.trans ?_ h
 delta swappedStores Env.blockKind Env.kindOf
 rw [he]; rfl
section
variable {B:Bd} {u:Nat} {g:Gt} {c:Ck}
theorem snd_comp (h:Hs B u g) {C:C} {e:PE} (k:chkE B.P g (.comp C) c e = true):∃ (elt:PE) (sc:Scope) (p:Pos) (tg:Tg) (src:Src) (ifs:List X) (r:Mine.Internal.C) (target iter:PE) (ifsE:List PE) (rest:List PComp) (nm:List (Str × Nat)),
  e = .ListComp elt (⟨target,iter,ifsE,0⟩ :: rest) sc p∧C = .gen tg src ifs r∧CpOk c sc nm (tg.slots++r.slots)∧TSr B u c target src iter∧(∀ env x,foldedSetIterable iter env x = pure x)∧LoopSt B u ⟨nm,relS sc c.sc,ownC sc⟩ tg ifs r target elt ifsE rest:=by
 obtain ⟨⟨elt,gens,sc,p⟩,he,k⟩:=oS_of (o:=dComp e) k
 have r:=sndC h C c _ elt gens (and_r k)
 have K0:=cpB_of (and_l (and_l k))
 cases C with
 | elt x=>exact nomatch r.1 ▸ and_r (and_l k)
 | gen tg src ifs r'=>obtain ⟨target,iter,ifsE,rest,rfl,h1,h2,h3⟩:=r; exact ⟨elt,sc,p,tg,src,ifs,r',target,iter,ifsE,rest,_,he,rfl,K0,h1,h2,h3⟩
theorem sndA (h:Hs B u g) {x:X} {ts:List PE} {e:PE} {pos:Pos} {t:Tgt} (k:chkA B.P g c x ts e pos.line t = true):TS B u c (.asg t x) (fun env=>exec (.Assign ts e pos) env):=by
 have ke:=and_l k
 obtain ⟨t0,h0,k⟩:=oS_of (and_r k)
 rw [show ts = [t0] from h0]
 cases t with
 | name i =>
  obtain ⟨y,hy,k⟩:=oS_of k
  have hn:=isNm_of (and_l k)
  rcases Bool.or_eq_true_iff.mp (and_r k) with k3 | k3
  ·rw [show t0 = .Name y.1 y.2 from hy] at k3 ⊢
   exact ts_name hn (sndE h x c e ke).1 (sw_of k3)
  ·have k4:=and_r k3
   have go:∀ C,chkE B.P g (.comp C) c e = true→TS B u c (.asg (.name i) (.comp C)) (fun env=>exec (.Assign [t0] e pos) env)∧TS B u c (.asg (.name i) (.mut (.comp C))) (fun env=>exec (.Assign [t0] e pos) env):=fun C k=>by
    obtain ⟨elt,sc,p,tg,src,ifs,r,target,iter,ifsE,rest,nm,h1,h2,h3,h4,h5,h6⟩:=snd_comp h k
    rw [show t0 = .Name y.1 y.2 from hy,h1] at k4
    rw [show t0 = .Name y.1 y.2 from hy,h1,h2]
    exact ts_nameC hn h3 h4 h5 h6 (sw_of k4)
   rcases Bool.or_eq_true_iff.mp (and_l k3) with k5 | k5
   ·obtain ⟨C,_⟩:=Option.isSome_iff_exists.mp k5
    rw [C.2] at ke ⊢
    exact (go C.1 ke).1
   ·obtain ⟨C,_⟩:=Option.isSome_iff_exists.mp k5
    rw [C.2] at ke ⊢
    exact (go C.1 (and_r ke)).2
 | attr o f =>
  obtain ⟨a,ha,k⟩:=oS_of k
  have k1:=and_l (and_l k)
  have k3:=and_r (and_l k)
  rw [show t0 = .Attribute a.1 a.2.1 a.2.2 from ha] at k3 ⊢
  exact ts_attr h.F (List.contains_iff_mem.mp (and_l k1)) (and_l (and_r k1)) (eq_of (and_r (and_r k1))) (sndE h x c e ke).1 (sndE h o c a.1 (and_r k)).1 (sw_of k3)
 | item o j =>
  obtain ⟨a,ha,k⟩:=oS_of k
  have k3:=and_l k
  rw [show t0 = .Subscript a.1 a.2.1 a.2.2 from ha] at k3 ⊢
  exact ts_item (Nat.le_trans (by decide) h.hu) (sndE h x c e ke).1 (sndE h o c a.1 (and_l (and_r k))).1 (sndE h j c a.2.1 (and_r (and_r k))).1 (sw_of k3)
theorem sndT (h:Hs B u g) {t:Tgt} {t0:PE} (k:chkT B.P g c t t0 = true):TSt B u c t t0:=by
 cases t with
 | name i=>exact oS_el (o:=dName t0) k fun y e k=>e ▸ st_name (isNm_of k)
 | attr o f=>exact oS_el (o:=dAttr t0) k fun a e k=>have k1:=and_l k; e ▸ st_attr h.F (List.contains_iff_mem.mp (and_l k1)) (and_l (and_r k1)) (eq_of (and_r (and_r k1))) (sndE h o c a.1 (and_r k)).1
 | item o j=>exact oS_el (o:=dSub t0) k fun a e k=>e ▸ st_item (Nat.le_trans (by decide) h.hu) (sndE h o c a.1 (and_l k)).1 (sndE h j c a.2.1 (and_r k)).1
theorem sndTs (h:Hs B u g):∀ {ts:List Tgt} {es:List PE},chkTs B.P g c ts es = true→All2 (TSt B u c) ts es
 | [],es,k=>List.isEmpty_iff.mp k ▸ .nil
 | t :: ts,es,k=>oS_el (o:=dCons es) k fun w e k=>e ▸ .cons (sndT h (and_l k)) (sndTs h (and_r k))
theorem snd_mth (h:Hs B u g) {m:Mth} {y x:X} {o e:PE} {apos cpos pos:Pos} (hb:plainBase o = true) (hl:(apos.endLine == cpos.line) = true) (hst:isStarred e = false) (h1:TE B u c y (fun env=>eval o env)) (h2:TE B u c x (fun env=>eval e env)) :
  TS B u c (.mth m y x) (fun env=>exec (.Expr (.Call (.Attribute o (mthN m) apos) [e] [] cpos) pos) env):=by
 cases m with
 | app=>exact ts_mth ok_app PySem.F.plainAttrs_list PySem.F.slot_list_append PySem.F.type_list_append hb hl hst h1 h2
 | ext=>exact ts_mth ok_ext PySem.F.plainAttrs_list PySem.F.slot_list_extend PySem.F.type_list_extend hb hl hst h1 h2
 | upd=>exact ts_mth ok_upd PySem.F.plainAttrs_dict PySem.F.slot_dict_update PySem.F.type_dict_update hb hl hst h1 h2
 | rem=>exact ts_mth ok_rem PySem.F.plainAttrs_list PySem.F.slot_list_remove PySem.F.type_list_remove hb hl hst h1 h2
mutual
theorem sndS (h:Hs B u g):∀ (x:S) (s:Stmt),chkS B.P g x c s = true→TS B u c x (fun env=>exec s env)
 | .raise,s,k=>ts_raise
 | .ret x,s,k=>oS_el (o:=dRet s) k fun w e k=>e ▸ ts_ret (sndE h x c w.1 k).1
 | .expr x,s,k=>oS_el (o:=dExp s) k fun w e k=>e ▸ ts_expr (sndE h x c w.1 (and_r k)).1 (sw_of (and_l k))
 | .ite x a b,s,k=>oS_el (o:=dSIf s) k fun w e k=>e ▸ ts_ite (sndE h x c w.1 (and_l k)).2.1 (sndSs h a w.2.1 (and_l (and_r k))) (sndSs h b w.2.2.1 (and_r (and_r k)))
 | .while_ x b,s,k=>oS_el (o:=dWhi s) k fun w e k=>e ▸ List.isEmpty_iff.mp (and_l k) ▸ ts_while (sndE h x c w.1 (and_l (and_r k))).2.1 (sndSs h b w.2.1 (and_r (and_r k)))
 | .for_ tg src b,s,k=>oS_el (o:=dFor s) k fun w e k=>e ▸ List.isEmpty_iff.mp (and_l (and_l k)) ▸ ts_for (sndSrc h src c w.1 w.2.1 (and_l (and_r k))) (noSet_of (and_l (and_r (and_l k)))) (chkTg_of (and_r (and_r (and_l k)))) (sndSs h b w.2.2.1 (and_r (and_r k)))
 | .mth m o x,s,k=>oS_el (o:=dExp s) k fun w e k=>oS_el k fun v e1 k=>oS_el k fun a e2 k=>oS_el k fun f e3 k=>by
  have k1:=and_l k
  rw [e,e1,e2,e3,eq_of (and_l k1)]
  exact snd_mth h (and_l (and_r k1)) (and_l (and_r (and_r k1))) (of_not (and_r (and_r (and_r k1)))) (sndE h o c a.1 (and_l (and_r k))).1 (sndE h x c f (and_r (and_r k))).1
 | .asgT is x,s,k=>oS_el (o:=dAsg s) k fun w e k=>oS_el k fun t e1 k=>oS_el k fun es e2 k=>oS_el (and_r (and_r (and_l k))) fun r hr k2=>by
  have k1:=and_l (and_r (and_l k))
  rw [e2] at k1 hr
  rw [e,e1,e2]
  exact ts_asgT (chkNm_of (and_l (and_l k))) (sndE h x c w.2.1 (and_r k)).1 (sw_of k1) fun env he=>eq_of k2 ▸ ss_of hr env he
 | .asgTs b is xs,s,k=>oS_el (o:=dAsg s) k fun w e k=>oS_el k fun t e1 k=>oS_el k fun es e2 k=>oS_el k fun vs e3 k=>oS_el (and_r (and_r (and_l k))) fun r hr k2=>by
  have k1:=and_l (and_r (and_l k))
  have l:=of_decide_eq_true (and_l (and_l k))
  have r':=sndEs h xs c vs.1 (and_r k)
  rw [e2,e3] at k1 hr
  rw [e,e1,e2,e3]
  cases b with
  | false=>exact ts_asgTs (names:=[]) (chkNm_of (and_r k2)) (r'.tes _) l (sw_of k1) fun env he=>eq_of (and_l k2) ▸ ss_of hr env he
  | true=>cases r with
   | none=>exact nomatch k2
   | some ns=>exact ts_asgTs (chkNn_of k2) (r'.tes _) l (sw_of k1) fun env he=>ss_of hr env he
 | .asg t x,s,k=>oS_el (o:=dAsg s) k fun w e k=>e ▸ sndA h k
 | .asgM ts x,s,k=>oS_el (o:=dAsg s) k fun w e k=>oS_el k fun t e1 k=>oS_el k fun es e2 k=>oS_el (and_r (and_r (and_l k))) fun r hr k2=>by
  have k1:=and_l (and_r (and_l k))
  rw [e2] at k1 hr
  rw [e,e1,e2]
  exact ts_asgM (sndTs h (and_l (and_l k))) (sndE h x c w.2.1 (and_r k)).1 (sw_of k1) fun env he=>eq_of k2 ▸ ss_of hr env he
theorem sndSs (h:Hs B u g):∀ (xs:List S) (l:List Stmt),chkSs B.P g xs c l = true→TSs B u c xs (fun env=>execs l env)
 | [],l,k=>List.isEmpty_iff.mp k ▸ tss_nil
 | s :: ss,l,k=>oS_el (o:=dCons l) k fun w e k=>e ▸ tss_cons (sndS h s w.1 (and_l k)) (sndSs h ss w.2 (and_r k))
end
end
end Mine.Internal
namespace Mine.Internal
open PySem PySem.W PyProof.Rows
noncomputable section
noncomputable def oE {α:Type} (o:Option α):Option { a:α // o = some a }:=match o with
 | some a=>some ⟨a,rfl⟩
 | none=>none
noncomputable def dFun (d:Data):Option { f:FuncData // d = .func f }:=if h:d.ctorIdx = 7 then PySem.Data.func.elim (motive:=fun d=>Option { f:FuncData // d = .func f }) d h (fun f=>some ⟨f,rfl⟩) else none
noncomputable def dSts (b:FuncBody):Option { l:List Stmt // b = .stmts l }:=match b with
 | .stmts l=>some ⟨l,rfl⟩
 | _=>none
noncomputable def chkFn (P:Prog) (g:Gt) (names:List (Str × Nat)) (d:FDef) (fd:FuncData):Bool:=oS (dSts fd.body) fun body =>
 (fd.closure.isEmpty && (decide (fd.globals = mainGlobals) && (decide (fd.builtins = builtinsNs) && (!fd.scope.isCoroutine && (!fd.scope.isGenerator && (fd.scope.kind == .function && ((fd.scope.names.all fun x=>x.2 != .free) && decide (fd.scope.names.map (·.1)).Nodup))))))) &&
 ((fd.params.posonlyargs.isEmpty && (fd.params.kwonlyargs.isEmpty && (fd.params.vararg.isNone && (fd.params.kwarg.isNone && (decide (fd.defaults = .none) &&
 (decide (fd.params.args.length = d.params) && (decide (fd.params.args.map (·.arg)).Nodup && (((fd.params.args.map (·.arg)).all fun x=>fd.scope.names.lookup x == some .local || fd.scope.names.lookup x == some .cell) &&
 (names.all fun q=>decide (d.params≤q.2) || (fd.params.args.map (·.arg))[q.2]? == some q.1))))))))) && chkSs P g d.body ⟨names,fd.scope,allOwn⟩ body)
noncomputable def chkAt (P:Prog) (g:Gt) (K:Frag) (names:List (Str × Nat)) (a:Addr) (d:FDef):Bool:=oS (oE (K.lookup a)) fun o=>oS (dFun o.data) fun fd=>codeIn K fd.code fd.qualname && chkFn P g names d fd
end
theorem lookup_zip {β:Type}:∀ {ns:List Str} {vs:List β} (n:Str),n∈ns→vs.length = ns.length→((ns.zip vs).lookup n).isSome = true
 | x :: ns,v :: vs,n,h,hl=>by
  rw [List.zip_cons_cons,List.lookup_cons]
  cases e:n == x with
  | true=>rfl
  | false=>exact lookup_zip n ((List.mem_cons.mp h).elim (fun h=>absurd h (beq_eq_false_iff_ne.mp e)) id) (Nat.succ.inj hl)
theorem fmap_same {α β:Type} {f g:α→Option β}:∀ {l:List α},(∀ x∈l,f x = g x)→l.filterMap f = l.filterMap g
 | [],_=>rfl
 | x :: l,h=>by rw [List.filterMap_cons,List.filterMap_cons,h x (List.mem_cons_self ..),fmap_same fun y hy=>h y (List.mem_cons_of_mem _ hy)]
theorem zip_lookup {β:Type}:∀ {ns:List Str} {vs:List β},ns.Nodup→vs.length = ns.length→(ns.filterMap fun n=>((ns.zip vs).lookup n).map (n,·)) = ns.zip vs
 | [],[],_,_=>rfl
 | x :: ns,v :: vs,hn,hl=>by
  have hn:=List.nodup_cons.mp hn
  rw [List.zip_cons_cons,List.filterMap_cons,List.lookup_cons,BEq.rfl]
  refine congrArg ((x,v) :: ·) (Eq.trans (fmap_same fun y hy=>?_) (zip_lookup hn.2 (Nat.succ.inj hl)))
  rw [List.lookup_cons,show (y == x) = false from beq_eq_false_iff_ne.mpr fun e=>hn.1 (e ▸ hy)]
theorem bind_at0 {name qual:Str} {ar:List Arg} {ka:List (Option PE)} {dfl:List PE} {bd:FuncBody} {sc:Scope} {gl:Addr} {cl:List (Str × Addr)} {kd doc pm code ct:PV} {an:Option Addr} {bi:Addr} (hn:(ar.map (·.arg)).Nodup) {vals:List PV} (hl:vals.length = (ar.map (·.arg)).length) :
  bindArgs ⟨name,qual,⟨[],ar,none,[],ka,none,dfl⟩,bd,sc,gl,cl,.none,kd,doc,pm,an,code,ct,bi⟩ ⟨vals,[]⟩ = pure ((ar.map (·.arg)).zip vals):=by
 have e1:(decide (vals.length > (ar.map (·.arg)).length) && true) = true→False:=by rw [hl,Bool.and_true]; exact fun h=>Nat.lt_irrefl _ (of_decide_eq_true h)
 have hm:((ar.map (·.arg)).filter fun n=>(((ar.map (·.arg)).zip vals).lookup n).isNone) = []:=List.filter_eq_nil_iff.mpr fun n h e=>nomatch (Option.isNone_iff_eq_none.mp e ▸ lookup_zip n h hl:(none:Option PV).isSome = true)
 have e2:∀ k,(!(((ar.map (·.arg)).take ((ar.map (·.arg)).length - (List.drop k ([]:List PV)).length)).filter fun n=>(((ar.map (·.arg)).zip vals).lookup n).isNone).isEmpty) = true→False:=fun k=>by
  rw [List.drop_nil,List.length_nil,Nat.sub_zero,List.take_length,hm]; exact Bool.false_ne_true
 have e3:∀ (l:List Str) (k:Nat),l.zip (List.drop k ([]:List PV)) = []:=fun l k=>by rw [List.drop_nil,List.zip_nil_right]
 refine Eq.trans (if_neg e1) (Eq.trans (if_neg (e2 _)) ?_)
 show (forIn (List.zip (List.drop _ _) (List.drop _ ([]:List PV))) _ _ >>= _) = _
 rw [e3]
 exact congrArg (Sem.pure (α:=List (Str × PV))) ((congrArg (List.filterMap fun n=>(((ar.map (·.arg)).zip vals).lookup n).map (n,·)) (List.append_nil (ar.map (·.arg)))).trans (zip_lookup hn hl))
theorem bind_is {fd:FuncData} (h1:fd.params.posonlyargs = []) (h2:fd.params.kwonlyargs = []) (h3:fd.params.vararg = none) (h4:fd.params.kwarg = none) (h5:fd.defaults = .none)
  (hn:(fd.params.args.map (·.arg)).Nodup) {vals:List PV} (hl:vals.length = fd.params.args.length):bindArgs fd ⟨vals,[]⟩ = pure ((fd.params.args.map (·.arg)).zip vals):=by
 obtain ⟨_,_,⟨po,ar,va,ko,_,kw,_⟩,_,_,_,_,df,_,_,_,_,_,_,_⟩:=fd
 subst h1 h2 h3 h4 h5
 exact bind_at0 hn (hl.trans (List.length_map ..).symm)
section
variable {B:Bd} {u:Nat} {g:Gt}
theorem fn_at (h:Hs B u g) (hu:u≤90) {f:Nat} {d:FDef} {names:List (Str × Nat)} (k:chkAt B.P g B.D.K names (B.D.fa f) d = true):FnGo B f d:=by
 obtain ⟨o,ho,k⟩:=oS_of k
 obtain ⟨fd,hd,k⟩:=oS_of k
 obtain ⟨body,hb,k2⟩:=oS_of (and_r k)
 have a:=and_l k2
 have b:=and_l (and_r k2)
 have a3:=and_r (and_r (and_r a))
 have b3:=and_r (and_r (and_r b))
 have b6:=and_r (and_r b3)
 have b8:=and_r (and_r b6)
 have nf:=List.all_eq_true.mp (and_l (and_r (and_r (and_r a3))))
 have pk:=List.all_eq_true.mp (and_l b8)
 have nm:=List.all_eq_true.mp (and_r b8)
 have pl:fd.params.args.length = d.params:=of_decide_eq_true (and_l b6)
 have pn:(fd.params.args.map (·.arg)).Nodup:=of_decide_eq_true (and_l (and_r b6))
 exact call_fn h.F (u:=u) (names:=names) (ps:=fd.params.args.map (·.arg)) (fd:=fd) (body:=body) ⟨hu,⟨o,ho,hd⟩,and_l k,hb,List.isEmpty_iff.mp (and_l a),of_decide_eq_true (and_l (and_r a)),of_decide_eq_true (and_l (and_r (and_r a))),of_not (and_l a3),of_not (and_l (and_r a3)),eq_of (and_l (and_r (and_r a3))),
  fun x e=>absurd rfl (bne_iff_ne.mp (nf _ (mem_of_lookup e))),of_decide_eq_true (and_r (and_r (and_r (and_r a3)))),by rw [List.length_map,pl],pn,fun x hx=>(Bool.or_eq_true_iff.mp (pk x hx)).imp eq_of eq_of,
  fun vals hv=>bind_is (List.isEmpty_iff.mp (and_l b)) (List.isEmpty_iff.mp (and_l (and_r b))) (Option.isNone_iff_eq_none.mp (and_l (and_r (and_r b)))) (Option.isNone_iff_eq_none.mp (and_l b3)) (of_decide_eq_true (and_l (and_r b3))) pn (by rw [hv,pl]),
  fun x i e=>(Bool.or_eq_true_iff.mp (nm _ (mem_of_lookup e))).imp of_decide_eq_true eq_of,sndSs h d.body body (and_r (and_r k2))⟩
end
end Mine.Internal
namespace Mine.Internal
open PySem PySem.W PyProof.Rows
noncomputable section
noncomputable def clsB (K:Frag) (C:Addr):Bool :=
 findIn K (.ref C) "__getattribute__" == some (some (.builtin "object.__getattribute__")) && (findIn K (.ref C) "__getattr__" == some none && (findIn K (.ref C) "__setattr__" == some (some (.builtin "object.__setattr__")) &&
  (plainOver K C && ((clsIn K C).any (·.hasDict) && ((clsIn K C).isSome && (makesIn K C && keepIn K (.ref C)))))))
noncomputable def factB (K:Frag) (P:Prog) (g:Gt) (fa ca:Nat→Addr) (nc:Nat) (live:List Nat):Bool :=
 (g.fns.all fun p=>nsIn K mainGlobals p.1 == some (some (.ref (fa p.2)))) && ((live.all fun i=>keepIn K (.ref (fa i))) && ((g.clss.all fun p=>nsIn K mainGlobals p.1 == some (some (.ref (ca p.2))) && decide (p.2 < nc)) &&
 (((List.range nc).all fun i=>clsB K (ca i)) && ((g.flds.all fun x=>(List.range nc).all fun i=>fldIn K (ca i) x) &&
 ((g.mths.all fun x=>(List.range nc).all fun i=>(P.meth i (encS x)).all fun f=>findIn K (.ref (ca i)) x == some (some (.ref (fa f))) && (typeIn K (.ref (fa f)) == some (.type "function") && (P.fn f).isSome)) &&
 ((List.range nc).all fun i=>(P.init i).all fun f=>findIn K (.ref (ca i)) "__init__" == some (some (.ref (fa f))) && typeIn K (.ref (fa f)) == some (.type "function")))))))
noncomputable def vRef (v:PV):Option { a:Addr // v = .ref a }:=if h:v.ctorIdx = 10 then PySem.Value.ref.elim (motive:=fun v=>Option { a:Addr // v = .ref a }) v h (fun a=>some ⟨a,rfl⟩) else none
noncomputable def vInt (v:PV):Option { w:Int × Tok // v = .int w.1 w.2 }:=if h:v.ctorIdx = 4 then PySem.Value.int.elim (motive:=fun v=>Option { w:Int × Tok // v = .int w.1 w.2 }) v h (fun i t=>some ⟨(i,t),rfl⟩) else none
noncomputable def vStr (v:PV):Option { w:Str × Tok // v = .str w.1 w.2 }:=if h:v.ctorIdx = 6 then PySem.Value.str.elim (motive:=fun v=>Option { w:Str × Tok // v = .str w.1 w.2 }) v h (fun i t=>some ⟨(i,t),rfl⟩) else none
noncomputable def dSeq (d:Data):Option { w:Array PV × Nat // d = .seq w.1 w.2 }:=if h:d.ctorIdx = 2 then PySem.Data.seq.elim (motive:=fun d=>Option { w:Array PV × Nat // d = .seq w.1 w.2 }) d h (fun a n=>some ⟨(a,n),rfl⟩) else none
mutual
noncomputable def rvB (K:Frag):V→PV→Bool
 | .none,v=>v == .none
 | .bool b,v=>v == .bool b
 | .int i,v=>oS (vInt v) fun w=>decide (w.1 = i)
 | .str z,v=>oS (vStr v) fun w=>strOk w.1 && encS w.1 == z
 | .tup l,v=>oS (vRef v) fun a=>oS (oE (K.lookup a)) fun o=>oS (dSeq o.data) fun w=>(o.cls == .type "tuple" && (o.dict.isNone && o.slots.isEmpty)) && rvsB K l w.1.toList
 | _,_=>false
noncomputable def rvsB (K:Frag):List V→List PV→Bool
 | [],vs=>vs.isEmpty
 | d :: r,vs=>oS (dCons vs) fun w=>rvB K d w.1 && rvsB K r w.2
end
end
theorem clsB_of {K:Frag} {C:Addr} (h:clsB K C = true):ClsOk K C:=by
 have h3:=and_r (and_r (and_r h))
 exact ⟨eq_of (and_l h),eq_of (and_l (and_r h)),eq_of (and_l (and_r (and_r h))),and_l h3,and_l (and_r h3),and_l (and_r (and_r h3)),and_l (and_r (and_r (and_r h3))),and_r (and_r (and_r (and_r h3)))⟩
theorem facts_of {B:Bd} {g:Gt} {live:List Nat} (X:B.D.K.In B.D.base) (lim:B.D.base.NoLimit) (hl:∀ i,(B.P.fn i).isSome = true→i∈live) (hm:∀ i k f,B.P.meth i k = some f→i < B.D.nc)
  (k:factB B.D.K B.P g B.D.fa B.D.ca B.D.nc live = true) (co:∀ x k,g.consts.lookup x = some k→∀ d,B.P.glob k = some d→∃ v,nsIn B.D.K mainGlobals x = some (some v)∧∀ N,Sm B.D N→Val B N d v):Facts B g:=by
 have k3:=and_r (and_r (and_r k))
 have al:∀ {α:Type} {l:List α} {f:α→Bool},l.all f = true→∀ a∈l,f a = true:=fun h=>List.all_eq_true.mp h
 have alo:∀ {o:Option Nat} {f:Nat→Bool},o.all f = true→∀ a,o = some a→f a = true:=fun h a e=>by subst e; exact h
 exact ⟨X,lim,fun x i h=>eq_of (al (and_l k) _ (mem_of_lookup h)),fun i h=>al (and_l (and_r k)) i (hl i h),fun x i h=>have w:=al (and_l (and_r (and_r k))) _ (mem_of_lookup h); ⟨eq_of (and_l w),of_decide_eq_true (and_r w)⟩,
  fun i h=>clsB_of (al (and_l k3) i (List.mem_range.mpr h)),fun x hx i hi=>al (al (and_l (and_r k3)) x hx) i (List.mem_range.mpr hi),
  fun x hx i f hf=>have hi:=hm i _ f hf
   have w:=alo (al (al (and_l (and_r (and_r k3))) x hx) i (List.mem_range.mpr hi)) f hf
   ⟨hi,eq_of (and_l w),eq_of (and_l (and_r w)),and_r (and_r w)⟩,
  fun i f hf hi=>have w:=alo (al (and_r (and_r (and_r k3))) i (List.mem_range.mpr hi)) f hf
   ⟨eq_of (and_l w),eq_of (and_r w)⟩,co⟩
section
variable {D:Wd} {N:Nx}
mutual
theorem rvB_of (X:D.K.In D.base) (m:Sm D N):∀ (d:V) (v:PV),rvB D.K d v = true→RV D N d v
 | .none,v,e=>eq_of e
 | .bool b,v,e=>eq_of e
 | .int i,v,e=>oS_el (o:=vInt v) e fun w h e=>⟨w.2,of_decide_eq_true e ▸ h⟩
 | .str z,v,e=>oS_el (o:=vStr v) e fun w h e=>⟨w.1,w.2,h,and_l e,eq_of (and_r e)⟩
 | .tup l,v,e=>oS_el (o:=vRef v) e fun a h e=>oS_el e fun o ho e=>oS_el e fun w hw e=>by
  have e1:=and_l e
  have ho:=X a o ho
  refine ⟨a,w.1,h,m.cs a (by rw [ho]; rfl),⟨w.2,(m.gi a o ho).trans (congrArg some ?_)⟩,rvsB_of X m l _ (and_r e)⟩
  obtain ⟨c,d,dt,sl⟩:=o
  rw [show c = .type "tuple" from eq_of (and_l e1),show d = none from Option.isNone_iff_eq_none.mp (and_l (and_r e1)),show dt = .seq w.1 w.2 from hw,show sl = #[] from Array.isEmpty_iff.mp (and_r (and_r e1))]
 | .list _,v,e=>absurd e Bool.false_ne_true
 | .dict _,v,e=>absurd e Bool.false_ne_true
 | .loc _,v,e=>absurd e Bool.false_ne_true
theorem rvsB_of (X:D.K.In D.base) (m:Sm D N):∀ (d:List V) (v:List PV),rvsB D.K d v = true→RVs D N d v
 | [],v,e=>List.isEmpty_iff.mp e
 | d :: r,v,e=>oS_el (o:=dCons v) e fun w h e=>⟨w.1,w.2,h,rvB_of X m d _ (and_l e),rvsB_of X m r _ (and_r e)⟩
end
noncomputable def mkEs (p:Params) (ts:List (Str × Tok × PV)):List DictEntry:=ts.map fun t=>⟨PyData.keyHash p t.1,.str t.1 t.2.1,t.2.2⟩
noncomputable def rvdB (K:Frag) (l:List (Nat × V)) (ts:List (Str × Tok × PV)):Bool:=ts.length == l.length && (l.zip ts).all fun q=>strOk q.2.1 && (encS q.2.1 == q.1.1 && rvB K q.1.2 q.2.2.2)
theorem rvdB_of (X:D.K.In D.base) (m:Sm D N):∀ (l:List (Nat × V)) (ts:List (Str × Tok × PV)),rvdB D.K l ts = true→RVd D N (l.map fun q=>(.str q.1,q.2)) (ts.map fun t=>(t.1,t.2.2))
 | [],[],e=>rfl
 | [],_ :: _,e=>nomatch and_l e
 | _ :: _,[],e=>nomatch and_l e
 | q :: l,t :: ts,e=>have w:=and_r e
  ⟨t.1,t.2.2,_,rfl,⟨by rw [eq_of (and_l (and_r (and_l w)))],and_l (and_l w)⟩,rvB_of X m q.2 _ (and_r (and_r (and_l w))),rvdB_of X m l ts (by
   show (ts.length == l.length && _) = true
   rw [show (ts.length == l.length) = true from beq_iff_eq.mpr (Nat.succ.inj (eq_of (and_l e)))]; exact and_r w)⟩
theorem pairs_mk {p:Params}:∀ ts:List (Str × Tok × PV),Pairs (strKind D.prog D.w) (mkEs p ts) (ts.map fun t=>(t.1,t.2.2))
 | []=>.nil
 | t :: ts=>.cons (strKind_is D.prog D.w t.1 t.2.1) rfl (pairs_mk ts)
theorem rv_dict (X:D.K.In D.base) (m:Sm D N) {a n:Nat} {ts:List (Str × Tok × PV)} {l:List (Nat × V)} (ho:D.K.lookup a = some ⟨.type "dict",none,.dict (mkEs D.w.params ts).toArray n,#[]⟩) (ha:1 < a) (hn:(ts.map (·.1)).Nodup) (e:rvdB D.K l ts = true) :
  RV D N (.dict (l.map fun q=>(.str q.1,q.2))) (.ref a):=by
 have ho:=X _ _ ho
 refine ⟨a,ts.map fun t=>(t.1,t.2.2),rfl,m.cs a (by rw [ho]; rfl),⟨ha,_,_,_,m.gi a _ ho,⟨rfl,rfl,rfl⟩,rfl,fun en he=>?_,pairs_mk ts,by rw [List.map_map]; exact hn⟩,rvdB_of X m l ts e⟩
 obtain ⟨t,ht,rfl⟩:=List.mem_map.mp (List.mem_toArray.mp he)
 exact ⟨t.1,strKind_is D.prog D.w t.1 t.2.1,rfl⟩
end
theorem bi_of {K:Frag} {mb:Str→Option PV} {h:Heap} {ob:Obj} (hob:h.get? builtinsNs = some ob) (hb:h.Ns builtinsNs mb) {x:Str} {v:PV} (e:mb x = some v):nsIn ((builtinsNs,ob) :: K) builtinsNs x = some (some v):=by
 obtain ⟨o,es,ep,ho,hd,_,hf⟩:=hb
 rw [hob] at ho
 cases ho
 have hx:=hf x
 rw [e] at hx
 delta nsFind findBy at hx
 rw [← Array.find?_toList] at hx
 delta nsIn
 rw [List.lookup_cons,BEq.rfl]
 obtain ⟨oc,od,odt,osl⟩:=ob
 cases hd
 dsimp only
 cases e1:es.toList.find? (fun d=>d.key.isStr x) with
 | some d=>rw [e1] at hx; exact congrArg some hx
 | none=>rw [e1] at hx; cases hx
end Mine.Internal
namespace Mine.Internal
open PySem PySem.W PyProof.Rows
section
variable {B:Bd} {g:Gt}
theorem super_go {ps:List Str} {f f2 c1:Nat} {d:FDef} {fd:FuncData} {names:List (Str × Nat)} {q0 q1 ap cp pe:Pos} {es:List PE} {rest:List Stmt} {xs:List X} {ss:List S} {cc cda:Addr} {oc ocd:Obj} {ar:Arg} {cd:ClassData} {vs0:Array PV} {file:Str} {tf:Tok} (h:Hs B 40 g)
  (hK:∃ o,B.D.K.lookup (B.D.fa f) = some o∧o.data = .func fd) (hcode:codeIn B.D.K fd.code fd.qualname = true) (hb:fd.body = .stmts (.Expr (.Call (.Attribute (.Call (.Name "super" q0) [] [] q1) "__init__" ap) es [] cp) pe :: rest))
  (hd:d.body = .expr (.meth (.var 0) 0 xs) :: ss) (hln:(ap.endLine == cp.line) = true) (hel:es.length < 29) (hes:chkEs B.P g xs ⟨names,fd.scope,allOwn⟩ es = true) (hss:chkSs B.P g ss ⟨names,fd.scope,allOwn⟩ rest = true) (hclo:fd.closure = [(("__class__":Str),cc)])
  (hgl:fd.globals = mainGlobals) (hbi:fd.builtins = builtinsNs) (hco:fd.scope.isCoroutine = false) (hgen:fd.scope.isGenerator = false) (hk:fd.scope.kind = .function) (hnc:∀ x∈fd.scope.names,x.2 ≠ .cell) (hfr:∀ x∈fd.scope.names,x.2 = .free→x.1 = ("__class__":Str))
  (hpl:ps.length = d.params) (hpn:ps.Nodup) (hlo:∀ x∈ps,fd.scope.names.lookup x = some .local) (hbind:∀ vals:List PV,vals.length = d.params→bindArgs fd ⟨vals,[]⟩ = pure (ps.zip vals))
  (hpo:fd.params.posonlyargs = []) (hnm:∀ x i,names.lookup x = some i→d.params≤i ∨ ps[i]? = some x) (har:fd.params.args.head? = some ar) (hmp:ar.arg∈ps) (hv0:names.lookup ar.arg = some 0) (hks:fd.scope.names.lookup ("super":Str) = some .globalImplicit) (hkc:fd.scope.names.lookup ("__class__":Str) = some .free)
  (hm:∀ i f',B.P.meth i 0 = some f'→i = c1∧f' = f2) (hcc:B.D.K.lookup cc = some oc) (hoc:oc.data = .cell (some (.ref (B.D.ca c1)))) (hcl:clsIn B.D.K (B.D.ca c1) = some cd) (hmro:mroIn B.D.K (B.D.ca c1) (.ref (B.D.ca c1)) = some true)
  (hal:alongIn B.D.K "__init__" ((cd.mro.dropWhile (· != .ref (B.D.ca c1))).drop 1) = some (some (.ref (B.D.fa f2)))) (hty:typeIn B.D.K (.ref (B.D.fa f2)) = some (.type "function")) (hfn:fnIn B.D.K (B.D.fa f2) = true) (hno:nsIn B.D.K cStatics "thirdparty.any" = some none)
  (hg:nsIn B.D.K mainGlobals "super" = some none) (hbt:nsIn B.D.K builtinsNs "super" = some (some (.type "super"))) (hcd:fd.code = .ref cda) (hcv:B.D.K.lookup cda = some ocd) (hcw:ocd.data = .fields vs0) (hv2:vs0[2]? = some (.str file tf)) (hfile:((B.D.prog.main.file:Str) == file) = true)
  (htop:(B.D.prog.main.scope.names.lookup ("super":Str)).isSome = false):FnGo B f d:=fun A N ds vs K R hl q rm sm rs z=>by
 obtain ⟨of0,hK,hdt⟩:=hK
 have X:=h.F.x sm
 have hvl:vs.length = d.params:=(RVs_length rs).trans hl
 have hal':ps.length = d.params:=hpl
 have hzip:(ps.zip vs).map (·.1) = ps:=List.map_fst_zip (Nat.le_of_eq (hal'.trans hvl.symm))
 have mem_ps:∀ x∈ps.zip vs,x.1∈ps:=fun x hx=>hzip ▸ List.mem_map.mpr ⟨x,hx,rfl⟩
 refine ks_codeAny_call_defAt (o:=of0) (fd:=fd) (binds:=ps.zip vs) rm.lt (X _ _ hK) hdt (h.F.lim.keeps sm.gi) (codeRec_of X hcode) hb (BindsTo.of_eq (hbind vs hvl)) hnc (fun x hx=>hlo _ (mem_ps x hx)) (fun h₀ hns hk₀=>?_) hco hgen hk
 have hcells:(callEnv fd N.s.heap.objs.size (B.D.fa f)).cells = fd.closure:=rfl
 have hscope:(callEnv fd N.s.heap.objs.size (B.D.fa f)).scope = fd.scope:=rfl
 have hloc:(callEnv fd N.s.heap.objs.size (B.D.fa f)).locals = N.s.heap.objs.size:=rfl
 have hframe:(callEnv fd N.s.heap.objs.size (B.D.fa f)).frame = some N.s.heap.objs.size:=rfl
 have hglob:(callEnv fd N.s.heap.objs.size (B.D.fa f)).globals = fd.globals:=rfl
 have hbuil:(callEnv fd N.s.heap.objs.size (B.D.fa f)).builtins = fd.builtins:=rfl
 have hfunc:(callEnv fd N.s.heap.objs.size (B.D.fa f)).func = some (B.D.fa f):=rfl
 have hcode':(callEnv fd N.s.heap.objs.size (B.D.fa f)).code = fd.code:=rfl
 generalize callEnv fd N.s.heap.objs.size (B.D.fa f) = env at *
 have hkd:∀ x,env.kindOf x = fd.scope.names.lookup x:=fun x=>congrArg (fun s:Scope=>s.names.lookup x) hscope
 have hkind:env.scope.kind = .function:=(congrArg Scope.kind hscope).trans hk
 have hint:interactive env = false:=by delta interactive; rw [hkind]; rfl
 have m:More N { N.s with heap:=h₀,toks:=N.s.toks + (ps.zip vs).length }:=⟨hk₀,rfl,rfl⟩
 have af:=m.aft sm
 have nl:¬ N.has env.locals:=by rw [hloc]; exact no_new
 have pl:Pv (N.at { N.s with heap:=h₀,toks:=N.s.toks + (ps.zip vs).length }) env.locals:=(Ns_has hns).elim fun o e=>m.pv sm nl (by rw [hloc]; exact e)
 have X₀:B.D.K.In h₀:=h.F.x (B:=B) (N:=N.at _) af.sm
 have bse:∀ {a o},B.D.K.lookup a = some o→¬ chg N.μ a:=fun {a o} e ⟨p,hp,e2⟩=>nomatch (sm.new p hp).symm.trans ((congrArg B.D.base.get? e2).trans (h.F.X a o e))
 have gs:Gs B 40 ⟨names,fd.scope,allOwn⟩ ⟨env,A.deeper env,enter d ds⟩ (N.at { N.s with heap:=h₀,toks:=N.s.toks + (ps.zip vs).length }):=by
  refine ⟨⟨rm.deep (by decide),⟨hscope,hkind,hglob.trans hgl,hbuil.trans hbi,⟨pl.lt,pl.nc⟩,fun q hq=>?_,by rw [hframe]; rfl,fun x hx=>?_⟩,fun x i d' h1' h2' h3'=>?_,af.sm⟩,
   fun b f=>f.elim (fun e=>by rw [e]; exact pl) fun ⟨x,e,_⟩=>absurd rfl (hnc _ (mem_of_lookup e.2)),⟨_,by rw [hloc]; exact hns⟩,fun x _ hx=>absurd rfl (hnc _ (mem_of_lookup hx)),fun x y b _ hx=>absurd rfl (hnc _ (mem_of_lookup hx))⟩
  ·rw [hcells,hclo,List.mem_singleton] at hq
   rw [hq]
   exact ⟨has_of (X₀ _ _ hcc),bse hcc⟩
  ·rw [hcells,hclo]
   refine hx.elim (fun hx=>absurd rfl (hnc _ (mem_of_lookup hx))) fun hx=>?_
   rw [show x = ("__class__":Str) from hfr _ (mem_of_lookup hx) rfl]; rfl
  ·have hd:=enter_get h3'
   have hi:i < d.params:=hl ▸ (List.getElem?_eq_some_iff.mp hd).1
   have hpx:=(hnm x i h1').resolve_left (Nat.not_le.mpr hi)
   obtain ⟨v,hv,rv⟩:=RVs_get rs hd
   have hm:(x,v)∈ps.zip vs:=List.mem_of_getElem? (i:=i) (by rw [List.getElem?_zip_eq_some]; exact ⟨hpx,hv⟩)
   exact ⟨v,.inl ⟨(hkd x).trans (hlo x (mem_ps _ hm)),_,by rw [hloc]; exact hns,lookup_of (by rw [List.map_reverse,hzip]; exact ((List.reverse_perm _).nodup_iff).mpr hpn) (List.mem_reverse.mpr hm)⟩,RV_le af.le _ _ rv⟩
 have nF:∀ b,Fr ⟨names,fd.scope,allOwn⟩ env b→¬ N.has b:=fun b f=>f.elim (fun e=>by rw [e]; exact nl) fun ⟨x,e,_⟩=>absurd rfl (hnc _ (mem_of_lookup e.2))
 have done:∀ {Y},Aft B.D (N.at { N.s with heap:=h₀,toks:=N.s.toks + (ps.zip vs).length }) (Fr ⟨names,fd.scope,allOwn⟩ env) Y→Aft B.D N noA Y:=fun a=>(af.up.trans a).hide nF
 rw [hd] at q
 -- self
 refine oK_of (show oK (((enter d ds)[0]?).bind id) _ from q) fun dself e0 q=>?_
 have e0:=var_of e0
 have hlar:fd.scope.names.lookup ar.arg = some .local:=hlo _ hmp
 obtain ⟨v0,at0,r0⟩:=gs.go.fe ar.arg 0 dself hv0 (by rw [hkd,hlar]; rfl) e0
 cases dself with
 | loc k =>
  obtain ⟨p,rfl,hp⟩:=id r0
  refine (st_of (f:=fun o=>oK (methO B.P k 0 o) _) gs.go.sm hp q id).elim fun o w=>?_
  obtain ⟨q,ho,hst⟩:=w
  cases o with
  | inst ci fs =>
   cases eg:getA fs 0 with
   | some _=>rw [methO,eg] at q; exact False.elim q
   | none =>
   rw [methO,eg] at q
   refine oK_of (oK_map q) fun f' e2 q=>?_
   obtain ⟨rfl,rfl⟩:=hm _ _ e2
   obtain ⟨od,mm,I⟩:=ins_at (B:=B) ho
   obtain ⟨mL,nsL,emL⟩:∃ mm,h₀.Ns env.locals mm∧mm ar.arg = some (.ref p.1):=at0.elim (fun w=>w.2) fun w=>w.1.elim (fun e=>nomatch (e.symm.trans ((hkd _).trans hlar))) fun e=>nomatch (e.symm.trans ((hkd _).trans hlar))
   obtain ⟨oD,hD1,hD2⟩:∃ oD,h₀.get? (B.D.ca ci) = some oD∧oD.data = .cls cd:=by
    have:=hcl
    unfold clsIn at this
    split at this
    ·rename_i ho; cases this; exact ⟨_,X₀ _ _ ho,rfl⟩
    ·cases this
   have as:=sndEs h xs ⟨names,fd.scope,allOwn⟩ es hes
   refine ks_wpAt_execs_cons (ks_wpAt_Expr_any (ks_wpAt_MethodCall (ks_wpAt_super_base (fd:=fd) (ar:=ar) ((hkd _).trans hks) ((hkd _).trans hkc) (by decide +kernel) hfunc (X₀ _ _ hK) hdt (by rw [hpo]; exact har) (hcode'.trans hcd) (X₀ _ _ hcv) hcw hv2 hfile htop ?_) (eval_methB hln hel as.2)) hint rfl)
   refine load_blt (G:=⟨env,A.deeper env,enter d ds⟩) (N:=N.at { N.s with heap:=h₀,toks:=N.s.toks + (ps.zip vs).length }) gs.go h.F hks hg hbt ⟨rfl,?_⟩
   refine wpAny_loadName_free hkind ((hkd _).trans hkc) (by rw [hcells,hclo]; rfl) ⟨_,X₀ _ _ hcc,hoc⟩ ?_
   refine wpAny_loadName_local hkind ((hkd _).trans hlar) nsL emL ?_
   refine ks_wpAny_isType_cls hD1 hD2 ⟨rfl,?_⟩
   refine ks_wpAny_call_super hD1 hD2 I.at_.at_ I.at_.cls (fun c e=>?_) (looks_mroIn X₀ hmro) (fun h1 e1 k1=>?_)
   ·have:=I.at_.no
    unfold notCls at this
    rw [e] at this
    exact Bool.noConfusion this
   have m1:More (N.at { N.s with heap:=h₀,toks:=N.s.toks + (ps.zip vs).length }) { N.s with heap:=h1.push (methodObj (.ref (B.D.fa f')) (.ref p.1)),toks:=N.s.toks + (ps.zip vs).length + 1 }:=⟨fun b o e=>Heap.get?_push_of_some _ (k1 b o e),rfl,rfl⟩
   have X1:=X₀.keeps k1
   obtain ⟨off,hof,hofc⟩:∃ of,h1.get? (B.D.fa f') = some of∧of.cls = .type "function":=by
    have ht':(B.D.K.lookup (B.D.fa f')).map (·.cls) = some (.type "function"):=hty
    cases z:B.D.K.lookup (B.D.fa f') with
    | none=>rw [z] at ht'; cases ht'
    | some of=>rw [z] at ht'; exact ⟨of,X1 _ _ z,Option.some.inj ht'⟩
   have hne:p.1 ≠ B.D.ca ci:=fun e=>by
    have h2:=I.at_.at_
    rw [e] at h2
    have h3:oD = _:=Option.some.inj (hD1.symm.trans h2)
    have:=I.at_.no
    unfold notCls at this
    rw [← h3,hD2] at this
    exact Bool.noConfusion this
   refine ks_wpAny_getMethod_super e1 (looks_opaque X1 hno) (l₀:=cd.mro) (fun A Q E s k q=>wpAny_bind ((looks_clsIn X1 hcl) A _ E s k (wpAny_pure q))) rfl X1 hal hof hofc hne (by decide +kernel) ?_
   have n1:¬ (N.at { N.s with heap:=h₀,toks:=N.s.toks + (ps.zip vs).length }).has h1.objs.size:=fun hh=>(Option.isSome_iff_exists.mp hh).elim fun o e=>Nat.lt_irrefl _ (Heap.lt_size (k1 _ _ e))
   have hq0:(h1.push (methodObj (.ref (B.D.fa f')) (.ref p.1))).get? h1.objs.size = some (methodObj (.ref (B.D.fa f')) (.ref p.1)):=Heap.get?_push_size _ rfl
   have a1:=m1.aft gs.go.sm
   have pq:=m1.pv gs.go.sm n1 hq0
   refine callWith_gen (G:=⟨env,A.deeper env,enter d ds⟩) (N:=N.at { N.s with heap:=h1.push (methodObj (.ref (B.D.fa f')) (.ref p.1)),toks:=N.s.toks + (ps.zip vs).length + 1 }) (Pp:=MethP B.D.K h1.objs.size (B.D.fa f') (.ref p.1)) (keeps_M hfn) as.2 ?_
   refine as.tes cp ⟨env,A.deeper env,enter d ds⟩ (N.at { N.s with heap:=h1.push (methodObj (.ref (B.D.fa f')) (.ref p.1)),toks:=N.s.toks + (ps.zip vs).length + 1 }) _ _ _ (gs.go.to a1) q fun ds2 Y vs3 q2 _ a3 rv3=>?_
   have hq3:=a3.old pq.nc hq0
   refine ⟨⟨hq3,h.F.x a3.sm⟩,wpAny_call (method_call hq3 ((h.T (A.deeper env) Y _ _ _ _ q2 gs.go.rm.zero a3.sm ⟨_,_,rfl,Val.on a3 (Val.on a1 r0),rv3⟩).2 _ fun d4 Z v4 q4 a4 rv4=>?_))⟩
   have a14:=(a1.trans a3).trans a4
   exact wpAt_of_wpAny (sndSs h ss rest hss ⟨env,A.deeper env,enter d ds⟩ Z _ _ _ (gs.to a14) q4 ⟨fun ρ Y k a _=>z .none Y .none k (done (a14.up.trans a)) rfl,fun d Y v k a r=>z d Y v k (done (a14.up.trans a)) r⟩)
  | _=>exact False.elim q
 | _=>exact False.elim q
end
end Mine.Internal
namespace Mine.Internal
open PySem PySem.W PyProof.Rows
noncomputable section
noncomputable def dCel (d:Data):Option { v:Option PV // d = .cell v }:=if h:d.ctorIdx = 6 then PySem.Data.cell.elim (motive:=fun d=>Option { v:Option PV // d = .cell v }) d h (fun v=>some ⟨v,rfl⟩) else none
noncomputable def dFld (d:Data):Option { v:Array PV // d = .fields v }:=if h:d.ctorIdx = 9 then PySem.Data.fields.elim (motive:=fun d=>Option { v:Array PV // d = .fields v }) d h (fun v=>some ⟨v,rfl⟩) else none
noncomputable def supC (K:Frag) (P:Prog) (g:Gt) (fa ca:Nat→Addr) (f2 c1:Nat) (d:FDef) (names:List (Str × Nat)) (xs:List X) (ss:List S) (file:Str) (fd:FuncData) (bd:List Stmt) (v:PE × List PE × Pos) (a:PE × Str × Pos) (s0:List PE) (su:Str) (ar:Arg) (cl:Str) (cv:Option PV) (fl:Str) (cd:ClassData):Bool :=
 ((su == ("super":Str) && (a.2.1 == ("__init__":Str) && (cl == ("__class__":Str) && (s0.isEmpty && (cv == some (.ref (ca c1)) && (fl == file && (a.2.2.endLine == v.2.2.line && decide (v.2.1.length < 29)))))))) &&
 (codeIn K fd.code fd.qualname && (chkEs P g xs ⟨names,fd.scope,allOwn⟩ v.2.1 && (chkSs P g ss ⟨names,fd.scope,allOwn⟩ bd && (decide (fd.globals = mainGlobals) && (decide (fd.builtins = builtinsNs) && (!fd.scope.isCoroutine && (!fd.scope.isGenerator && fd.scope.kind == .function)))))))) &&
 (((fd.scope.names.all fun x=>x.2 != .cell && (x.2 != .free || x.1 == ("__class__":Str))) && (fd.params.posonlyargs.isEmpty && (fd.params.kwonlyargs.isEmpty && (fd.params.vararg.isNone && (fd.params.kwarg.isNone && (decide (fd.defaults = .none) && (decide (fd.params.args.length = d.params) &&
  (decide (fd.params.args.map (·.arg)).Nodup && (((fd.params.args.map (·.arg)).all fun x=>fd.scope.names.lookup x == some .local) && (names.all fun q=>decide (d.params≤q.2) || (fd.params.args.map (·.arg))[q.2]? == some q.1)))))))))) &&
 (names.lookup ar.arg == some 0 && (fd.scope.names.lookup ("super":Str) == some .globalImplicit && (fd.scope.names.lookup ("__class__":Str) == some .free && (mroIn K (ca c1) (.ref (ca c1)) == some true && (alongIn K "__init__" ((cd.mro.dropWhile (· != .ref (ca c1))).drop 1) == some (some (.ref (fa f2))) &&
  (typeIn K (.ref (fa f2)) == some (.type "function") && (fnIn K (fa f2) && (nsIn K cStatics "thirdparty.any" == some none && nsIn K mainGlobals "super" == some none)))))))))
noncomputable def sup4 (K:Frag) (P:Prog) (g:Gt) (fa ca:Nat→Addr) (f2 c1:Nat) (d:FDef) (names:List (Str × Nat)) (xs:List X) (ss:List S) (file:Str) (fd:FuncData) (bd:List Stmt) (v:PE × List PE × Pos) (a:PE × Str × Pos) (s0:List PE) (su:Str) (ar:Arg) (cl:Str) (cv:Option PV) (cda:Addr):Bool :=
 oS (oE (K.lookup cda)) fun ocd=>oS (dFld ocd.data) fun vs=>oS (oE (vs:Array PV)[2]?) fun fv=>oS (vStr fv) fun fl=>oS (oE (clsIn K (ca c1))) fun cd=>supC K P g fa ca f2 c1 d names xs ss file fd bd v a s0 su ar cl cv fl.1 cd
noncomputable def sup3 (K:Frag) (P:Prog) (g:Gt) (fa ca:Nat→Addr) (f2 c1:Nat) (d:FDef) (names:List (Str × Nat)) (xs:List X) (ss:List S) (file:Str) (fd:FuncData) (bd:List Stmt) (v:PE × List PE × Pos) (a:PE × Str × Pos) (s0:List PE) (su:Str):Bool :=
 oS (oE fd.params.args.head?) fun ar=>oS (dOne fd.closure) fun cl=>oS (vRef fd.code) fun cda=>oS (oE (K.lookup cl.2)) fun oc=>oS (dCel oc.data) fun cv=>sup4 K P g fa ca f2 c1 d names xs ss file fd bd v a s0 su ar cl.1 cv cda
noncomputable def sup2 (K:Frag) (P:Prog) (g:Gt) (fa ca:Nat→Addr) (f2 c1:Nat) (d:FDef) (names:List (Str × Nat)) (xs:List X) (ss:List S) (file:Str) (fd:FuncData) (bd:List Stmt) (ex:PE):Bool :=
 oS (dCall ex) fun v=>oS (dAttr v.1) fun a=>oS (dCall a.1) fun s0=>oS (dName s0.1) fun su=>sup3 K P g fa ca f2 c1 d names xs ss file fd bd v a s0.2.1 su.1
noncomputable def supB (K:Frag) (P:Prog) (g:Gt) (fa ca:Nat→Addr) (f f2 c1:Nat) (d:FDef) (names:List (Str × Nat)) (xs:List X) (ss:List S) (file:Str):Bool :=
 oS (oE (K.lookup (fa f))) fun o=>oS (dFun o.data) fun fd=>oS (dSts fd.body) fun body=>oS (dCons body) fun bd=>oS (dExp bd.1) fun ex=>sup2 K P g fa ca f2 c1 d names xs ss file fd bd.2 ex.1
end
theorem an8 {x1 x2 x3 x4 x5 x6 x7 x8:Bool} {C:Prop} (k:(x1 && (x2 && (x3 && (x4 && (x5 && (x6 && (x7 && x8))))))) = true) (K:x1 = true→x2 = true→x3 = true→x4 = true→x5 = true→x6 = true→x7 = true→x8 = true→C):C:=K (and_l k) (and_l (and_r k)) (and_l (and_r (and_r k))) (and_l (and_r (and_r (and_r k)))) (and_l (and_r (and_r (and_r (and_r k))))) (and_l (and_r (and_r (and_r (and_r (and_r k)))))) (and_l (and_r (and_r (and_r (and_r (and_r (and_r k))))))) (and_r (and_r (and_r (and_r (and_r (and_r (and_r k)))))))
theorem an9 {x1 x2 x3 x4 x5 x6 x7 x8 x9:Bool} {C:Prop} (k:(x1 && (x2 && (x3 && (x4 && (x5 && (x6 && (x7 && (x8 && x9)))))))) = true) (K:x1 = true→x2 = true→x3 = true→x4 = true→x5 = true→x6 = true→x7 = true→x8 = true→x9 = true→C):C:=K (and_l k) (and_l (and_r k)) (and_l (and_r (and_r k))) (and_l (and_r (and_r (and_r k)))) (and_l (and_r (and_r (and_r (and_r k))))) (and_l (and_r (and_r (and_r (and_r (and_r k)))))) (and_l (and_r (and_r (and_r (and_r (and_r (and_r k))))))) (and_l (and_r (and_r (and_r (and_r (and_r (and_r (and_r k)))))))) (and_r (and_r (and_r (and_r (and_r (and_r (and_r (and_r k))))))))
theorem an10 {x1 x2 x3 x4 x5 x6 x7 x8 x9 x10:Bool} {C:Prop} (k:(x1 && (x2 && (x3 && (x4 && (x5 && (x6 && (x7 && (x8 && (x9 && x10))))))))) = true) (K:x1 = true→x2 = true→x3 = true→x4 = true→x5 = true→x6 = true→x7 = true→x8 = true→x9 = true→x10 = true→C):C:=K (and_l k) (and_l (and_r k)) (and_l (and_r (and_r k))) (and_l (and_r (and_r (and_r k)))) (and_l (and_r (and_r (and_r (and_r k))))) (and_l (and_r (and_r (and_r (and_r (and_r k)))))) (and_l (and_r (and_r (and_r (and_r (and_r (and_r k))))))) (and_l (and_r (and_r (and_r (and_r (and_r (and_r (and_r k)))))))) (and_l (and_r (and_r (and_r (and_r (and_r (and_r (and_r (and_r k))))))))) (and_r (and_r (and_r (and_r (and_r (and_r (and_r (and_r (and_r k)))))))))
theorem an22 {a b c d:Bool} {C:Prop} (k:(a && b && (c && d)) = true) (K:a = true→b = true→c = true→d = true→C):C:=K (and_l (and_l k)) (and_r (and_l k)) (and_l (and_r k)) (and_r (and_r k))
theorem sup_go {B:Bd} {g:Gt} {f f2 c1:Nat} {d:FDef} {names:List (Str × Nat)} {xs:List X} {ss:List S} {file:Str} (h:Hs B 40 g) (hd:d.body = .expr (.meth (.var 0) 0 xs) :: ss) (hm:∀ i f',B.P.meth i 0 = some f'→i = c1∧f' = f2)
  (hbt:nsIn B.D.K builtinsNs "super" = some (some (.type "super"))) (hfile:((B.D.prog.main.file:Str) == file) = true) (htop:(B.D.prog.main.scope.names.lookup ("super":Str)).isSome = false) (k:supB B.D.K B.P g B.D.fa B.D.ca f f2 c1 d names xs ss file = true):FnGo B f d :=
 oS_el k fun o ho k=>oS_el k fun fd hfd k=>oS_el k fun body hb k=>oS_el k fun bd hbd k=>oS_el k fun ex hex k=>oS_el k fun v hv k=>oS_el k fun a ha k=>oS_el k fun s0 hs0 k=>oS_el k fun su hsu k=>oS_el k fun ar har k =>
 oS_el k fun cl hcl k=>oS_el k fun cda hcda k=>oS_el k fun oc hoc k=>oS_el k fun cv hcv k=>oS_el k fun ocd hocd k=>oS_el k fun vs hvs k=>oS_el k fun fv hfv k=>oS_el k fun fl hfl k=>oS_el k fun cd hcd k=>an22 k fun ka kb kc kd=>an8 ka fun a1 a2 a3 a4 a5 a6 a7 a8=>an8 kb fun b1 b2 b3 b4 b5 b6 b7 b8=>an10 kc fun c1 c2 c3 c4 c5 c6 c7 c8 c9 c10=>an9 kd fun d1 d2 d3 d4 d5 d6 d7 d8 d9=>by
 have nms:=List.all_eq_true.mp c1
 have hpn:(fd.params.args.map (·.arg)).Nodup:=of_decide_eq_true c8
 have hpl:fd.params.args.length = d.params:=of_decide_eq_true c7
 have hn2:=List.all_eq_true.mp c10
 have hal:=List.all_eq_true.mp c9
 have hbody:fd.body = .stmts (.Expr (.Call (.Attribute (.Call (.Name "super" su.2) [] [] s0.2.2) "__init__" a.2.2) v.2.1 [] v.2.2) ex.2 :: bd.2):=by
  rw [hb,hbd,hex,hv,ha,hs0,hsu,eq_of a1,eq_of a2,List.isEmpty_iff.mp a4]
 exact super_go (ps:=fd.params.args.map (·.arg)) (fd:=fd) (ar:=ar) (cd:=cd) h ⟨o,ho,hfd⟩ b1 hbody hd a7 (of_decide_eq_true a8) b2 b3 (hcl.trans (by rw [← eq_of a3]))
  (of_decide_eq_true b4) (of_decide_eq_true b5) (of_not b6) (of_not b7) (eq_of b8) (fun x hx=>bne_iff_ne.mp (and_l (nms x hx))) (fun x hx e=>(Bool.or_eq_true_iff.mp (and_r (nms x hx))).elim (fun n=>absurd e (bne_iff_ne.mp n)) eq_of)
  ((List.length_map ..).trans hpl) hpn (fun x hx=>eq_of (hal x hx)) (fun vals hv=>bind_is (List.isEmpty_iff.mp c2) (List.isEmpty_iff.mp c3) (Option.isNone_iff_eq_none.mp c4) (Option.isNone_iff_eq_none.mp c5) (of_decide_eq_true c6) hpn (by rw [hv,hpl]))
  (List.isEmpty_iff.mp c2) (fun x i e=>(Bool.or_eq_true_iff.mp (hn2 _ (mem_of_lookup e))).imp of_decide_eq_true eq_of) har (List.mem_map.mpr ⟨ar,List.mem_of_head? har,rfl⟩) (eq_of d1) (eq_of d2) (eq_of d3) hm hoc (hcv.trans (congrArg Data.cell (eq_of a5))) hcd
  (eq_of d4) (eq_of d5) (eq_of d6) d7 (eq_of d8) (eq_of d9) hbt hcda hocd hvs (hfv.trans (congrArg some hfl)) (by rw [eq_of a6]; exact hfile) htop
end Mine.Internal
namespace Mine.Internal
open PySem
namespace P3
noncomputable def f_all_of:FDef :=
 { params:=1,slots:=1,body:=[.ite (.cmp .eq (.bi .len [(.var 0)]) (.cst (.int 1))) [.ret (.item (.var 0) (.cst (.int 0)))] [],
  .ret (.ite (.cmp .gt (.bi .len [(.var 0)]) (.cst (.int 0))) (.tup [(.cst (.str 431008790872165)),(.bi .tuple [(.var 0)])]) (.glob 999))] }
noncomputable def f_united:FDef :=
 { params:=1,slots:=3,body:=[.asg (.name 1) (.item (.var 0) (.cst (.int 0))),
  .for_ (.one 2) (.val (.sl (.var 0) (.cst (.int 1)) (.cst .none))) [.raise],
  .ret (.var 1)] }
noncomputable def f_Names___init:FDef :=
 { params:=5,slots:=6,body:=[.asg (.attr (.var 0) 91018014822433855916448552147567129127201744206719258460276) (.var 1),
  .asg (.attr (.var 0) 2089024793972003303873052788) (.var 2),
  .asg (.attr (.var 0) 2050339269201387993285263476) (.var 3),
  .asg (.attr (.var 0) 9442840468706836533258501435379962347636) (.var 4),
  .asg (.attr (.var 0) 1934282215274345678596210804) (.mut (.dict [])),
  .for_ (.one 5) (.val (.var 3)) [.ite (.cmp .in_ (.item (.var 5) (.cst (.int 0))) (.tup [(.cst (.str 1042241545940152352869)),(.cst (.str 452999038107759))])) [.raise] []],
  .asg (.attr (.var 0) 1934282344401593776985866357) (.cst (.int 0))] }
noncomputable def f_Names_fresh:FDef :=
 { params:=2,slots:=2,body:=[.asg (.attr (.var 0) 1934282344401593776985866357) (.bin .add (.attr (.var 0) 1934282344401593776985866357) (.cst (.int 1))),
  .ret (.fstr [(.var 1),(.cst (.str 40)),(.attr (.var 0) 1934282344401593776985866357)])] }
noncomputable def f_Names_rel:FDef :=
 { params:=2,slots:=2,body:=[.ret (.tup [(.cst (.str 505775562686573)),(.item (.attr (.var 0) 9442840468706836533258501435379962347636) (.var 1))])] }
noncomputable def f_Names_owners:FDef :=
 { params:=2,slots:=3,body:=[.ret (.comp (.gen (.one 2) (.val (.meth (.attr (.var 0) 91018014822433855916448552147567129127201744206719258460276) 4178178428691374958171360535249012 [])) [(.cmp .eq (.item (.var 2) (.cst (.int 0))) (.var 1))] (.elt (.item (.var 2) (.cst (.int 1))))))] }
noncomputable def f_Names_places:FDef :=
 { params:=2,slots:=4,body:=[.ite (.or [(.meth (.attr (.var 0) 91018014822433855916448552147567129127201744206719258460276) 461795089186932 [(.var 1)]),(.cmp .ne (.meth (.var 0) 4543262072356571629796891589345396 [(.var 1)]) (.list []))]) [.ret (.cst (.int (-1)))] [],
  .raise,
  .raise,
  .raise,
  .raise] }
noncomputable def f_Names_named:FDef :=
 { params:=3,slots:=7,body:=[.ite (.meth (.attr (.var 0) 91018014822433855916448552147567129127201744206719258460276) 461795089186932 [(.var 1)]) [.ret (.meth (.var 0) 505775562686573 [(.var 1)])] [],
  .asg (.name 3) (.meth (.var 0) 4543262072356571629796891589345396 [(.var 1)]),
  .ite (.cmp .ne (.var 3) (.list [])) [.ret (.call 2 [(.comp (.gen (.one 6) (.val (.var 3)) [] (.elt (.meth (.var 0) 505775562686573 [(.fstr [(.var 6),(.cst (.str 47)),(.var 1)])]))))])] [],
  .raise,
  .raise,
  .raise] }
noncomputable def f_Names_arity:FDef :=
 { params:=2,slots:=3,body:=[.asg (.name 2) (.item (.var 1) (.cst (.int 0))),
  .ite (.cmp .eq (.var 2) (.cst (.str 505775562686573))) [.ret (.meth (.var 0) 13718444222045834973046468235386452060926671848844973262849473248587749245040621500453887869439101108335 [(.item (.var 1) (.cst (.int 1)))])] [],
  .ite (.cmp .in_ (.var 2) (.tup [(.cst (.str 4746086129707480553143090519474292)),(.cst (.str 1023794788672322142310))])) [.raise] [],
  .ite (.cmp .in_ (.var 2) (.tup [(.cst (.str 523367740342387)),(.cst (.str 1088358388532248576119))])) [.raise] [],
  .ite (.cmp .in_ (.var 2) (.tup [(.cst (.str 977677880109517766767)),(.cst (.str 1079135047281738252399)),(.cst (.str 8507063594590921578787178697020942581862)),(.cst (.str 1069911670846801313907))])) [.raise] [],
  .ite (.cmp .in_ (.var 2) (.tup [(.cst (.str 986901300524892553327)),(.cst (.str 9612981530472886828724840677988351606901))])) [.raise] [],
  .ite (.cmp .eq (.var 2) (.cst (.str 922337696266917511281))) [.raise] [],
  .ret (.meth (.var 0) 1895596745843988977414045818 [(.ite (.cmp .in_ (.var 2) (.tup [(.cst (.str 1895596653610251016640397413)),(.cst (.str 4137613609484209967886426670366835))])) (.glob 999) (.item (.var 1) (.cst (.int 1))))])] }
noncomputable def f_Names_arity_of_relation:FDef :=
 { params:=2,slots:=5,body:=[.for_ (.one 2) (.val (.meth (.attr (.var 0) 91018014822433855916448552147567129127201744206719258460276) 4178178428691374958171360535249012 [])) [.ite (.cmp .eq (.item (.attr (.var 0) 9442840468706836533258501435379962347636) (.fstr [(.item (.var 2) (.cst (.int 1))),(.cst (.str 47)),(.item (.var 2) (.cst (.int 0)))])) (.var 1)) [.raise] []],
  .ret (.ite (.cmp .in_ (.var 1) (.comp (.gen (.many [3,4]) (.val (.meth (.attr (.var 0) 91018014822433855916448552147567129127201744206719258460276) 4543261975642413826906189065093236 [])) [] (.elt (.glob 999))))) (.cst (.int 2)) (.cst (.int 1)))] }
noncomputable def f_Opener___init:FDef :=
 { params:=5,slots:=5,body:=[.expr (.meth (.var 0) 0 [(.var 1),(.var 2),(.var 3),(.var 4)]),
  .asg (.attr (.var 0) 2243767363446240513821245557) (.cst (.int 0)),
  .asg (.attr (.var 0) 4259307989734766077997039554134133) (.cst (.int 0)),
  .asg (.attr (.var 0) 1042241488765539319916) (.cst (.int 0))] }
noncomputable def f_Opener_spend:FDef :=
 { params:=3,slots:=3,body:=[.asg (.attr (.var 0) 2243767363446240513821245557) (.bin .add (.attr (.var 0) 2243767363446240513821245557) (.var 1)),
  .asg (.attr (.var 0) 1042241488765539319916) (.bi .max [(.attr (.var 0) 1042241488765539319916),(.bin .add (.attr (.var 0) 4259307989734766077997039554134133) (.var 2))]),
  .ite (.cmp .gt (.attr (.var 0) 2243767363446240513821245557) (.glob 0)) [.raise] [],
  .ite (.cmp .gt (.bin .add (.attr (.var 0) 4259307989734766077997039554134133) (.var 2)) (.glob 1)) [.raise] []] }
noncomputable def f_Opener_measured:FDef :=
 { params:=3,slots:=7,body:=[.asgM [(.name 3),(.name 4),(.attr (.var 0) 1042241488765539319916)] (.tup [(.attr (.var 0) 2243767363446240513821245557),(.attr (.var 0) 1042241488765539319916),(.attr (.var 0) 4259307989734766077997039554134133)]),
  .asg (.name 5) (.meth (.var 0) 2301795664437192947725762662 [(.var 1),(.var 2)]),
  .asg (.name 6) (.tup [(.bin .sub (.attr (.var 0) 2243767363446240513821245557) (.var 3)),(.bin .sub (.attr (.var 0) 1042241488765539319916) (.attr (.var 0) 4259307989734766077997039554134133))]),
  .asg (.attr (.var 0) 1042241488765539319916) (.bi .max [(.var 4),(.attr (.var 0) 1042241488765539319916)]),
  .ret (.tup [(.var 5),(.var 6)])] }
noncomputable def f_Opener_used:FDef :=
 { params:=3,slots:=5,body:=[.asgT [3,4] (.get (.get (.var 2) [(.cst (.str 0)),(.dict [])]) [(.var 1),(.tup [(.cst (.int 1)),(.cst (.int 1))])]),
  .expr (.meth (.var 0) 2243767363446240513821245541 [(.var 3),(.var 4)]),
  .ret (.item (.var 2) (.var 1))] }
noncomputable def f_Opener_form:FDef :=
 { params:=3,slots:=8,body:=[.asg (.name 3) (.item (.var 1) (.cst (.int 0))),
  .ite (.cmp .in_ (.var 3) (.tup [(.cst (.str 488183410196590)),(.cst (.str 2205081783335414972318482549))])) [.raise] [],
  .ite (.cmp .eq (.var 3) (.cst (.str 247464047))) [.raise] [],
  .ite (.or [(.cmp .eq (.var 3) (.cst (.str 1914939503617617211324104812))),(.and [(.cmp .eq (.var 3) (.cst (.str 435406826897519))),(.cmp .notIn (.item (.var 1) (.cst (.int 2))) (.glob 7))])]) [.raise] [],
  .ite (.cmp .eq (.var 3) (.cst (.str 222298215))) [.raise] [],
  .ite (.cmp .eq (.var 3) (.cst (.str 479387283619957))) [.raise,
   .raise,
   .raise] [],
  .ite (.and [(.cmp .eq (.var 3) (.cst (.str 1023794727099668889702))),(.cmp .in_ (.item (.var 1) (.cst (.int 2))) (.var 2))]) [.asg (.name 5) (.item (.item (.var 2) (.item (.var 1) (.cst (.int 2)))) (.cst (.int 0))),
   .ret (.ite (.cmp .in_ (.var 5) (.glob 2)) (.cst (.str 4502697214463632837895632474603635)) (.ite (.cmp .in_ (.var 5) (.glob 4)) (.cst (.str 2263110195006889023082856553)) (.cst (.str 510173609197685))))] [],
  .asgT [6,7] (.meth (.var 0) 8507063148377852269946524166966015426663 [(.var 1),(.var 2)]),
  .ret (.ite (.cmp .eq (.var 6) (.cst (.str 0))) (.cst (.str 510173609197685)) (.glob 999))] }
noncomputable def f_Opener_value:FDef :=
 { params:=3,slots:=4,body:=[.asg (.name 3) (.meth (.var 0) 950007812377492324462 [(.var 1),(.var 2)]),
  .ite (.cmp .eq (.var 3) (.cst (.str 2263110195006889023082856553))) [.raise] [],
  .ret (.ite (.cmp .eq (.var 3) (.cst (.str 4502697214463632837895632474603635))) (.glob 999) (.meth (.var 0) 940784479923051954291 [(.var 1),(.var 2)]))] }
noncomputable def f_Opener_let_env:FDef :=
 { params:=3,slots:=4,body:=[.asg (.name 3) (.mut (.bi .dict [(.var 2)])),
  .asg (.item (.var 3) (.cst (.str 0))) (.mut (.bi .dict [(.get (.var 2) [(.cst (.str 0)),(.dict [])])])),
  .asgM [(.item (.var 3) (.item (.var 1) (.cst (.int 2)))),(.item (.item (.var 3) (.cst (.str 0))) (.item (.var 1) (.cst (.int 2))))] (.meth (.var 0) 19624664451911280203008333532949299169285111909 [(.item (.var 1) (.cst (.int 3))),(.var 2)]),
  .ret (.var 3)] }
noncomputable def f_Opener_begun:FDef :=
 { params:=3,slots:=5,body:=[.ite (.and [(.cmp .eq (.item (.var 1) (.cst (.int 0))) (.cst (.str 1023794727099668889702))),(.cmp .notIn (.item (.var 1) (.cst (.int 2))) (.var 2)),(.cmp .ge (.meth (.var 0) 4583826678792810814624776111259764 [(.item (.var 1) (.cst (.int 2)))]) (.cst (.int 0)))]) [.raise] [],
  .ite (.cmp .eq (.item (.var 1) (.cst (.int 0))) (.cst (.str 435406839480441))) [.raise,
   .raise] [],
  .ite (.and [(.cmp .eq (.item (.var 1) (.cst (.int 0))) (.cst (.str 435406826897519))),(.cmp .eq (.item (.var 1) (.cst (.int 2))) (.cst (.str 47)))]) [.asgT [3,4] (.meth (.var 0) 1914939439053977769006334063 [(.item (.var 1) (.cst (.int 4))),(.var 2)]),
   .ite (.and [(.cmp .ne (.var 3) (.cst (.str 0))),(.glob 999)]) [.raise] []] [],
  .ret (.tup [(.cst (.str 0)),(.tup [])])] }
noncomputable def f_Opener_call_of:FDef :=
 { params:=3,slots:=5,body:=[.asgT [3,4] (.meth (.var 0) 1914939439053977769006334063 [(.var 1),(.var 2)]),
  .ite (.and [(.cmp .ne (.var 3) (.cst (.str 0))),(.glob 999)]) [.raise] [],
  .ret (.tup [(.var 3),(.var 4)])] }
noncomputable def f_Opener_truth:FDef :=
 { params:=3,slots:=4,body:=[.asg (.attr (.var 0) 4259307989734766077997039554134133) (.bin .add (.attr (.var 0) 4259307989734766077997039554134133) (.cst (.int 1))),
  .expr (.meth (.var 0) 2243767363446240513821245541 [(.cst (.int 1)),(.cst (.int 0))]),
  .asg (.name 3) (.meth (.var 0) 20873507288947498888387828772211953481738616935 [(.var 1),(.var 2)]),
  .asg (.attr (.var 0) 4259307989734766077997039554134133) (.bin .sub (.attr (.var 0) 4259307989734766077997039554134133) (.cst (.int 1))),
  .ret (.var 3)] }
noncomputable def f_Opener_truth_of:FDef :=
 { params:=3,slots:=11,body:=[.asg (.name 3) (.item (.var 1) (.cst (.int 0))),
  .ite (.cmp .eq (.var 3) (.cst (.str 1914939503617617211324104812))) [.raise] [],
  .ite (.and [(.cmp .eq (.var 3) (.cst (.str 247464047))),(.cmp .eq (.item (.var 1) (.cst (.int 2))) (.cst (.str 34)))]) [.ret (.tup [(.cst (.str 488183397613685)),(.meth (.var 0) 2263110195006889023082856553 [(.item (.var 1) (.cst (.int 3))),(.var 2)])])] [],
  .ite (.and [(.cmp .eq (.var 3) (.cst (.str 247464047))),(.cmp .in_ (.item (.var 1) (.cst (.int 2))) (.tup [(.cst (.str 1069911648856593924198)),(.cst (.str 232783984)),(.cst (.str 1005348044598612590694)),(.cst (.str 492581442027622))]))]) [.ret (.tup [(.item (.var 1) (.cst (.int 2))),(.meth (.var 0) 940784479923051954291 [(.item (.var 1) (.cst (.int 3))),(.var 2)])])] [],
  .ite (.and [(.cmp .eq (.var 3) (.cst (.str 435406826897519))),(.cmp .notIn (.item (.var 1) (.cst (.int 2))) (.glob 7))]) [.ret (.meth (.var 0) 17840605686735234431804093745855180624776659045 [(.var 1),(.var 2)])] [],
  .ite (.cmp .eq (.var 3) (.cst (.str 222298215))) [.raise,
   .raise,
   .raise,
   .raise,
   .raise] [],
  .ite (.cmp .eq (.var 3) (.cst (.str 479387283619957))) [.ret (.meth (.var 0) 2263110195006889023082856553 [(.item (.var 1) (.cst (.int 4))),(.meth (.var 0) 9272698636209395384337487287709031465079 [(.var 1),(.var 2)])])] [],
  .ite (.and [(.cmp .eq (.var 3) (.cst (.str 2205081783335414972318482549))),(.cmp .ne (.item (.var 1) (.cst (.int 2))) (.cst (.str 510173642752110)))]) [.ret (.meth (.var 0) 89448743878319145170253840814305577080801377922401295138917 [(.item (.var 1) (.cst (.int 2))),(.item (.var 1) (.cst (.int 3))),(.item (.var 1) (.cst (.int 4))),(.var 2)])] [],
  .raise,
  .raise,
  .raise,
  .raise,
  .raise] }
noncomputable def f_Opener_compared:FDef :=
 { params:=3,slots:=8,body:=[.asgT [3,4,5] (.sl (.var 1) (.cst (.int 2)) (.cst (.int 5))),
  .ite (.cmp .in_ (.var 3) (.tup [(.cst (.str 81788967)),(.cst (.str 262144125))])) [.raise] [],
  .ite (.cmp .in_ (.var 3) (.tup [(.cst (.str 130023487)),(.cst (.str 268280967200831))])) [.raise] [],
  .ite (.cmp .in_ (.var 3) (.tup [(.cst (.str 71303230)),(.cst (.str 149533803675759))])) [.raise] [],
  .ite (.and [(.cmp .eq (.var 3) (.cst (.str 62))),(.cmp .eq (.meth (.var 0) 950007812377492324462 [(.var 4),(.var 2)]) (.cst (.str 510173609197685)))]) [.ret (.tup [(.cst (.str 1069911587283942768742)),(.meth (.var 0) 940784479923051954291 [(.var 4),(.var 2)]),(.meth (.var 0) 940784479923051954291 [(.var 5),(.var 2)])])] [],
  .ite (.cmp .eq (.var 3) (.cst (.str 222298223))) [.ret (.meth (.var 0) 8421993124555260641663923658296188207205 [(.meth (.var 0) 940784479923051954291 [(.var 4),(.var 2)]),(.var 5),(.var 2)])] [],
  .raise,
  .raise,
  .raise] }
noncomputable def f_Opener_decls_of:FDef :=
 { params:=3,slots:=20,body:=[.asgTs true [3,2,4] [(.mut (.list [])),(.mut (.bi .dict [(.var 2)])),(.mut (.list []))],
  .for_ (.many [5,6,7,8,9]) (.val (.var 1)) [.ite (.cmp .notIn (.var 8) (.tup [(.cst (.str 0)),(.cst (.str 492581442027622))])) [.raise] [],
   .asgTs true [10,11] [(.meth (.var 0) 940784479923051954291 [(.var 9),(.var 2)]),(.comp (.gen (.one 14) (.val (.var 7)) [] (.elt (.meth (.var 0) 1992310811413141719202398313 [(.var 14)]))))],
   .ite (.cmp .ne (.meth (.var 0) 1895596745843988977414045818 [(.var 10)]) (.cst (.int 1))) [.raise] [],
   .for_ (.many [12,13]) (.enum (.var 11)) [.mth .app (.var 3) (.tup [(.var 13),(.var 10)]),
    .mth .ext (.var 4) (.comp (.gen (.one 15) (.val (.sl (.var 11) (.cst .none) (.var 12))) [(.var 6)] (.elt (.tup [(.cst (.str 488183397613685)),(.tup [(.cst (.str 1069911587283942768742)),(.tup [(.cst (.str 523367740342387)),(.var 13)]),(.tup [(.cst (.str 523367740342387)),(.var 15)])])]))))],
   .mth .upd (.var 2) (.comp (.gen (.many [16,17]) (.zip (.var 7) (.var 11)) [] (.elt (.tup [(.var 16),(.tup [(.cst (.str 523367740342387)),(.var 17)])])))),
   .asg (.item (.var 2) (.cst (.str 0))) (.bi .dict [(.comp (.gen (.many [18,19]) (.items (.get (.var 2) [(.cst (.str 0)),(.dict [])])) [(.glob 999)] (.elt (.glob 999))))])],
  .ret (.tup [(.bi .tuple [(.var 3)]),(.var 2),(.var 4)])] }
noncomputable def f_Opener_quantified:FDef :=
 { params:=5,slots:=9,body:=[.asgT [5,6,7] (.meth (.var 0) 18019010797617156466320776713756646825720283239 [(.var 2),(.var 4)]),
  .asg (.name 8) (.meth (.var 0) 2263110195006889023082856553 [(.var 3),(.var 6)]),
  .ite (.cmp .eq (.var 1) (.cst (.str 431008786677869))) [.ret (.tup [(.cst (.str 431008786677869)),(.var 5),(.ite (.cmp .ne (.var 7) (.list [])) (.tup [(.cst (.str 9017487185537167824034131633095323943028)),(.call 1 [(.var 7)]),(.var 8)]) (.var 8))])] [],
  .asg (.name 8) (.call 1 [(.bin .add (.var 7) (.list [(.var 8)]))]),
  .ite (.cmp .in_ (.var 1) (.tup [(.cst (.str 1069911648856593924198)),(.cst (.str 232783984))])) [.ret (.ite (.cmp .eq (.var 1) (.cst (.str 1069911648856593924198))) (.tup [(.cst (.str 4137613899626305218353401740394612)),(.var 5),(.var 8)]) (.tup [(.cst (.str 488183397613685)),(.tup [(.cst (.str 4137613899626305218353401740394612)),(.var 5),(.var 8)])]))] [],
  .ret (.tup [(.var 1),(.tup [(.cst (.str 922337696266917511281)),(.var 5),(.var 8)])])] }
noncomputable def f_Opener_expr:FDef :=
 { params:=3,slots:=4,body:=[.asg (.attr (.var 0) 4259307989734766077997039554134133) (.bin .add (.attr (.var 0) 4259307989734766077997039554134133) (.cst (.int 1))),
  .expr (.meth (.var 0) 2243767363446240513821245541 [(.cst (.int 1)),(.cst (.int 0))]),
  .asg (.name 3) (.meth (.var 0) 8677205264829240640962846540743768539239 [(.var 1),(.var 2)]),
  .asg (.attr (.var 0) 4259307989734766077997039554134133) (.bin .sub (.attr (.var 0) 4259307989734766077997039554134133) (.cst (.int 1))),
  .ret (.var 3)] }
noncomputable def f_Opener_expr_of:FDef :=
 { params:=3,slots:=11,body:=[.asg (.name 3) (.item (.var 1) (.cst (.int 0))),
  .ite (.cmp .in_ (.var 3) (.tup [(.cst (.str 1088358388532248576119)),(.cst (.str 977677880109517766767))])) [.raise] [],
  .ite (.cmp .eq (.var 3) (.cst (.str 1023794788672322142310))) [.raise] [],
  .ite (.and [(.cmp .eq (.var 3) (.cst (.str 247464047))),(.glob 999)]) [.raise] [],
  .ite (.cmp .eq (.var 3) (.cst (.str 1895596745844028559822159992))) [.raise] [],
  .ite (.cmp .eq (.var 3) (.cst (.str 1934282344401558592617971827))) [.raise,
   .raise] [],
  .ite (.cmp .eq (.var 3) (.cst (.str 222298215))) [.raise] [],
  .ite (.cmp .eq (.var 3) (.cst (.str 479387283619957))) [.raise] [],
  .ite (.and [(.cmp .eq (.var 3) (.cst (.str 1023794727099668889702))),(.cmp .in_ (.item (.var 1) (.cst (.int 2))) (.var 2))]) [.ret (.meth (.var 0) 4867780200473109852296548783751269 [(.meth (.var 0) 1088358410522472743013 [(.item (.var 1) (.cst (.int 2))),(.var 2)]),(.cst (.str 510173609197685)),(.item (.var 1) (.cst (.int 1)))])] [],
  .asgT [7,8] (.ite (.cmp .in_ (.var 3) (.tup [(.cst (.str 1023794727099668889702)),(.cst (.str 435406839480441)),(.cst (.str 435406826897519))])) (.meth (.var 0) 8507063148377852269946524166966015426663 [(.var 1),(.var 2)]) (.glob 999)),
  .ite (.cmp .ne (.var 7) (.cst (.str 0))) [.raise] [],
  .ite (.cmp .eq (.var 3) (.cst (.str 1023794727099668889702))) [.ret (.meth (.var 0) 2147053159526524811376328805 [(.item (.var 1) (.cst (.int 2))),(.item (.var 1) (.cst (.int 1)))])] [],
  .ite (.cmp .eq (.var 3) (.cst (.str 435406839480441))) [.raise,
   .raise,
   .raise] [],
  .ite (.or [(.cmp .ne (.var 3) (.cst (.str 435406826897519))),(.cmp .notIn (.item (.var 1) (.cst (.int 2))) (.glob 7))]) [.raise] [],
  .ret (.tup [(.item (.glob 7) (.item (.var 1) (.cst (.int 2)))),(.meth (.var 0) 940784479923051954291 [(.item (.var 1) (.cst (.int 3))),(.var 2)]),(.meth (.var 0) 940784479923051954291 [(.item (.var 1) (.cst (.int 4))),(.var 2)])])] }
noncomputable def f_Opener_wanted:FDef :=
 { params:=4,slots:=5,body:=[.asg (.name 4) (.cmp .in_ (.item (.var 1) (.cst (.int 0))) (.glob 2)),
  .ite (.or [(.cmp .in_ (.item (.var 1) (.cst (.int 0))) (.glob 4)),(.cmp .ne (.var 4) (.cmp .eq (.var 2) (.cst (.str 4502697214463632837895632474603635))))]) [.raise] [],
  .ret (.var 1)] }
noncomputable def f_Opener_is_marked:FDef :=
 { params:=2,slots:=2,body:=[.ite (.cmp .ne (.item (.var 1) (.cst (.int 0))) (.cst (.str 1895596745844028559822159992))) [.ret (.cst (.bool false))] [],
  .raise] }
noncomputable def f_Opener_bounded:FDef :=
 { params:=4,slots:=5,body:=[.asg (.name 4) (.list [(.tup [(.cst (.str 222298223)),(.var 1),(.meth (.var 0) 940784479923051954291 [(.var 2),(.var 3)])])]),
  .ite (.meth (.var 0) 39659329125711092606061701497258847366907394231631973 [(.var 2)]) [.raise] [],
  .ret (.call 1 [(.var 4)])] }
noncomputable def f_Signatures___init:FDef :=
 { params:=2,slots:=4,body:=[.asg (.attr (.var 0) 8677204859181125939181893442046368153716) (.mut (.dict [])),
  .asg (.attr (.var 0) 4705521291157225747889372490891380) (.mut (.list [])),
  .asg (.attr (.var 0) 4543261936956796822649674720608357) (.mut (.list [])),
  .for_ (.one 2) (.val (.var 1)) [.ite (.cmp .eq (.item (.var 2) (.cst (.int 0))) (.cst (.str 510173617586280))) [.expr (.meth (.var 0) 20873505842747033825917143739743621578993172584 [(.var 2)])] []],
  .for_ (.one 3) (.val (.attr (.var 0) 4705521291157225747889372490891380)) [.expr (.meth (.var 0) 85525553048838452435796612866680672575463731298935710416998 [(.var 3)])],
  .asg (.attr (.var 0) 9527910938742439441923968210238380703845) (.meth (.var 0) 817781968424305856020720693277975001885178188133497416857951756894079352307829 []),
  .asg (.attr (.var 0) 87879469192763632568941775319736026401969400547484486336628) (.meth (.var 0) 76894537040247973696483349677575856673244932794782289231988 []),
  .expr (.meth (.var 0) 179360084627477658202635738266585308677210351137292936563493175412 []),
  .for_ (.one 2) (.val (.var 1)) [.ite (.cmp .eq (.item (.var 2) (.cst (.int 0))) (.cst (.str 1033018165107204554863))) [.raise] []]] }
noncomputable def f_Signatures_take_sig:FDef :=
 { params:=2,slots:=3,body:=[.for_ (.one 2) (.val (.item (.var 1) (.cst (.int 2)))) [.ite (.cmp .in_ (.var 2) (.attr (.var 0) 8677204859181125939181893442046368153716)) [.raise] [],
   .asg (.item (.attr (.var 0) 8677204859181125939181893442046368153716) (.var 2)) (.var 1),
   .mth .app (.attr (.var 0) 4705521291157225747889372490891380) (.var 2)],
  .ite (.and [(.cmp .gt (.bi .len [(.item (.var 1) (.cst (.int 6)))]) (.cst (.int 0))),(.glob 999)]) [.raise] []] }
noncomputable def f_Signatures_look_above:FDef :=
 { params:=2,slots:=3,body:=[.for_ (.one 2) (.val (.meth (.var 0) 4097048790276888180281264314515573 [(.var 1)])) [.ite (.cmp .notIn (.var 2) (.attr (.var 0) 8677204859181125939181893442046368153716)) [.raise] []],
  .ite (.and [(.cmp .ne (.meth (.var 0) 4583826466022023359783464006058101 [(.var 1)]) (.cst (.str 0))),(.meth (.var 0) 39659329125711092606305090799358782114758691848716405 [(.meth (.var 0) 4583826466022023359783464006058101 [(.var 1)])])]) [.raise] []] }
noncomputable def f_Signatures_direct:FDef :=
 { params:=2,slots:=2,body:=[.ret (.bin .add (.ite (.cmp .ne (.meth (.var 0) 4583826466022023359783464006058101 [(.var 1)]) (.cst (.str 0))) (.tup [(.meth (.var 0) 4583826466022023359783464006058101 [(.var 1)])]) (.tup [])) (.meth (.var 0) 4705521310500177212264409718587508 [(.var 1)]))] }
noncomputable def f_Signatures_parents_first:FDef :=
 { params:=1,slots:=6,body:=[.asgTs false [1,2] [(.mut (.list [])),(.mut (.bi .list [(.attr (.var 0) 4705521291157225747889372490891380)]))],
  .while_ (.cmp .gt (.bi .len [(.var 2)]) (.cst (.int 0))) [.asg (.name 3) (.comp (.gen (.one 4) (.val (.var 2)) [(.cmp .eq (.comp (.gen (.one 5) (.val (.meth (.var 0) 4097048790276888180281264314515573 [(.var 4)])) [(.cmp .notIn (.var 5) (.var 1))] (.elt (.var 5)))) (.list []))] (.elt (.var 4)))),
   .ite (.cmp .eq (.bi .len [(.var 3)]) (.cst (.int 0))) [.raise] [],
   .mth .app (.var 1) (.item (.var 3) (.cst (.int 0))),
   .mth .rem (.var 2) (.item (.var 3) (.cst (.int 0)))],
  .ret (.var 1)] }
noncomputable def f_Signatures_all_fields:FDef :=
 { params:=1,slots:=10,body:=[.asgTs true [1,2] [(.mut (.list [])),(.cst (.int 0))],
  .for_ (.one 3) (.val (.attr (.var 0) 9527910938742439441923968210238380703845)) [.for_ (.many [4,5,6,7,8]) (.val (.item (.item (.attr (.var 0) 8677204859181125939181893442046368153716) (.var 3)) (.cst (.int 7)))) [.for_ (.one 9) (.val (.var 6)) [.mth .app (.var 1) (.tup [(.var 9),(.var 3),(.var 7),(.var 8),(.var 4),(.ite (.var 5) (.glob 999) (.cst (.int (-1))))])],
    .asg (.name 2) (.bin .add (.var 2) (.ite (.var 5) (.cst (.int 1)) (.cst (.int 0))))]],
  .ret (.var 1)] }
noncomputable def f_Signatures_look_fields:FDef :=
 { params:=1,slots:=9,body:=[.asg (.name 1) (.mut (.dict [])),
  .for_ (.many [2,3,4,5,6,7]) (.val (.attr (.var 0) 87879469192763632568941775319736026401969400547484486336628)) [.ite (.cmp .in_ (.var 2) (.attr (.var 0) 8677204859181125939181893442046368153716)) [.raise] [],
   .for_ (.one 8) (.val (.bin .add (.list [(.var 3)]) (.meth (.var 0) 36666172523616778228990244614959538096012432804675686 [(.var 3)]))) [.ite (.cmp .in_ (.tup [(.var 2),(.var 8)]) (.var 1)) [.raise] []],
   .asg (.item (.var 1) (.tup [(.var 2),(.var 3)])) (.cst (.bool true))]] }
noncomputable def f_Signatures_has:FDef :=
 { params:=2,slots:=2,body:=[.ret (.cmp .in_ (.var 1) (.attr (.var 0) 8677204859181125939181893442046368153716))] }
noncomputable def f_Signatures_parent:FDef :=
 { params:=2,slots:=2,body:=[.ret (.item (.item (.attr (.var 0) 8677204859181125939181893442046368153716) (.var 1)) (.cst (.int 5)))] }
noncomputable def f_Signatures_supers:FDef :=
 { params:=2,slots:=2,body:=[.ret (.bi .tuple [(.item (.item (.attr (.var 0) 8677204859181125939181893442046368153716) (.var 1)) (.cst (.int 6)))])] }
noncomputable def f_Signatures_is_subset:FDef :=
 { params:=2,slots:=2,body:=[.ret (.cmp .gt (.bi .len [(.item (.item (.attr (.var 0) 8677204859181125939181893442046368153716) (.var 1)) (.cst (.int 6)))]) (.cst (.int 0)))] }
noncomputable def f_Signatures_all_above:FDef :=
 { params:=2,slots:=5,body:=[.asgTs true [2,3] [(.list []),(.bi .list [(.meth (.var 0) 4097048790276888180281264314515573 [(.var 1)])])],
  .while_ (.cmp .gt (.bi .len [(.var 3)]) (.cst (.int 0))) [.raise,
   .raise],
  .ret (.var 2)] }
noncomputable def f_Signatures_fields:FDef :=
 { params:=1,slots:=1,body:=[.ret (.bi .list [(.attr (.var 0) 87879469192763632568941775319736026401969400547484486336628)])] }
noncomputable def f_Signatures_orders:FDef :=
 { params:=1,slots:=1,body:=[.ret (.bi .list [(.attr (.var 0) 4543261936956796822649674720608357)])] }
noncomputable def f_law_draw:FDef :=
 { params:=2,slots:=3,body:=[.asg (.item (.var 0) (.cst (.str 205521013))) (.bin .add (.item (.var 0) (.cst (.str 205521013))) (.cst (.int 1))),
  .asg (.name 2) (.item (.var 0) (.cst (.str 205521013))),
  .ite (.cmp .le (.var 2) (.bi .len [(.item (.var 0) (.cst (.str 1934282252167833826015314036)))])) [.ret (.bin .mod (.item (.item (.var 0) (.cst (.str 1934282252167833826015314036))) (.bin .sub (.var 2) (.cst (.int 1)))) (.var 1))] [],
  .ret (.bin .mod (.bin .mod (.bin .add (.bin .add (.bin .add (.bin .mul (.bin .mul (.cst (.int 7)) (.var 2)) (.var 2)) (.bin .div (.var 2) (.cst (.int 2)))) (.cst (.int 3))) (.item (.var 0) (.cst (.str 483785338519673)))) (.cst (.int 97))) (.var 1))] }
noncomputable def f_law_some:FDef :=
 { params:=2,slots:=4,body:=[.asg (.name 2) (.call 75 [(.var 0),(.cst (.int 4))]),
  .ite (.cmp .lt (.var 2) (.cst (.int 2))) [.ret (.tup [(.cst (.str 1023794727099668889702)),(.cst (.int 0)),(.sidx [(.str 66),(.str 67)] (.var 2))])] [],
  .asg (.name 3) (.tup [(.cst (.str 1023794727099668889702)),(.cst (.int 0)),(.item (.var 1) (.call 75 [(.var 0),(.bi .len [(.var 1)])]))]),
  .ret (.ite (.cmp .eq (.var 2) (.cst (.int 2))) (.var 3) (.tup [(.cst (.str 435406826897519)),(.cst (.int 0)),(.cst (.str 47)),(.var 3),(.tup [(.cst (.str 1023794727099668889702)),(.cst (.int 0)),(.cst (.str 103))])]))] }
noncomputable def f_law_decls:FDef :=
 { params:=3,slots:=14,body:=[.asgTs true [3,4,5] [(.mut (.list [])),(.mut (.bi .list [(.var 1)])),(.bin .add (.cst (.int 1)) (.call 75 [(.var 0),(.cst (.int 2))]))],
  .for_ (.one 6) (.range (.var 5)) [.asg (.name 7) (.call 75 [(.var 0),(.cst (.int 3))]),
   .asg (.name 8) (.bin .add (.cst (.int 1)) (.call 75 [(.var 0),(.ite (.cmp .eq (.var 6) (.cst (.int 1))) (.cst (.int 1)) (.ite (.cmp .gt (.var 2) (.cst (.int 1))) (.bin .add (.bin .sub (.var 2) (.var 5)) (.cst (.int 1))) (.cst (.int 1))))])),
   .asg (.name 9) (.bi .tuple [(.comp (.gen (.one 13) (.range (.var 8)) [] (.elt (.sidx [(.str 121),(.str 122),(.str 123)] (.bin .mod (.bin .add (.var 7) (.var 13)) (.cst (.int 3)))))))]),
   .asg (.name 10) (.call 75 [(.var 0),(.cst (.int 4))]),
   .asg (.name 11) (.tup [(.cst (.str 1023794727099668889702)),(.cst (.int 0)),(.sidx [(.str 66),(.str 67)] (.bin .mod (.var 10) (.cst (.int 2))))]),
   .ite (.cmp .gt (.var 10) (.cst (.int 1))) [.asg (.name 12) (.tup [(.cst (.str 1023794727099668889702)),(.cst (.int 0)),(.item (.var 4) (.call 75 [(.var 0),(.bi .len [(.var 4)])]))]),
    .asg (.name 11) (.tup [(.cst (.str 435406826897519)),(.cst (.int 0)),(.cst (.str 39)),(.var 11),(.tup [(.cst (.str 435406826897519)),(.cst (.int 0)),(.cst (.str 47)),(.var 12),(.tup [(.cst (.str 1023794727099668889702)),(.cst (.int 0)),(.cst (.str 103))])])])] [],
   .mth .app (.var 3) (.tup [(.cst (.int 0)),(.cmp .eq (.call 75 [(.var 0),(.cst (.int 2))]) (.cst (.int 1))),(.var 9),(.item (.tup [(.cst (.str 0)),(.cst (.str 492581442027622))]) (.call 75 [(.var 0),(.cst (.int 2))])),(.var 11)]),
   .mth .ext (.var 4) (.var 9)],
  .ret (.tup [(.bi .tuple [(.var 3)]),(.var 4)])] }
noncomputable def f_law_body:FDef :=
 { params:=3,slots:=9,body:=[.asg (.name 3) (.call 75 [(.var 0),(.ite (.cmp .gt (.var 2) (.cst (.int 0))) (.cst (.int 6)) (.cst (.int 3)))]),
  .ite (.cmp .lt (.var 3) (.cst (.int 2))) [.ret (.tup [(.cst (.str 435406826897519)),(.cst (.int 0)),(.item (.tup [(.cst (.str 222298223)),(.cst (.str 62))]) (.var 3)),(.call 76 [(.var 0),(.var 1)]),(.call 76 [(.var 0),(.var 1)])])] [],
  .ite (.cmp .eq (.var 3) (.cst (.int 2))) [.ret (.tup [(.cst (.str 247464047)),(.cst (.int 0)),(.item (.tup [(.cst (.str 1069911648856593924198)),(.cst (.str 232783984)),(.cst (.str 1005348044598612590694)),(.cst (.str 492581442027622))]) (.call 75 [(.var 0),(.cst (.int 4))])),(.call 76 [(.var 0),(.var 1)])])] [],
  .ite (.cmp .eq (.var 3) (.cst (.int 3))) [.ret (.tup [(.cst (.str 247464047)),(.cst (.int 0)),(.cst (.str 34)),(.call 78 [(.var 0),(.var 1),(.bin .sub (.var 2) (.cst (.int 1)))])])] [],
  .ite (.cmp .eq (.var 3) (.cst (.int 4))) [.asgTs true [4,5] [(.sidx [(.str 121),(.str 122),(.str 123)] (.call 75 [(.var 0),(.cst (.int 3))])),(.call 76 [(.var 0),(.var 1)])],
   .ret (.tup [(.cst (.str 479387283619957)),(.cst (.int 0)),(.var 4),(.var 5),(.call 78 [(.var 0),(.bin .add (.var 1) (.list [(.var 4)])),(.bin .sub (.var 2) (.cst (.int 1)))])])] [],
  .asg (.name 6) (.item (.tup [(.cst (.str 431008786677869)),(.cst (.str 1069911648856593924198)),(.cst (.str 232783984)),(.cst (.str 1005348044598612590694)),(.cst (.str 492581442027622))]) (.call 75 [(.var 0),(.cst (.int 5))])),
  .asgT [7,8] (.call 77 [(.var 0),(.var 1),(.cst (.int 1))]),
  .ret (.tup [(.cst (.str 2205081783335414972318482549)),(.cst (.int 0)),(.var 6),(.var 7),(.call 78 [(.var 0),(.var 8),(.bin .sub (.var 2) (.cst (.int 1)))])])] }
noncomputable def f_law_is_many:FDef :=
 { params:=2,slots:=2,body:=[.ite (.cmp .in_ (.var 0) (.tup [(.cst (.str 1069911648856593924198)),(.cst (.str 232783984))])) [.ret (.cmp .eq (.cmp .gt (.var 1) (.cst (.int 0))) (.cmp .eq (.var 0) (.cst (.str 1069911648856593924198))))] [],
  .ret (.ite (.cmp .eq (.var 0) (.cst (.str 492581442027622))) (.cmp .eq (.var 1) (.cst (.int 1))) (.cmp .lt (.var 1) (.cst (.int 2))))] }
noncomputable def f_law_ways:FDef :=
 { params:=3,slots:=18,body:=[.asg (.name 3) (.list [(.var 1)]),
  .for_ (.many [4,5,6,7,8]) (.val (.var 0)) [.asg (.name 9) (.mut (.list [])),
   .for_ (.one 10) (.val (.var 3)) [.asg (.name 11) (.list [(.tup [])]),
    .for_ (.one 12) (.val (.var 6)) [.asg (.name 11) (.comp (.gen (.one 14) (.val (.var 11)) [] (.gen (.one 15) (.val (.call 81 [(.var 8),(.var 10),(.var 2)])) [] (.elt (.bin .add (.var 14) (.tup [(.var 15)]))))))],
    .for_ (.one 13) (.val (.var 11)) [.ite (.or [(.not (.var 5)),(.cmp .eq (.bi .lenSet [(.var 13)]) (.bi .len [(.var 13)]))]) [.mth .app (.var 9) (.bi .dict [(.bin .add (.bi .items [(.var 10)]) (.comp (.gen (.many [16,17]) (.zip (.var 6) (.var 13)) [] (.elt (.tup [(.var 16),(.list [(.var 17)])])))))])] []]],
   .asg (.name 3) (.var 9)],
  .ret (.var 3)] }
noncomputable def f_law_means:FDef :=
 { params:=3,slots:=10,body:=[.asg (.name 3) (.item (.var 0) (.cst (.int 0))),
  .ite (.cmp .eq (.var 3) (.cst (.str 1023794727099668889702))) [.ret (.ite (.cmp .in_ (.item (.var 0) (.cst (.int 2))) (.var 1)) (.item (.var 1) (.item (.var 0) (.cst (.int 2)))) (.item (.var 2) (.item (.var 0) (.cst (.int 2)))))] [],
  .ite (.and [(.cmp .eq (.var 3) (.cst (.str 435406826897519))),(.cmp .eq (.item (.var 0) (.cst (.int 2))) (.cst (.str 47)))]) [.asg (.name 4) (.call 81 [(.item (.var 0) (.cst (.int 3))),(.var 1),(.var 2)]),
   .ret (.comp (.gen (.one 6) (.val (.tup [(.cst (.int 0)),(.cst (.int 1)),(.cst (.int 2))])) [(.cmp .ne (.comp (.gen (.one 7) (.val (.var 4)) [(.cmp .in_ (.tup [(.var 7),(.var 6)]) (.item (.var 2) (.cst (.str 103))))] (.elt (.var 7)))) (.list []))] (.elt (.var 6))))] [],
  .ite (.cmp .eq (.var 3) (.cst (.str 435406826897519))) [.asgTs false [4,5] [(.call 81 [(.item (.var 0) (.cst (.int 3))),(.var 1),(.var 2)]),(.call 81 [(.item (.var 0) (.cst (.int 4))),(.var 1),(.var 2)])],
   .ite (.cmp .eq (.item (.var 0) (.cst (.int 2))) (.cst (.str 39))) [.ret (.comp (.gen (.one 8) (.val (.var 4)) [(.cmp .in_ (.var 8) (.var 5))] (.elt (.var 8))))] [],
   .ret (.ite (.cmp .eq (.item (.var 0) (.cst (.int 2))) (.cst (.str 62))) (.cmp .eq (.var 4) (.var 5)) (.cmp .eq (.comp (.gen (.one 9) (.val (.var 4)) [(.cmp .notIn (.var 9) (.var 5))] (.elt (.var 9)))) (.list [])))] [],
  .ite (.cmp .eq (.var 3) (.cst (.str 247464047))) [.asg (.name 4) (.call 81 [(.item (.var 0) (.cst (.int 3))),(.var 1),(.var 2)]),
   .ret (.ite (.cmp .eq (.item (.var 0) (.cst (.int 2))) (.cst (.str 34))) (.not (.var 4)) (.call 79 [(.item (.var 0) (.cst (.int 2))),(.bi .len [(.var 4)])]))] [],
  .ite (.cmp .eq (.var 3) (.cst (.str 479387283619957))) [.ret (.call 81 [(.item (.var 0) (.cst (.int 4))),(.bi .dict [(.bin .add (.bi .items [(.var 1)]) (.list [(.tup [(.item (.var 0) (.cst (.int 2))),(.call 81 [(.item (.var 0) (.cst (.int 3))),(.var 1),(.var 2)])])]))]),(.var 2)])] [],
  .ret (.call 82 [(.item (.var 0) (.cst (.int 2))),(.item (.var 0) (.cst (.int 3))),(.item (.var 0) (.cst (.int 4))),(.var 1),(.var 2)])] }
noncomputable def f_law_quantified:FDef :=
 { params:=5,slots:=7,body:=[.asg (.name 5) (.comp (.gen (.one 6) (.val (.call 80 [(.var 1),(.var 3),(.var 4)])) [] (.elt (.call 81 [(.var 2),(.var 6),(.var 4)])))),
  .ret (.ite (.cmp .eq (.var 0) (.cst (.str 431008786677869))) (.cmp .notIn (.cst (.bool false)) (.var 5)) (.call 79 [(.var 0),(.cntT (.var 5))]))] }
noncomputable def f_law_rows:FDef :=
 { params:=3,slots:=11,body:=[.asg (.name 3) (.item (.var 0) (.cst (.int 0))),
  .ite (.cmp .eq (.var 3) (.cst (.str 505775562686573))) [.ret (.item (.var 2) (.item (.var 0) (.cst (.int 1))))] [],
  .ite (.cmp .eq (.var 3) (.cst (.str 523367740342387))) [.ret (.list [(.item (.var 1) (.item (.var 0) (.cst (.int 1))))])] [],
  .ite (.cmp .eq (.var 3) (.cst (.str 922337696266917511281))) [.ret (.comp (.gen (.many [6,7]) (.val (.call 84 [(.item (.var 0) (.cst (.int 1))),(.var 1),(.var 2)])) [(.call 85 [(.item (.var 0) (.cst (.int 2))),(.var 7),(.var 2)])] (.elt (.var 6))))] [],
  .asgTs false [4,5] [(.call 83 [(.item (.var 0) (.cst (.int 1))),(.var 1),(.var 2)]),(.call 83 [(.item (.var 0) (.cst (.int 2))),(.var 1),(.var 2)])],
  .ite (.cmp .eq (.var 3) (.cst (.str 1014571372654983381109))) [.ret (.comp (.gen (.one 8) (.val (.var 4)) [(.cmp .in_ (.var 8) (.var 5))] (.elt (.var 8))))] [],
  .ret (.bi .sortedSet [(.comp (.gen (.one 9) (.val (.var 4)) [] (.gen (.one 10) (.val (.var 5)) [(.cmp .eq (.item (.var 9) (.cst (.int 0))) (.item (.var 10) (.cst (.int 0))))] (.elt (.sl (.var 10) (.cst (.int 1)) (.cst .none))))))])] }
noncomputable def f_law_choices:FDef :=
 { params:=3,slots:=10,body:=[.asg (.name 3) (.list [(.tup [(.tup []),(.var 1)])]),
  .for_ (.many [4,5]) (.val (.var 0)) [.asg (.name 6) (.mut (.list [])),
   .for_ (.many [7,8]) (.val (.var 3)) [.mth .ext (.var 6) (.comp (.gen (.one 9) (.val (.call 83 [(.var 5),(.var 8),(.var 2)])) [] (.elt (.tup [(.bin .add (.var 7) (.var 9)),(.bi .dict [(.bin .add (.bi .items [(.var 8)]) (.list [(.tup [(.var 4),(.var 9)])]))])]))))],
   .asg (.name 3) (.var 6)],
  .ret (.var 3)] }
noncomputable def f_law_holds:FDef :=
 { params:=3,slots:=11,body:=[.asg (.name 3) (.item (.var 0) (.cst (.int 0))),
  .ite (.cmp .in_ (.var 3) (.tup [(.cst (.str 431008786677869)),(.cst (.str 4137613899626305218353401740394612))])) [.asg (.name 4) (.comp (.gen (.many [7,8]) (.val (.call 84 [(.item (.var 0) (.cst (.int 1))),(.var 1),(.var 2)])) [] (.elt (.call 85 [(.item (.var 0) (.cst (.int 2))),(.var 8),(.var 2)])))),
   .ret (.ite (.cmp .eq (.var 3) (.cst (.str 431008786677869))) (.cmp .notIn (.cst (.bool false)) (.var 4)) (.cmp .in_ (.cst (.bool true)) (.var 4)))] [],
  .ite (.cmp .eq (.var 3) (.cst (.str 431008790872165))) [.ret (.cmp .notIn (.cst (.bool false)) (.comp (.gen (.one 9) (.val (.item (.var 0) (.cst (.int 1)))) [] (.elt (.call 85 [(.var 9),(.var 1),(.var 2)])))))] [],
  .ite (.cmp .eq (.var 3) (.cst (.str 488183397613685))) [.ret (.not (.call 85 [(.item (.var 0) (.cst (.int 1))),(.var 1),(.var 2)]))] [],
  .ite (.cmp .eq (.var 3) (.cst (.str 9017487185537167824034131633095323943028))) [.ret (.or [(.call 85 [(.item (.var 0) (.cst (.int 2))),(.var 1),(.var 2)]),(.not (.call 85 [(.item (.var 0) (.cst (.int 1))),(.var 1),(.var 2)]))])] [],
  .ite (.cmp .in_ (.var 3) (.tup [(.cst (.str 222298223)),(.cst (.str 1069911587283942768742))])) [.asgTs false [5,6] [(.call 83 [(.item (.var 0) (.cst (.int 1))),(.var 1),(.var 2)]),(.call 83 [(.item (.var 0) (.cst (.int 2))),(.var 1),(.var 2)])],
   .ret (.ite (.cmp .eq (.var 3) (.cst (.str 1069911587283942768742))) (.cmp .eq (.var 5) (.var 6)) (.cmp .eq (.comp (.gen (.one 10) (.val (.var 5)) [(.cmp .notIn (.var 10) (.var 6))] (.elt (.var 10)))) (.list [])))] [],
  .ret (.call 79 [(.var 3),(.bi .len [(.call 83 [(.item (.var 0) (.cst (.int 1))),(.var 1),(.var 2)])])])] }
noncomputable def f_law:FDef :=
 { params:=1,slots:=24,body:=[.asg (.name 1) (.comp (.gen (.one 17) (.val (.sl (.var 0) (.cst .none) (.cst (.int 40)))) [] (.elt (.bi .int [(.var 17)])))),
  .asg (.name 2) (.mut (.dict [(.cst (.str 1934282252167833826015314036)),(.var 1),(.cst (.str 205521013)),(.cst (.int 0)),(.cst (.str 483785338519673)),(.bi .sum [(.comp (.gen (.one 18) (.val (.var 1)) [] (.elt (.bin .mod (.bi .abs [(.var 18)]) (.cst (.int 1009))))))])])),
  .asg (.name 3) (.item (.tup [(.cst (.str 431008786677869)),(.cst (.str 1069911648856593924198)),(.cst (.str 232783984)),(.cst (.str 1005348044598612590694)),(.cst (.str 492581442027622))]) (.call 75 [(.var 2),(.cst (.int 5))])),
  .asgT [4,5] (.call 77 [(.var 2),(.list [(.cst (.str 123))]),(.cst (.int 3))]),
  .asg (.name 6) (.call 78 [(.var 2),(.var 5),(.ite (.cmp .lt (.bi .len [(.var 5)]) (.cst (.int 4))) (.cst (.int 1)) (.cst (.int 0)))]),
  .asg (.name 7) (.tup [(.cst (.int 0)),(.cst (.bool false)),(.tup [(.cst (.str 103))]),(.cst (.str 510173609197685)),(.tup [(.cst (.str 1023794727099668889702)),(.cst (.int 0)),(.cst (.str 66))])]),
  .asg (.name 8) (.list [(.tup [(.cst (.str 510173617586280)),(.cst (.int 0)),(.tup [(.cst (.str 66))]),(.cst (.bool false)),(.cst (.str 0)),(.cst (.str 0)),(.tup []),(.tup [(.var 7)]),(.tup [])]),(.tup [(.cst (.str 510173617586280)),(.cst (.int 0)),(.tup [(.cst (.str 67))]),(.cst (.bool false)),(.cst (.str 0)),(.cst (.str 66)),(.tup []),(.tup []),(.tup [])])]),
  .asg (.name 9) (.new 1 [(.new 2 [(.var 8)]),(.cst .none),(.var 8),(.dict [(.cst (.str 66)),(.cst (.int 0)),(.cst (.str 67)),(.cst (.int 1)),(.cst (.str 290271168299111)),(.cst (.int 2))])]),
  .asg (.name 10) (.meth (.var 9) 89448743878319145170253840814305577080801377922401295138917 [(.var 3),(.var 4),(.var 6),(.dict [(.cst (.str 123)),(.tup [(.cst (.str 523367740342387)),(.cst (.str 123))])])]),
  .for_ (.one 11) (.range (.cst (.int 2))) [.asg (.name 12) (.list [(.call 75 [(.var 2),(.bin .sub (.cst (.int 8)) (.var 11))]),(.call 75 [(.var 2),(.cst (.int 8))]),(.call 75 [(.var 2),(.cst (.int 512))])]),
   .asg (.name 13) (.comp (.gen (.one 19) (.val (.tup [(.cst (.int 0)),(.cst (.int 1)),(.cst (.int 2))])) [(.cmp .eq (.bin .band (.bin .shr (.item (.var 12) (.cst (.int 0))) (.var 19)) (.cst (.int 1))) (.cst (.int 1)))] (.elt (.var 19)))),
   .asg (.name 14) (.mut (.dict [(.cst (.str 66)),(.var 13),(.cst (.str 67)),(.comp (.gen (.one 20) (.val (.var 13)) [(.cmp .eq (.bin .band (.bin .shr (.item (.var 12) (.cst (.int 1))) (.var 20)) (.cst (.int 1))) (.cst (.int 1)))] (.elt (.var 20))))])),
   .asg (.item (.var 14) (.cst (.str 103))) (.comp (.gen (.one 21) (.range (.cst (.int 9))) [(.cmp .eq (.bin .band (.bin .shr (.item (.var 12) (.cst (.int 2))) (.var 21)) (.cst (.int 1))) (.cst (.int 1)))] (.elt (.tup [(.bin .div (.var 21) (.cst (.int 3))),(.bin .mod (.var 21) (.cst (.int 3)))])))),
   .asg (.name 15) (.call 75 [(.var 2),(.cst (.int 3))]),
   .asg (.name 16) (.list [(.comp (.gen (.one 22) (.val (.item (.var 14) (.cst (.str 66)))) [] (.elt (.tup [(.var 22)])))),(.comp (.gen (.one 23) (.val (.item (.var 14) (.cst (.str 67)))) [] (.elt (.tup [(.var 23)])))),(.item (.var 14) (.cst (.str 103)))]),
   .ite (.cmp .ne (.call 85 [(.var 10),(.dict [(.cst (.str 123)),(.tup [(.var 15)])]),(.var 16)]) (.call 82 [(.var 3),(.var 4),(.var 6),(.dict [(.cst (.str 123)),(.list [(.var 15)])]),(.var 14)])) [.raise] []],
  .ret (.cst (.bool true))] }
noncomputable def fnL:List (Nat × FDef):=[(1,f_all_of),(2,f_united),(3,f_Names___init),(4,f_Names_fresh),(5,f_Names_rel),(6,f_Names_owners),(8,f_Names_places),(9,f_Names_named),(13,f_Names_arity),(14,f_Names_arity_of_relation),(15,f_Opener___init),(16,f_Opener_spend),(17,f_Opener_measured),(18,f_Opener_used),(19,f_Opener_form),(21,f_Opener_value),(22,f_Opener_let_env),(23,f_Opener_begun),(24,f_Opener_call_of),(26,f_Opener_truth),(27,f_Opener_truth_of),(29,f_Opener_compared),(30,f_Opener_decls_of),(31,f_Opener_quantified),(32,f_Opener_expr),(33,f_Opener_expr_of),(37,f_Opener_wanted),(41,f_Opener_is_marked),(42,f_Opener_bounded),(52,f_Signatures___init),(53,f_Signatures_take_sig),(54,f_Signatures_look_above),(55,f_Signatures_direct),(56,f_Signatures_parents_first),(57,f_Signatures_all_fields),(58,f_Signatures_look_fields),(61,f_Signatures_has),(63,f_Signatures_parent),(64,f_Signatures_supers),(65,f_Signatures_is_subset),(69,f_Signatures_all_above),(72,f_Signatures_fields),(74,f_Signatures_orders),(75,f_law_draw),(76,f_law_some),(77,f_law_decls),(78,f_law_body),(79,f_law_is_many),(80,f_law_ways),(81,f_law_means),(82,f_law_quantified),(83,f_law_rows),(84,f_law_choices),(85,f_law_holds),(86,f_law)]
noncomputable def nmL:List (Nat × List (Str × Nat)):=[(1,[(("formulas":Str),0)]),(2,[(("exprs":Str),0),(("found":Str),1),(("expr":Str),2)]),(3,[(("self":Str),0),(("signatures":Str),1),(("kinds":Str),2),(("items":Str),3),(("numbers":Str),4),(("item":Str),5)]),(4,[(("self":Str),0),(("name":Str),1)]),(5,[(("self":Str),0),(("name":Str),1)]),(6,[(("self":Str),0),(("name":Str),1)]),(8,[(("self":Str),0),(("name":Str),1),(("last":Str),2),(("orders":Str),3)]),(9,[(("self":Str),0),(("name":Str),1),(("spot":Str),2),(("owners":Str),3),(("last":Str),4),(("orders":Str),5)]),(13,[(("self":Str),0),(("expr":Str),1),(("head":Str),2)]),(14,[(("self":Str),0),(("r":Str),1),(("field":Str),2)]),(15,[(("self":Str),0),(("signatures":Str),1),(("kinds":Str),2),(("items":Str),3),(("numbers":Str),4)]),(16,[(("self":Str),0),(("nodes":Str),1),(("levels":Str),2)]),(17,[(("self":Str),0),(("node":Str),1),(("env":Str),2),(("before":Str),3),(("peak":Str),4),(("found":Str),5),(("cost":Str),6)]),(18,[(("self":Str),0),(("name":Str),1),(("env":Str),2),(("nodes":Str),3),(("levels":Str),4)]),(19,[(("self":Str),0),(("node":Str),1),(("env":Str),2),(("op":Str),3),(("inner":Str),4),(("head":Str),5),(("name":Str),6),(("args":Str),7)]),(21,[(("self":Str),0),(("node":Str),1),(("env":Str),2),(("form":Str),3)]),(22,[(("self":Str),0),(("node":Str),1),(("env":Str),2),(("found":Str),3)]),(23,[(("self":Str),0),(("node":Str),1),(("env":Str),2),(("name":Str),3),(("args":Str),4)]),(24,[(("self":Str),0),(("node":Str),1),(("env":Str),2),(("name":Str),3),(("args":Str),4)]),(26,[(("self":Str),0),(("node":Str),1),(("env":Str),2),(("found":Str),3)]),(27,[(("self":Str),0),(("node":Str),1),(("env":Str),2),(("op":Str),3),(("before":Str),4),(("c":Str),5),(("one":Str),6),(("other":Str),7),(("name":Str),8),(("args":Str),9),(("inner":Str),10)]),(29,[(("self":Str),0),(("node":Str),1),(("env":Str),2),(("sign":Str),3),(("left":Str),4),(("right":Str),5),(("i":Str),6),(("j":Str),7)]),(30,[(("self":Str),0),(("decls":Str),1),(("env":Str),2),(("found":Str),3),(("apart":Str),4),(("spot":Str),5),(("is_disj":Str),6),(("names":Str),7),(("mult":Str),8),(("node":Str),9),(("domain":Str),10),(("some":Str),11),(("k":Str),12),(("name":Str),13)]),(31,[(("self":Str),0),(("q":Str),1),(("decls":Str),2),(("body":Str),3),(("env":Str),4),(("told":Str),5),(("inner":Str),6),(("apart":Str),7),(("formula":Str),8)]),(32,[(("self":Str),0),(("node":Str),1),(("env":Str),2),(("found":Str),3)]),(33,[(("self":Str),0),(("node":Str),1),(("env":Str),2),(("op":Str),3),(("told":Str),4),(("inner":Str),5),(("apart":Str),6),(("name":Str),7),(("args":Str),8),(("found":Str),9),(("one":Str),10)]),(37,[(("self":Str),0),(("value":Str),1),(("form":Str),2),(("spot":Str),3),(("is_number":Str),4)]),(41,[(("self":Str),0),(("node":Str),1)]),(42,[(("self":Str),0),(("value":Str),1),(("node":Str),2),(("env":Str),3),(("found":Str),4)]),(52,[(("self":Str),0),(("items":Str),1),(("item":Str),2),(("name":Str),3)]),(53,[(("self":Str),0),(("item":Str),1),(("name":Str),2)]),(54,[(("self":Str),0),(("name":Str),1),(("other":Str),2)]),(55,[(("self":Str),0),(("name":Str),1)]),(56,[(("self":Str),0),(("found":Str),1),(("rest":Str),2),(("able":Str),3)]),(57,[(("self":Str),0),(("found":Str),1),(("group":Str),2),(("name":Str),3),(("spot":Str),4),(("is_disj":Str),5),(("fields":Str),6),(("mult":Str),7),(("node":Str),8),(("field":Str),9)]),(58,[(("self":Str),0),(("seen":Str),1),(("field":Str),2),(("name":Str),3),(("mult":Str),4),(("node":Str),5),(("spot":Str),6),(("group":Str),7),(("other":Str),8)]),(61,[(("self":Str),0),(("name":Str),1)]),(63,[(("self":Str),0),(("name":Str),1)]),(64,[(("self":Str),0),(("name":Str),1)]),(65,[(("self":Str),0),(("name":Str),1)]),(69,[(("self":Str),0),(("name":Str),1),(("found":Str),2),(("waiting":Str),3),(("other":Str),4)]),(72,[(("self":Str),0)]),(74,[(("self":Str),0)]),(75,[(("feed":Str),0),(("wide":Str),1),(("here":Str),2)]),(76,[(("feed":Str),0),(("known":Str),1),(("way":Str),2),(("one":Str),3)]),(77,[(("feed":Str),0),(("known":Str),1),(("wide":Str),2),(("found":Str),3),(("here":Str),4),(("many":Str),5),(("lap":Str),6),(("first":Str),7),(("count":Str),8),(("labels":Str),9),(("way":Str),10),(("domain":Str),11),(("late":Str),12)]),(78,[(("feed":Str),0),(("known":Str),1),(("deep":Str),2),(("way":Str),3),(("late":Str),4),(("value":Str),5),(("word":Str),6),(("told":Str),7),(("here":Str),8)]),(79,[(("word":Str),0),(("much":Str),1)]),(80,[(("told":Str),0),(("env":Str),1),(("world":Str),2),(("found":Str),3),(("spot":Str),4),(("is_apart":Str),5),(("labels":Str),6),(("mark":Str),7),(("domain":Str),8),(("late":Str),9),(("one":Str),10),(("rows":Str),11),(("label":Str),12),(("row":Str),13)]),(81,[(("node":Str),0),(("env":Str),1),(("world":Str),2),(("kind":Str),3),(("one":Str),4),(("other":Str),5)]),(82,[(("word":Str),0),(("told":Str),1),(("body":Str),2),(("env":Str),3),(("world":Str),4),(("held":Str),5)]),(83,[(("expr":Str),0),(("env":Str),1),(("sets":Str),2),(("head":Str),3),(("one":Str),4),(("other":Str),5)]),(84,[(("told":Str),0),(("env":Str),1),(("sets":Str),2),(("found":Str),3),(("label":Str),4),(("expr":Str),5),(("late":Str),6),(("row":Str),7),(("one":Str),8)]),(85,[(("formula":Str),0),(("env":Str),1),(("sets":Str),2),(("head":Str),3),(("held":Str),4),(("one":Str),5),(("other":Str),6)]),(86,[(("script":Str),0),(("cells":Str),1),(("feed":Str),2),(("word":Str),3),(("told":Str),4),(("known":Str),5),(("body":Str),6),(("field":Str),7),(("items":Str),8),(("opener":Str),9),(("formula":Str),10),(("lap":Str),11),(("masks":Str),12),(("one":Str),13),(("world":Str),14),(("atom":Str),15),(("sets":Str),16)])]
noncomputable def mthL0:List (Nat × Nat):=[(1992310811413141719202398313,4),(505775562686573,5),(4543262072356571629796891589345396,6),(4583826678792810814624776111259764,8),(2147053159526524811376328805,9),(1895596745843988977414045818,13),(13718444222045834973046468235386452060926671848844973262849473248587749245040621500453887869439101108335,14)]
noncomputable def mthL1:List (Nat × Nat):=[(1992310811413141719202398313,4),(505775562686573,5),(4543262072356571629796891589345396,6),(4583826678792810814624776111259764,8),(2147053159526524811376328805,9),(1895596745843988977414045818,13),(13718444222045834973046468235386452060926671848844973262849473248587749245040621500453887869439101108335,14),(2243767363446240513821245541,16),(19624664451911280203008333532949299169285111909,17),(1088358410522472743013,18),(950007812377492324462,19),(2301795664437192947725762662,21),(9272698636209395384337487287709031465079,22),(1914939439053977769006334063,23),(8507063148377852269946524166966015426663,24),(2263110195006889023082856553,26),(20873507288947498888387828772211953481738616935,27),(17840605686735234431804093745855180624776659045,29),(18019010797617156466320776713756646825720283239,30),(89448743878319145170253840814305577080801377922401295138917,31),(940784479923051954291,32),(8677205264829240640962846540743768539239,33),(4867780200473109852296548783751269,37),(39659329125711092606061701497258847366907394231631973,41),(8421993124555260641663923658296188207205,42),(0,3)]
noncomputable def mthL2:List (Nat × Nat):=[(20873505842747033825917143739743621578993172584,53),(85525553048838452435796612866680672575463731298935710416998,54),(4097048790276888180281264314515573,55),(817781968424305856020720693277975001885178188133497416857951756894079352307829,56),(76894537040247973696483349677575856673244932794782289231988,57),(179360084627477658202635738266585308677210351137292936563493175412,58),(461795089186932,61),(4583826466022023359783464006058101,63),(4705521310500177212264409718587508,64),(39659329125711092606305090799358782114758691848716405,65),(36666172523616778228990244614959538096012432804675686,69),(4178178428691374958171360535249012,72),(4543261975642413826906189065093236,74)]
noncomputable def initL:List (Nat × Nat):=[(0,3),(1,15),(2,52)]
noncomputable def globL:List (Nat × V):=[(0,(.int 20000)),(1,(.int 100)),(2,(.tup [(.str 488183410196590),(.str 1934282344401593776985866357),(.str 1042241519551906840692),(.str 1005348000618157965428),(.str 2263110111996505506986328180),(.str 510173642752110),(.str 4056483951726744055527172950982758)])),(4,(.tup [(.str 1079135034087605010534),(.str 1992310654615847878996787302),(.str 488183397613685),(.str 431008790872165),(.str 234881139),(.str 9017487185537167824034131633095323943028),(.str 466193146183783),(.str 222298223),(.str 1069911587283942768742),(.str 1069911648856593924198),(.str 232783984),(.str 492581442027622),(.str 1005348044598612590694),(.str 431008786677869),(.str 4137613899626305218353401740394612),(.str 228589670),(.str 228589685),(.str 213909618)])),(7,(.dict [((.str 44),(.str 2282452971227182165890433135)),((.str 39),(.str 1014571372654983381109)),((.str 46),(.str 2127710420199671437499302004)),((.str 47),(.str 986901300524892553327)),((.str 92274732),(.str 19981477821287991846518861117233156356625662054)),((.str 127926331),(.str 1895596653610251016640397413)),((.str 123732031),(.str 4015919074490936809546431789531237))])),(8,(.tup [(.str 127),(.str 95),(.str 43)]))]
noncomputable def mthL:List (Nat × List (Nat × Nat)):=[(0,mthL0),(1,mthL1),(2,mthL2)]
noncomputable def prog:Prog:=⟨fun k=>fnL.lookup k,fun c n=>(mthL.lookup c).bind fun l=>l.lookup n,fun c=>initL.lookup c,fun k=>globL.lookup k⟩
noncomputable def flds:List Str:=[("calls":Str),("count":Str),("entries":Str),("height":Str),("items":Str),("kinds":Str),("numbers":Str),("opened":Str),("ordered":Str),("own_fields":Str),("peak":Str),("signatures":Str),("spent":Str),("stands":Str)]
noncomputable def mths:List Str:=[("all_above":Str),("all_fields":Str),("arity":Str),("arity_of_relation":Str),("begun":Str),("bounded":Str),("call_of":Str),("compared":Str),("decls_of":Str),("direct":Str),("expr":Str),("expr_of":Str),("fields":Str),("form":Str),("fresh":Str),("has":Str),("is_marked":Str),("is_subset":Str),("let_env":Str),("look_above":Str),("look_fields":Str),("measured":Str),("named":Str),("orders":Str),("owners":Str),("parent":Str),("parents_first":Str),("places":Str),("quantified":Str),("rel":Str),("spend":Str),("supers":Str),("take_sig":Str),("truth":Str),("truth_of":Str),("used":Str),("value":Str),("wanted":Str)]
noncomputable def fnN:List (Str × Nat):=[(("all_of":Str),1),(("united":Str),2),(("_law_draw":Str),75),(("_law_some":Str),76),(("_law_decls":Str),77),(("_law_body":Str),78),(("_law_is_many":Str),79),(("_law_ways":Str),80),(("_law_means":Str),81),(("_law_quantified":Str),82),(("_law_rows":Str),83),(("_law_choices":Str),84),(("_law_holds":Str),85),(("law":Str),86)]
noncomputable def clsN:List (Str × Nat):=[(("Names":Str),0),(("Opener":Str),1),(("Signatures":Str),2)]
noncomputable def conN:List (Str × Nat):=[(("MOST_NODES":Str),0),(("MOST_LEVELS":Str),1),(("NUMBER_HEADS":Str),2),(("TRUTH_HEADS":Str),4),(("SET_SIGNS":Str),7),(("TURNED":Str),8)]
noncomputable def faL:List (Nat × Nat):=[(1,116),(2,123),(3,137),(4,144),(5,151),(6,156),(8,166),(9,171),(13,197),(14,202),(15,225),(16,232),(17,239),(18,246),(19,253),(21,267),(22,274),(23,281),(24,288),(26,300),(27,305),(29,319),(30,324),(31,331),(32,338),(33,345),(37,371),(41,399),(42,406),(52,486),(53,493),(54,500),(55,507),(56,512),(57,519),(58,526),(61,545),(63,559),(64,566),(65,573),(69,601),(72,622),(74,636),(75,650),(76,657),(77,662),(78,669),(79,676),(80,681),(81,686),(82,691),(83,696),(84,701),(85,706),(86,711)]
noncomputable def caL:List Nat:=[205,470,639]
noncomputable def fa (i:Nat):Nat:=(faL.lookup i).getD 1
noncomputable def ca (i:Nat):Nat:=caL.getD i 1
noncomputable def nms (i:Nat):List (Str × Nat):=(nmL.lookup i).getD []
end P3
end Mine.Internal
namespace Mine.Internal
open PySem PySem.W PyProof.Rows PySem.Calls
section
variable {O:KeyOrd} {key:Nat→O.α} {N:Nat}
noncomputable def KP (key:Nat→O.α) (p:Array Nat) (k:Nat):O.α:=key (p.getD k 0)
theorem KP_congr {xs ys:Array Nat} {i j:Nat} (h:xs[i]? = ys[j]?):KP key xs i = KP key ys j:=by delta KP; rw [Array.getD_eq_getD_getElem?,Array.getD_eq_getD_getElem?,h]
noncomputable def POk (N:Nat) (p:Array Nat):Prop:=p.Perm (List.toArray (List.range N))
noncomputable def Up (key:Nat→O.α) (p:Array Nat) (k:Nat):Prop:=∀ i,i + 1 < k→O.klt (KP key p i) (KP key p (i + 1))
noncomputable def Dn (key:Nat→O.α) (p:Array Nat) (k:Nat):Prop:=∀ i,i + 1 < k→O.klt (KP key p (i + 1)) (KP key p i)
variable {cmp:Nat→Nat→(Bool→Shared→Prop)→Shared→Prop} {s:Shared} {p:Array Nat}
structure CmpOk (O:KeyOrd) (key:Nat→O.α) (N:Nat) (cmp:Nat→Nat→(Bool→Shared→Prop)→Shared→Prop) (s:Shared):Prop where
 c:∀ i j C,i < N→j < N→C (O.blt (key i) (key j)) s→cmp i j C s
 d:∀ i j,i < N→j < N→key i = key j→i = j
theorem POk.size (h:POk N p):p.size = N:=h.size_eq.trans (by rw [List.size_toArray,List.length_range])
theorem POk.get (h:POk N p) {k:Nat} (hk:k < N):∃ h:k < p.toList.length,p.getD k 0 = p.toList[k]:=by
 have hs:k < p.size:=by rw [h.size]; exact hk
 exact ⟨by rw [Array.length_toList]; exact hs,by rw [Array.getD_eq_getD_getElem?,Array.getElem?_eq_getElem hs]; rfl⟩
theorem POk.lt (h:POk N p) {k:Nat} (hk:k < N):p.getD k 0 < N:=by
 obtain ⟨h1,e⟩:=h.get hk
 rw [e]
 exact List.mem_range.mp ((Array.perm_iff_toList_perm.mp h).mem_iff.mp (List.getElem_mem h1))
theorem POk.inj (h:POk N p) {i j:Nat} (hi:i < N) (hj:j < N) (e:p.getD i 0 = p.getD j 0):i = j:=by
 obtain ⟨h1,e1⟩:=h.get hi
 obtain ⟨h2,e2⟩:=h.get hj
 exact (List.getElem_inj ((Array.perm_iff_toList_perm.mp h).nodup_iff.mpr List.nodup_range)).mp (e1.symm.trans (e.trans e2))
theorem Up.lt {k:Nat} (h:Up key p k):∀ {j i:Nat},i < j→j < k→O.klt (KP key p i) (KP key p j)
 | j + 1,i,hij,hj=>(Nat.lt_or_eq_of_le (Nat.le_of_lt_succ hij)).elim (fun q=>O.trans _ _ _ (h.lt q (Nat.lt_of_succ_lt hj)) (h j hj)) fun q=>q ▸ h i (q ▸ hj)
theorem POk.cut (h:POk N p) (hc:CmpOk O key N cmp s) {n:Nat} (hn:n + 1 < N) (h1:O.blt (KP key p (n + 1)) (KP key p n) = false):O.klt (KP key p n) (KP key p (n + 1)):=by
 cases e:O.blt (KP key p n) (KP key p (n + 1)) with
 | true=>exact e
 | false=>exact absurd (h.inj hn (Nat.lt_of_succ_lt hn) (hc.d _ _ (h.lt hn) (h.lt (Nat.lt_of_succ_lt hn)) (O.total _ _ h1 e))) (Nat.succ_ne_self n)
theorem asc_ok (hc:CmpOk O key N cmp s) (hp:POk N p) {nrem:Nat} (hn:nrem≤N) {Q:Nat→Shared→Prop}:∀ (f n:Nat),(n + 1) + f = nrem→Up key p (n + 1) →
  (∀ m,n≤m→m < nrem→Up key p (m + 1)→(m + 1 = nrem ∨ O.klt (KP key p (m + 1)) (KP key p m))→Q (m + 1) s)→(kas_asc p f (n + 1)).kasWp cmp Q s
 | 0,n,h2,hs,q=>q n (Nat.le_refl _) (Nat.lt_of_succ_le (Nat.le_of_eq h2)) hs (.inl h2)
 | f + 1,n,h2,hs,q=>by
  have hlt:n + 1 < nrem:=Nat.lt_of_lt_of_le (Nat.lt_add_of_pos_right (Nat.succ_pos f)) (Nat.le_of_eq h2)
  have hN:=Nat.lt_of_lt_of_le hlt hn
  refine hc.c _ _ _ (hp.lt hN) (hp.lt (Nat.lt_of_succ_lt hN)) ?_
  show KasT.kasWp cmp (if O.blt (KP key p (n + 1)) (KP key p n) = true then .ret (n + 1) else kas_asc p f (n + 1 + 1)) Q s
  cases hl:O.blt (KP key p (n + 1)) (KP key p n) with
  | true=>exact q n (Nat.le_refl _) (Nat.lt_of_succ_lt hlt) hs (.inr hl)
  | false=>exact asc_ok hc hp hn f (n + 1) (by rw [← h2,Nat.add_assoc (n + 1),Nat.add_comm 1 f]) (fun i hi=>(Nat.lt_or_eq_of_le (Nat.le_of_lt_succ hi)).elim (hs i) fun e=>Nat.succ.inj e ▸ hp.cut hc (Nat.succ.inj e ▸ hN) (Nat.succ.inj e ▸ hl)) fun m a=>q m (Nat.le_of_succ_le a)
theorem desc_ok (hc:CmpOk O key N cmp s) (hp:POk N p) {nrem:Nat} (hn:nrem≤N) {Q:Array Nat × Nat × Nat→Shared→Prop}:∀ (f n:Nat),(n + 1) + f = nrem→Dn key p (n + 1) →
  (∀ m,m < nrem→Dn key p (m + 1)→Q (p,m + 1,0) s)→(kas_desc f p (n + 1) 0).kasWp cmp Q s
 | 0,n,h2,hs,q=>q n (Nat.lt_of_succ_le (Nat.le_of_eq h2)) hs
 | f + 1,n,h2,hs,q=>by
  have hlt:n + 1 < nrem:=Nat.lt_of_lt_of_le (Nat.lt_add_of_pos_right (Nat.succ_pos f)) (Nat.le_of_eq h2)
  have hN:=Nat.lt_of_lt_of_le hlt hn
  have h1:=hp.lt hN
  have h0:=hp.lt (Nat.lt_of_succ_lt hN)
  refine hc.c _ _ _ h1 h0 ?_
  show KasT.kasWp cmp (if O.blt (KP key p (n + 1)) (KP key p n) = true then kas_desc f p (n + 1 + 1) 0 else .ask (p.getD n 0) (p.getD (n + 1) 0) fun d=>if d = true then .ret (p,n + 1,0) else kas_desc f p (n + 1 + 1) 1) Q s
  cases hl:O.blt (KP key p (n + 1)) (KP key p n) with
  | true=>exact desc_ok hc hp hn f (n + 1) (by rw [← h2,Nat.add_assoc (n + 1),Nat.add_comm 1 f]) (fun i hi=>(Nat.lt_or_eq_of_le (Nat.le_of_lt_succ hi)).elim (hs i) fun e=>Nat.succ.inj e ▸ hl) q
  | false =>
   refine hc.c _ _ _ h0 h1 ?_
   show KasT.kasWp cmp (if O.blt (KP key p n) (KP key p (n + 1)) = true then .ret (p,n + 1,0) else kas_desc f p (n + 1 + 1) 1) Q s
   rw [show O.blt (KP key p n) (KP key p (n + 1)) = true from hp.cut hc hN hl]
   exact q n (Nat.lt_of_succ_lt hlt) hs
theorem Dn.rev (hp:POk N p) {n:Nat} (hn:n≤N) (hs:Dn key p n):Up key (kas_rev p 0 n) n:=fun i hi=>by
 have e:∀ k,k < n→KP key (kas_rev p 0 n) k = KP key p (n - 1 - k):=fun k hk=>KP_congr (by
  have e:(kas_rev p 0 n)[k]? = _:=getElem?_mirror_all (i:=0) (by rw [hp.size]; exact hn) k
  rw [e,if_pos ⟨Nat.zero_le _,hk⟩,Nat.zero_add])
 have lt:i < n - 1:=Nat.lt_sub_of_add_lt hi
 have e2:n - 1 - i = n - 1 - (i + 1) + 1:=(Nat.succ_pred_eq_of_pos (Nat.sub_pos_of_lt lt)).symm
 rw [e i (Nat.lt_of_succ_lt hi),e (i + 1) hi,e2]
 exact hs _ (e2 ▸ Nat.lt_of_le_of_lt (Nat.sub_le _ _) (Nat.sub_lt (Nat.lt_of_le_of_lt (Nat.zero_le _) hi) Nat.one_pos))
theorem count_ok {Q:Nat × Array Nat→Shared→Prop} (hp:POk (N + 1) p) (hc:CmpOk O key (N + 1) cmp s) (q:∀ m p',POk (N + 1) p'→m≤N→Up key p' (m + 1)→Q (m + 1,p') s):(kas_count (N + 1) p).kasWp cmp Q s:=by
 delta kas_count
 rw [KasT.kasWp_bind]
 refine asc_ok hc hp (Nat.le_refl _) N 0 (Nat.add_comm 1 N) (fun i hi=>absurd hi (Nat.not_lt.mpr (Nat.le_add_left 1 i))) fun n _ hn2 hsn hor=>?_
 have hnN:=Nat.le_of_lt_succ hn2
 by_cases hnn:n = N
 ·rw [if_pos (beq_iff_eq.mpr (congrArg (· + 1) hnn))]
  exact q n p hp hnN hsn
 ·rw [if_neg fun e=>hnn (Nat.succ.inj (beq_iff_eq.mp e))]
  have hlt:O.klt (KP key p (n + 1)) (KP key p n):=hor.resolve_left fun e=>hnn (Nat.succ.inj e)
  cases n with
  | succ n =>
   rw [if_pos (Nat.succ_lt_succ (Nat.succ_pos n))]
   refine hc.c _ _ _ (hp.lt (Nat.succ_pos N)) (hp.lt hn2) ?_
   show KasT.kasWp cmp (if O.blt (KP key p 0) (KP key p (n + 1)) = true then .ret (n + 1 + 1,p) else _) Q s
   rw [if_pos (show O.blt (KP key p 0) (KP key p (n + 1)) = true from hsn.lt (Nat.succ_pos n) (Nat.lt_succ_self _))]
   exact q (n + 1) p hp hnN hsn
  | zero =>
   rw [if_neg (Nat.lt_irrefl 1)]
   have h2:1 < N + 1:=Nat.succ_lt_succ (Nat.pos_of_ne_zero fun e=>hnn e.symm)
   delta kas_descPart
   rw [KasT.kasWp_bind]
   refine desc_ok hc hp (Nat.le_refl _) _ 1 (Nat.add_sub_of_le h2) (fun i hi=>by
    cases i with
    | zero=>exact hlt
    | succ i=>exact absurd hi (Nat.not_lt.mpr (Nat.le_add_left 2 i))) fun m hm hd=>?_
   show ((if 0 > 0 then _ else kas_tail3 (m + 1) (N + 1) p).kasWp cmp Q s)
   rw [if_neg (Nat.lt_irrefl 0)]
   delta kas_tail3
   rw [KasT.kasWp_bind]
   have hr:POk (N + 1) (kas_rev p 0 (m + 1)):=(mirror_perm p 0 (m + 1) _).trans hp
   exact asc_ok hc hr (Nat.le_refl _) _ m (Nat.add_sub_of_le hm) (hd.rev hp hm) fun k _ a2 a3 _=>q k _ hr (Nat.le_of_lt_succ a2) a3
theorem place_ok (hc:CmpOk O key N cmp s) (hp:POk N p) {k:Nat} (hk:k < N) (hs:Up key p k) {Q:Nat→Shared→Prop} (q:∀ l,l≤k→(∀ i,i < l→O.klt (KP key p i) (KP key p k))→(∀ i,l≤i→i < k→O.klt (KP key p k) (KP key p i))→Q l s) :
  ∀ (f l r:Nat),l≤r→r≤k→r≤l + f→(∀ i,i < l→O.klt (KP key p i) (KP key p k))→(∀ i,r≤i→i < k→O.klt (KP key p k) (KP key p i))→(kas_place p k f l r).kasWp cmp Q s
 | 0,l,r,h1,h2,h3,hlo,hhi=>q l (Nat.le_trans h1 h2) hlo fun i a b=>hhi i (Nat.le_trans h3 a) b
 | f + 1,l,r,h1,h2,h3,hlo,hhi=>by
  unfold kas_place
  by_cases hge:l ≥ r
  ·rw [if_pos hge]
   exact q l (Nat.le_trans h1 h2) hlo fun i a b=>hhi i (Nat.le_trans hge a) b
  ·rw [if_neg hge]
   have m1:l≤(l + r) / 2:=(Nat.le_div_iff_mul_le Nat.two_pos).mpr (by rw [Nat.mul_two]; exact Nat.add_le_add_left h1 l)
   have m2:(l + r) / 2 < r:=Nat.div_lt_of_lt_mul (by rw [Nat.two_mul]; exact Nat.add_lt_add_right (Nat.not_le.mp hge) r)
   have mk:=Nat.lt_of_lt_of_le m2 h2
   have h4:(l + r) / 2≤l + f:=Nat.le_of_lt_succ (Nat.lt_of_lt_of_le m2 h3)
   revert m1 m2 mk h4
   generalize (l + r) / 2 = m
   intro m1 m2 mk h4
   refine hc.c _ _ _ (hp.lt hk) (hp.lt (Nat.lt_trans mk hk)) ?_
   show KasT.kasWp cmp (if O.blt (KP key p k) (KP key p m) = true then kas_place p k f l m else kas_place p k f (m + 1) r) Q s
   cases hl:O.blt (KP key p k) (KP key p m) with
   | true=>exact place_ok hc hp hk hs q f l m m1 (Nat.le_of_lt mk) h4 hlo fun i a b=>(Nat.lt_or_eq_of_le a).elim (fun a=>O.trans _ _ _ hl (hs.lt a b)) fun e=>e ▸ hl
   | false =>
    have hmk:O.klt (KP key p m) (KP key p k):=by
     cases e:O.blt (KP key p m) (KP key p k) with
     | true=>exact e
     | false=>exact absurd (hp.inj hk (Nat.lt_trans mk hk) (hc.d _ _ (hp.lt hk) (hp.lt (Nat.lt_trans mk hk)) (O.total _ _ hl e))) (Nat.ne_of_gt mk)
    exact place_ok hc hp hk hs q f (m + 1) r m2 h2 (Nat.le_trans h3 (by rw [Nat.add_assoc m,Nat.add_comm 1 f]; exact Nat.add_le_add_right m1 (f + 1))) (fun i a=>(Nat.lt_or_eq_of_le (Nat.le_of_lt_succ a)).elim (fun a=>O.trans _ _ _ (hs.lt a mk) hmk) fun e=>e ▸ hmk) hhi
theorem KP_bubble {xs:Array Nat} {src l:Nat} (hs:src < xs.size) (hl:l≤src) (k:Nat) :
  KP key (bubble xs src (src - l)) k = if k = l then KP key xs src else if l < k∧k≤src then KP key xs (k - 1) else KP key xs k:=by
 have e:=getElem?_bubble hs (src - l) (Nat.sub_le _ _) k
 rw [Nat.sub_sub_self hl] at e
 by_cases h1:k = l
 ·rw [if_pos h1] at e ⊢; exact KP_congr e
 ·rw [if_neg h1] at e ⊢
  by_cases h2:l < k∧k≤src
  ·rw [if_pos h2] at e ⊢; exact KP_congr e
  ·rw [if_neg h2] at e ⊢; exact KP_congr e
theorem bins_ok (hc:CmpOk O key N cmp s) {Q:Array Nat→Shared→Prop}:∀ (f k:Nat) (p:Array Nat),POk N p→k + f = N→Up key p k→(∀ p',POk N p'→Up key p' N→Q p' s)→(kas_bin f p k).kasWp cmp Q s
 | 0,k,p,hp,h2,hs,q=>q p hp (h2 ▸ hs)
 | f + 1,k,p,hp,h2,hs,q=>by
  unfold kas_bin
  rw [KasT.kasWp_bind]
  have hk:k < N:=Nat.lt_of_lt_of_le (Nat.lt_add_of_pos_right (Nat.succ_pos f)) (Nat.le_of_eq h2)
  refine place_ok hc hp hk hs (fun l hlk hlo hhi=>?_) k 0 k (Nat.zero_le _) (Nat.le_refl _) (Nat.le_add_left _ _) (fun i hi=>absurd hi (Nat.not_lt_zero i)) fun i a b=>absurd b (Nat.not_lt.mpr a)
  refine bins_ok hc f (k + 1) _ ((bubble_perm p k (k - l)).trans hp) (by rw [← h2,Nat.add_assoc,Nat.add_comm 1 f]) (fun i hi=>?_) q
  have hks:k < p.size:=by rw [hp.size]; exact hk
  rw [KP_bubble hks hlk,KP_bubble hks hlk]
  have hi:=Nat.le_of_lt_succ hi
  rcases Nat.lt_trichotomy i l with h | h | h
  ·rw [if_neg (Nat.ne_of_lt h),if_neg fun e=>absurd e.1 (Nat.not_lt.mpr (Nat.le_of_lt h))]
   by_cases e:i + 1 = l
   ·rw [if_pos e]; exact hlo i h
   ·rw [if_neg e,if_neg fun w=>absurd h (Nat.not_lt.mpr (Nat.le_of_lt_succ w.1))]
    exact hs i (Nat.lt_of_lt_of_le (Nat.lt_of_le_of_ne h e) hlk)
  ·subst h
   rw [if_pos rfl,if_neg (Nat.succ_ne_self i),if_pos ⟨Nat.lt_succ_self i,hi⟩]
   exact hhi i (Nat.le_refl _) hi
  ·rw [if_neg (Nat.ne_of_gt h),if_pos ⟨h,Nat.le_of_lt hi⟩,if_neg (Nat.ne_of_gt (Nat.lt_succ_of_lt h)),if_pos ⟨Nat.lt_succ_of_lt h,hi⟩]
   cases i with
   | zero=>exact absurd h (Nat.not_lt_zero l)
   | succ i=>exact hs i hi
theorem sort_ok (hc:CmpOk O key (N + 1) cmp s) {Q:Array Nat→Shared→Prop} (q:∀ p',POk (N + 1) p'→Up key p' (N + 1)→Q p' s):(kas_sort (N + 1)).kasWp cmp Q s:=by
 delta kas_sort
 rw [KasT.kasWp_bind]
 refine count_ok (N:=N) (Array.Perm.refl _) hc fun m p' a1 a3 a4=>?_
 show (if m + 1 < N + 1 then kas_bin (N + 1 - max (m + 1) 1) p' (max (m + 1) 1) else .ret p').kasWp cmp Q s
 rw [Nat.max_eq_left (Nat.le_add_left 1 m)]
 by_cases hm:m + 1 < N + 1
 ·rw [if_pos hm]
  exact bins_ok hc _ _ p' a1 (Nat.add_sub_of_le (Nat.le_of_lt hm)) a4 q
 ·rw [if_neg hm]
  exact q p' a1 fun i hi=>a4 i (Nat.lt_of_lt_of_le hi (Nat.not_lt.mp hm))
end
end Mine.Internal
namespace Mine.Internal
open PySem PySem.W PyProof.Rows PySem.Calls
noncomputable def rlt:List Int→List Int→Bool
 | [],[]=>false
 | [],_ :: _=>true
 | _ :: _,[]=>false
 | a :: r,b :: t=>if a = b then rlt r t else decide (a < b)
noncomputable def natO:KeyOrd:=⟨Nat,fun a b=>decide (a < b),fun a=>decide_eq_false (Nat.lt_irrefl a),fun a b c h1 h2=>decide_eq_true (Nat.lt_trans (of_decide_eq_true h1) (of_decide_eq_true h2)),
 fun a b c h=>(Nat.lt_or_ge a b).imp (fun h=>decide_eq_true h) fun q=>decide_eq_true (Nat.lt_of_le_of_lt q (of_decide_eq_true h)),fun a b h1 h2=>Nat.le_antisymm (Nat.not_lt.mp (of_decide_eq_false h2)) (Nat.not_lt.mp (of_decide_eq_false h1))⟩
noncomputable def rix (k:List Int):Nat:=rowsI.idxOf k
theorem rlt_ix:(rowsI.all fun a=>rowsI.all fun b=>rlt a b == decide (rix a < rix b)) = true:=by decide +kernel
theorem rows_up:rowsI.Pairwise fun a b=>rix a < rix b:=by decide +kernel
theorem rix_inj {a b:List Int} (ha:a∈rowsI) (h:rix a = rix b):a = b:=by
 have l:rix a < rowsI.length:=List.idxOf_lt_length_iff.mpr ha
 rw [← List.getElem_idxOf l]
 have l2:rix b < rowsI.length:=h ▸ l
 rw [← List.getElem_idxOf l2]
 exact getElem_congr rfl h _
theorem beqs_ints:∀ {l:List V} {k:List Int},beqs l (k.map .int) = true→l = k.map .int
 | [],[],_=>rfl
 | [],_ :: _,h=>absurd h Bool.false_ne_true
 | _ :: _,[],h=>absurd h Bool.false_ne_true
 | v :: l,i :: k,h=>by
  have h:=Bool.and_eq_true_iff.mp (show (V.beq v (.int i) && beqs l (k.map .int)) = true from h)
  rw [beqs_ints h.2,List.map_cons,show v = .int i by
   have h1:=h.1
   cases v <;> first | exact congrArg V.int (of_decide_eq_true h1) | exact absurd h1 Bool.false_ne_true]
theorem beq_row {r:V} {k:List Int} (h:V.beq r (rowV k) = true):r = rowV k:=by
 cases r <;> first | exact congrArg V.tup (beqs_ints h) | exact absurd h Bool.false_ne_true
theorem beqs_rfl:∀ k:List Int,beqs (k.map .int) (k.map .int) = true
 | []=>rfl
 | i :: k=>Bool.and_eq_true_iff.mpr ⟨decide_eq_true rfl,beqs_rfl k⟩
theorem rowOk_of {r:V} (h:rowOk r = true):∃ k∈rowsI,r = rowV k:=by
 obtain ⟨x,hx,e⟩:=List.any_eq_true.mp h
 obtain ⟨k,hk,rfl⟩:=List.mem_map.mp hx
 exact ⟨k,hk,beq_row e⟩
theorem ints_inj:∀ {a b:List Int},a.map V.int = b.map V.int→a = b
 | [],[],_=>rfl
 | [],_ :: _,h=>nomatch h
 | _ :: _,[],h=>nomatch h
 | a :: r,b :: t,h=>by
  have h:=List.cons.inj h
  have h1:a = b:=by cases h.1; rfl
  rw [h1,ints_inj h.2]
theorem rowV_inj {a b:List Int} (h:rowV a = rowV b):a = b:=ints_inj (by
 have h:V.tup _ = V.tup _:=h
 cases a <;> cases b <;> (injection h))
theorem sortB_mem {l:List V} {k:List Int} (hk:k∈rowsI):rowV k∈sortB l ↔ rowV k∈l:=by
 delta sortB
 rw [List.mem_filter,List.any_eq_true]
 exact ⟨fun h=>h.2.elim fun x w=>beq_row w.2 ▸ w.1,fun h=>⟨List.mem_map.mpr ⟨k,hk,rfl⟩,rowV k,h,beqs_rfl k⟩⟩
noncomputable def ikey (v:V):List Int:=match v with
 | .tup l=>l.map fun | .int i=>i | _=>0
 | _=>[]
noncomputable def rkey (v:V):Nat:=rix (ikey v)
theorem ikey_row (k:List Int):ikey (rowV k) = k:=by
 show (k.map V.int).map _ = k
 rw [List.map_map]
 exact List.map_id k
theorem rkey_row (k:List Int):rkey (rowV k) = rix k:=congrArg rix (ikey_row k)
theorem sortB_up (l:List V):(sortB l).Pairwise fun a b=>rkey a < rkey b :=
 List.Pairwise.filter _ (List.pairwise_map.mpr (rows_up.imp fun {a b} h=>by rw [rkey_row,rkey_row]; exact h))
theorem up_nodup {k:List V} (h:k.Pairwise fun a b=>rkey a < rkey b):k.Nodup:=List.Pairwise.imp (fun {a b} (q:rkey a < rkey b) (e:a = b)=>Nat.ne_of_lt q (congrArg rkey e)) h
theorem mem_sortB {l:List V} (hl:l.all rowOk = true) (x:V):x∈l ↔ x∈sortB l :=
 ⟨fun h=>(rowOk_of (List.all_eq_true.mp hl x h)).elim fun q w=>by rw [w.2] at h ⊢; exact (sortB_mem w.1).mpr h,fun h=>(List.mem_map.mp (List.mem_filter.mp h).1).elim fun q w=>by rw [← w.2] at h ⊢; exact (sortB_mem w.1).mp h⟩
end Mine.Internal
namespace Mine.Internal
open PySem PySem.W PyProof.Rows PySem.Calls
section
variable {D:Wd} {N:Nx} {prog:Program} {w:World} {A:Around} {E:PV→Shared→Prop} {s:Shared}
theorem lex_ints {Q:Bool→Shared→Prop}:∀ {k e:List Int} {vs ws:List PV} (i:Nat),RVs D N (k.map .int) vs→RVs D N (e.map .int) ws→Q (rlt k e) s→KatLex prog w A true (decide (vs.length < ws.length)) Q (vs.zip ws) i s:=by
 intro k
 induction k with
 | nil =>
  intro e vs ws i r1 r2 q
  cases (r1:vs = [])
  cases e with
  | nil=>cases (r2:ws = []); exact kat_nil q
  | cons b e =>
   obtain ⟨v,t,rfl,_⟩:=r2
   exact kat_nil (by rw [show decide (([]:List PV).length < (v :: t).length) = true from decide_eq_true (Nat.succ_pos _)]; exact q)
 | cons a k ih =>
  intro e vs ws i r1 r2 q
  cases e with
  | nil =>
   cases (r2:ws = [])
   obtain ⟨v,t,rfl,_⟩:=r1
   exact kat_nil (by rw [show decide ((v :: t).length < ([]:List PV).length) = false from decide_eq_false (Nat.not_lt_zero _)]; exact q)
  | cons b e =>
   obtain ⟨_,vs,rfl,⟨t1,rfl⟩,r1⟩:=r1
   obtain ⟨_,ws,rfl,⟨t2,rfl⟩,r2⟩:=r2
   rw [List.zip_cons_cons]
   refine kat_cons (wpAny_eqBool_int ?_)
   have q:Q (if a = b then rlt k e else decide (a < b)) s:=q
   by_cases h:a = b
   ·subst h
    rw [if_pos rfl] at q
    rw [beq_self_eq_true]
    have w:=ih (i + 1) r1 r2 q
    rw [show decide (vs.length < ws.length) = decide ((PySem.Value.int a t1 :: vs).length < (PySem.Value.int a t2 :: ws).length) from decide_eq_decide.mpr Nat.succ_lt_succ_iff.symm] at w
    exact kat_yes w
   ·rw [if_neg h] at q
    rw [show (a == b) = false from beq_eq_false_iff_ne.mpr h]
    refine kat_no ?_
    cases i with
    | zero=>exact oneLt_int q
    | succ i=>exact kat_one _ _ (lt_int q)
noncomputable def RowAt (D:Wd) (N:Nx) (h:Heap) (v:PV) (k:List Int):Prop:=∃ a arr n,v = .ref a∧h.get? a = some { cls:=.type "tuple",dict:=none,data:=.seq arr n,slots:=#[] }∧RVs D N (k.map .int) arr.toList∧k∈rowsI
theorem RowAt.mono {h h':Heap} {v:PV} {k:List Int} (x:RowAt D N h v k) (hk:∀ a o,v = .ref a→h.get? a = some o→h'.get? a = some o):RowAt D N h' v k:=x.elim fun a q=>q.elim fun arr q=>q.elim fun n q=>⟨a,arr,n,q.1,hk a _ q.1 q.2.1,q.2.2⟩
theorem rows_cmp {vs:List PV} {key:Nat→List Int} (hr:∀ i v,vs[i]? = some v→RowAt D N s.heap v (key i)) (hd:∀ i j,i < vs.length→j < vs.length→rix (key i) = rix (key j)→i = j):CmpOk natO (fun i=>rix (key i)) vs.length (kas_ask prog w A (tuples' true) vs) s:=by
 refine ⟨fun i j C hi hj q=>?_,hd⟩
 obtain ⟨a,arr,k1,ea,t1,r1,m1⟩:=hr i vs[i] (List.getElem?_eq_getElem hi)
 obtain ⟨b,brr,k2,eb,t2,r2,m2⟩:=hr j vs[j] (List.getElem?_eq_getElem hj)
 delta kas_ask
 rw [show vs.getD i Value.none = vs[i] by rw [List.getD_eq_getElem?_getD,List.getElem?_eq_getElem hi]; rfl,show vs.getD j Value.none = vs[j] by rw [List.getD_eq_getElem?_getD,List.getElem?_eq_getElem hj]; rfl,ea,eb]
 refine kat_lt t1 rfl t2 rfl ?_
 have w:=lex_ints (prog:=prog) (w:=w) (A:=A) (s:=s) (Q:=C) 0 r1 r2 (by
  rw [eq_of_beq (List.all_eq_true.mp (List.all_eq_true.mp rlt_ix _ m1) _ m2)]; exact q)
 rw [Array.length_toList,Array.length_toList] at w
 exact w
theorem rows_kind {vs:List PV} {key:Nat→List Int} (hr:∀ i v,vs[i]? = some v→RowAt D N s.heap v (key i)) (h2:1≤vs.length) {Q:SortKind→Shared→Prop} (q:Q (tuples' true) s):wpAny (model prog w) A (keyKind' vs.toArray) Q E s:=by
 have fs:∀ (l:List PV),(∀ v∈l,∃ k,RowAt D N s.heap v k)→∃ f:List PV,KatTups s.heap l f∧f.length = l.length∧∀ v∈f,∃ n t,v = .int n t:=by
  intro l
  induction l with
  | nil=>exact fun _=>⟨[],KatTups.nil,rfl,fun _ h=>nomatch h⟩
  | cons v l ih =>
   intro h
   obtain ⟨f,t,hl,hi⟩:=ih fun v hv=>h v (List.mem_cons_of_mem _ hv)
   obtain ⟨k,a,⟨xs⟩,kk,rfl,ta,r,m⟩:=h v (List.mem_cons_self ..)
   cases k with
   | nil=>exact absurd m (by decide)
   | cons n k =>
    obtain ⟨_,xs',e,⟨t',rfl⟩,r⟩:=r
    have e:xs = _:=e
    subst e
    exact ⟨.int n t' :: f,KatTups.cons ta rfl rfl rfl t,congrArg (· + 1) hl,fun z hz=>(List.mem_cons.mp hz).elim (fun e=>⟨n,t',e⟩) (hi z)⟩
 obtain ⟨f,t,hl,hi⟩:=fs vs fun v hv=>(List.getElem?_of_mem hv).elim fun i hi=>⟨_,hr i v hi⟩
 exact kat_kind t (by rw [hl]; exact h2) (T:=.type "int") (fun v hv=>(hi v hv).elim fun n w=>w.elim fun t e=>e ▸ .now) (by decide) q
end
end Mine.Internal
namespace Mine.Internal
open PySem PySem.W PyProof.Rows PySem.Calls
section
variable {D:Wd} {N:Nx} {prog:Program} {w:World} {A:Around} {E:PV→Shared→Prop} {s:Shared}
noncomputable def pick (vs:List PV) (p:Array Nat):List PV:=p.toList.map fun i=>vs.getD i Value.none
theorem pick_id {vs:List PV}:List.toArray (pick vs (List.toArray (List.range vs.length))) = (pairsOf vs).map (·.2):=by
 apply Array.toList_inj.mp
 rw [Array.toList_map,pairsOf_toList]
 show (List.range vs.length).map (fun i=>vs.getD i Value.none) = _
 refine List.ext_getElem (by simp) fun i h1 h2=>?_
 rw [List.length_map,List.length_range] at h1
 simp [h1]
theorem sort_rows {a:Addr} {vs:List PV} {n:Nat} {key:Nat→List Int} {P:PySem.Fin→Shared→Prop} (ho:s.heap.get? a = some (seqObj "list" vs.toArray n)) (hr:∀ i v,vs[i]? = some v→RowAt D N s.heap v (key i)) (hd:∀ i j,i < vs.length→j < vs.length→rix (key i) = rix (key j)→i = j) (h64:vs.length < 64)
  (h:∀ p:Array Nat,POk vs.length p→Up (O:=natO) (fun i=>rix (key i)) p vs.length→P (.done (.ret .none)) { s with heap:=sortedHeap s.heap a vs (List.toArray (pick vs p)) }) :
  wpAny (model prog w) A (Builtin.«list.sort» ⟨[.ref a],[]⟩) P E s:=by
 rw [list_sort_plain]
 have ha:a < s.heap.objs.size:=Heap.lt_size ho
 have hz:∀ {n:Nat},n = vs.length→n≤sizeLine:=fun e=>by rw [sizeLine_eq,e]; exact Nat.le_trans (Nat.le_of_lt h64) (by decide)
 refine wpAny_bind (listItems_at ho rfl ?_)
 refine wpAny_bind (listUpdate_at ho rfl ?_ (hz (List.size_toArray ..)) (Nat.zero_le _))
 obtain ⟨e1,ho1⟩:∃ e1,(s.heap.update a (Obj.mapSeq fun _=>#[])).get? a = some (seqObj "list" #[] e1):=⟨_,get?_update_seq ho (fun _=>#[])⟩
 refine wpAny_bind (seqEpoch_at ho1 rfl ?_)
 refine wpAny_bind (wpAny_newTuple ?_ (hz rfl))
 refine wpAny_bind (wpAny_newList ?_ (Nat.zero_le _))
 refine wpAny_holding ?_
 have ho6:(((s.heap.update a (Obj.mapSeq fun _=>#[])).push (seqObj "tuple" vs.toArray 0)).push (seqObj "list" #[] 0)).get? a = some (seqObj "list" #[] e1):=Heap.get?_push_of_some _ (Heap.get?_push_of_some _ ho1)
 show wpAny (model prog w) A _ P E { s with heap:=((s.heap.update a (Obj.mapSeq fun _=>#[])).push (seqObj "tuple" vs.toArray 0)).push (seqObj "list" #[] 0) }
 dsimp only
 have hsz:vs.toArray.size = vs.length:=List.size_toArray ..
 by_cases h2:vs.toArray.size < 2
 ·rw [if_pos h2,if_pos h2]
  refine wpAny_bind (wpAny_pure ?_)
  rw [StateT.run_pure]
  refine wpAny_bind (wpAny_pure ?_)
  dsimp only
  refine wpAny_bind (seqEpoch_at ho6 rfl ?_)
  refine wpAny_bind (listUpdate_at ho6 rfl ?_ (hsz2:=by rw [Array.size_map]; exact Nat.le_succ_of_le (hz (pairsOf_size vs))))
  simp only [bne_self_eq_false,Bool.false_eq_true,if_false]
  refine wpAny_pure ?_
  have w:=h (List.toArray (List.range vs.length)) (Array.Perm.refl _) fun i hi=>absurd (Nat.lt_of_lt_of_le hi (Nat.le_of_lt_succ (hsz ▸ h2))) (Nat.not_lt.mpr (Nat.le_add_left 1 i))
  rw [pick_id] at w
  exact w
 ·rw [if_neg h2,if_neg h2]
  have h2:2≤vs.length:=hsz ▸ Nat.not_lt.mp h2
  have hr2:∀ i v,vs[i]? = some v→RowAt D N (((s.heap.update a (Obj.mapSeq fun _=>#[])).push (seqObj "tuple" vs.toArray 0)).push (seqObj "list" #[] 0)) v (key i):=fun i v hv=>(hr i v hv).mono fun b o eb eo=>by
   have nb:b ≠ a:=fun e=>by
    subst e
    obtain ⟨b',arr,n',e2,t,_⟩:=hr i v hv
    cases eb.symm.trans e2
    have w:=congrArg Obj.cls (Option.some.inj (ho.symm.trans t))
    exact absurd (Value.type.inj (show PySem.Value.type "list" = .type "tuple" from w)) (by decide)
   exact Heap.get?_push_of_some _ (Heap.get?_push_of_some _ (by rw [Heap.get?_update_ne _ _ _ _ nb]; exact eo))
  refine wpAny_bind (rows_kind hr2 (Nat.le_of_lt h2) ?_)
  have srt:(kas_sort vs.length).kasWp (kas_ask prog w A (tuples' true) vs) (fun p s'=>s' = { s with heap:=((s.heap.update a (Obj.mapSeq fun _=>#[])).push (seqObj "tuple" vs.toArray 0)).push (seqObj "list" #[] 0) }∧POk vs.length p∧Up (O:=natO) (fun i=>rix (key i)) p vs.length) { s with heap:=((s.heap.update a (Obj.mapSeq fun _=>#[])).push (seqObj "tuple" vs.toArray 0)).push (seqObj "list" #[] 0) }:=by
   have w:=rows_cmp (prog:=prog) (w:=w) (A:=A) (s:={ s with heap:=((s.heap.update a (Obj.mapSeq fun _=>#[])).push (seqObj "tuple" vs.toArray 0)).push (seqObj "list" #[] 0) }) hr2 hd
   revert w h2
   generalize vs.length = n
   intro h2 w
   cases n with
   | zero=>exact absurd h2 (Nat.not_succ_le_zero 1)
   | succ n=>exact sort_ok w fun p' a1 a2=>⟨rfl,a1,a2⟩
  refine wpAny_bind (wpAny_mono (kat_run (E:=E) (ks:=vs) (Q:=fun st' s'=>s' = { s with heap:=((s.heap.update a (Obj.mapSeq fun _=>#[])).push (seqObj "tuple" vs.toArray 0)).push (seqObj "list" #[] 0) }∧∃ p:Array Nat,POk vs.length p∧Up (O:=natO) (fun i=>rix (key i)) p vs.length∧arrOf st' = p.map (kas_item (vs.toArray.zip vs.toArray))∧failedOf st' = none)
   rfl h2 h64 (fun p st' s' a1 a2 a3 a4=>⟨a4.1,p,a4.2.1,a4.2.2,a2,a3⟩) srt) ?_ fun _ _ e=>e)
  rintro ⟨⟨⟩,st'⟩ s' ⟨rfl,p,hp,hs,har,hf⟩
  dsimp only
  have hout:=kat_snds (ks:=vs) (vs:=vs) rfl har
  refine wpAny_bind (seqEpoch_at ho6 rfl ?_)
  refine wpAny_bind (listUpdate_at ho6 rfl ?_ (hsz2:=by rw [hout,List.size_toArray,List.length_map,Array.length_toList]; exact Nat.le_succ_of_le (hz hp.size)))
  rw [hf,hout]
  simp only [bne_self_eq_false,Bool.false_eq_true,if_false]
  exact wpAny_pure (h p hp hs)
end
end Mine.Internal
namespace Mine.Internal
open PySem PySem.W PyProof.Rows PySem.Calls
section
variable {B:Bd} {G:Ev} {N:Nx} {u:Nat} {Q E:PV→Shared→Prop}
theorem getD_at {α:Type} {l:List α} {i:Nat} {d:α} (h:i < l.length):l.getD i d = l[i]:=by rw [List.getD_eq_getElem?_getD,List.getElem?_eq_getElem h]; rfl
theorem row_at {d:V} {v:PV} (hd:rowOk d = true) (r:Val B N d v):RowAt B.D N N.s.heap v (ikey d):=by
 obtain ⟨k,hk,rfl⟩:=rowOk_of hd
 obtain ⟨a,arr,rfl,wa,⟨n,t⟩,rs⟩:=r
 exact ⟨a,arr,n,rfl,t,by rw [ikey_row]; exact rs,by rw [ikey_row]; exact hk⟩
theorem rows_at {l:List V} {vs:List PV} (hl:l.all rowOk = true) (rs:Vals B N l vs):∀ i v,vs[i]? = some v→RowAt B.D N N.s.heap v (ikey (l.getD i .none)):=fun i v e=>by
 have hi:i < l.length:=(RVs_length rs).symm ▸ (List.getElem?_eq_some_iff.mp e).1
 obtain ⟨w,e1,r⟩:=RVs_get rs (List.getElem?_eq_getElem hi)
 cases e.symm.trans e1
 rw [getD_at hi]
 exact row_at (List.all_eq_true.mp hl _ (List.getElem_mem hi)) r
theorem RVs_pick {l:List V} {vs:List PV} (rs:Vals B N l vs):∀ (p:List Nat),(∀ i∈p,i < l.length)→Vals B N (p.map fun i=>l.getD i .none) (p.map fun i=>vs.getD i Value.none)
 | [],_=>rfl
 | i :: p,hp=>by
  have hi:=hp i (List.mem_cons_self ..)
  obtain ⟨w,e1,r⟩:=RVs_get rs (List.getElem?_eq_getElem hi)
  refine ⟨_,_,rfl,?_,RVs_pick rs p fun j hj=>hp j (List.mem_cons_of_mem _ hj)⟩
  show RV B.D N (l.getD i V.none) (vs.getD i Value.none)
  rw [getD_at hi,List.getD_eq_getElem?_getD,e1]
  exact r
theorem POk.mem {n i:Nat} {p:Array Nat} (hp:POk n p):i∈p.toList→i < n:=fun h=>List.mem_range.mp ((Array.perm_iff_toList_perm.mp hp).mem_iff.mp h)
theorem pick_perm {l:List V} {p:Array Nat} (hp:POk l.length p):(p.toList.map fun i=>l.getD i V.none).Perm l:=by
 refine ((Array.perm_iff_toList_perm.mp hp).map fun i=>l.getD i V.none).trans (List.Perm.of_eq ?_)
 refine List.ext_getElem ((List.length_map ..).trans List.length_range) fun i h1 h2=>?_
 rw [List.getElem_map,← getD_at h2 (d:=V.none)]
 exact congrArg (l.getD · V.none) (List.getElem_range ..)
theorem pick_up {l:List V} {p:Array Nat} (hp:POk l.length p) (hs:Up (O:=natO) (fun i=>rix (ikey (l.getD i .none))) p l.length):(p.toList.map fun i=>l.getD i V.none).Pairwise fun a b=>rkey a < rkey b:=by
 rw [List.pairwise_iff_getElem]
 intro i j hi hj hij
 rw [List.length_map,Array.length_toList,hp.size] at hi hj
 have h:natO.blt _ _ = true:=hs.lt hij hj
 have e:∀ {k:Nat} (hk:k < l.length) (h:k < (p.toList.map fun i=>l.getD i V.none).length),rkey ((p.toList.map fun i=>l.getD i V.none)[k]) = KP (O:=natO) (fun i=>rix (ikey (l.getD i .none))) p k:=fun hk h=>by
  rw [List.getElem_map]
  exact congrArg (fun i=>rix (ikey (l.getD i .none))) (hp.get hk).2.symm
 rw [e hi,e hj]
 exact of_decide_eq_true (p:=(_:Nat) < (_:Nat)) h
theorem ok_sorted:CallOk B u (.builtin "sorted") .sorted:=fun G N ds vs Q E K rm e sm rs z=>False.elim e
end
end Mine.Internal
namespace Mine.Internal
open PySem PySem.W PyProof.Rows PySem.Calls
noncomputable def advM (m:Nat) (p:SetTable.Probe):SetTable.Probe :=
 if p.more > 0 then { p with j:=p.j + 1,more:=p.more - 1 } else
 { p with j:=(SetTable.leap m p.i p.perturb).1,more:=SetTable.runEnd m (SetTable.leap m p.i p.perturb).1 - (SetTable.leap m p.i p.perturb).1,i:=(SetTable.leap m p.i p.perturb).1,perturb:=(SetTable.leap m p.i p.perturb).2 }
noncomputable def headAt (m:Nat) (h:Int):Nat→Nat × Nat
 | 0=>(SetTable.bits h % (m + 1),SetTable.bits h)
 | t + 1=>SetTable.leap m (headAt m h t).1 (headAt m h t).2
noncomputable def stOf (m:Nat) (q:Nat × Nat) (w:Nat):SetTable.Probe:=⟨q.1 + w,SetTable.runEnd m q.1 - q.1 - w,q.1,q.2,none⟩
noncomputable def pr (m:Nat) (h:Int):Nat→SetTable.Probe
 | 0=>stOf m (headAt m h 0) 0
 | k + 1=>advM m (pr m h k)
theorem run_cases (m i:Nat):(SetTable.runEnd m i = i + 9∧i + 9≤m) ∨ SetTable.runEnd m i = i:=by
 delta SetTable.runEnd
 by_cases h:i + 9≤m
 ·exact .inl ⟨if_pos h,h⟩
 ·exact .inr (if_neg h)
theorem run_ge (m i:Nat):i≤SetTable.runEnd m i:=(run_cases m i).elim (fun h=>h.1 ▸ Nat.le_add_right i 9) fun h=>Nat.le_of_eq h.symm
theorem run_le {m i:Nat} (hi:i≤m):SetTable.runEnd m i≤m:=(run_cases m i).elim (fun h=>Nat.le_trans (Nat.le_of_eq h.1) h.2) fun h=>Nat.le_trans (Nat.le_of_eq h) hi
theorem run_9 (m i:Nat):SetTable.runEnd m i - i≤9:=(run_cases m i).elim (fun h=>by rw [h.1,Nat.add_sub_cancel_left]; exact Nat.le_refl 9) fun h=>by rw [h,Nat.sub_self]; exact Nat.zero_le 9
section
variable {m:Nat} {h:Int} {r:Nat}
theorem walkW {q:Nat × Nat} (e:pr m h r = stOf m q 0):∀ w,w≤SetTable.runEnd m q.1 - q.1→pr m h (r + w) = stOf m q w
 | 0,_=>e
 | w + 1,hw=>by
  show advM m (pr m h (r + w)) = _
  rw [walkW e w (Nat.le_of_succ_le hw)]
  exact if_pos (Nat.sub_pos_of_lt hw)
theorem hopW {q:Nat × Nat} (e:pr m h r = stOf m q 0):pr m h (r + (SetTable.runEnd m q.1 - q.1) + 1) = stOf m (SetTable.leap m q.1 q.2) 0:=by
 show advM m (pr m h (r + _)) = _
 rw [walkW e _ (Nat.le_refl _)]
 exact if_neg (show ¬ SetTable.runEnd m q.1 - q.1 - (SetTable.runEnd m q.1 - q.1) > 0 by rw [Nat.sub_self]; exact Nat.lt_irrefl 0)
theorem headPos (m:Nat) (h:Int):∀ t,∃ r,r≤10 * t∧pr m h r = stOf m (headAt m h t) 0
 | 0=>⟨0,Nat.le_refl _,rfl⟩
 | t + 1=>(headPos m h t).elim fun r w=>⟨_,Nat.succ_le_succ (Nat.add_le_add w.1 (run_9 m _)),hopW w.2⟩
theorem head_lt (m:Nat) (h:Int):∀ t,(headAt m h t).1≤m
 | 0=>Nat.le_of_lt_succ (Nat.mod_lt _ (Nat.succ_pos _))
 | t + 1=>Nat.le_of_lt_succ (Nat.mod_lt _ (Nat.succ_pos _))
theorem pr_in (m:Nat) (h:Int):∀ k,∃ t w,w≤SetTable.runEnd m (headAt m h t).1 - (headAt m h t).1∧pr m h k = stOf m (headAt m h t) w
 | 0=>⟨0,0,Nat.zero_le _,rfl⟩
 | k + 1=>by
  obtain ⟨t,w,hw,e⟩:=pr_in m h k
  show ∃ t' w',_∧advM m (pr m h k) = _
  rw [e]
  rcases Nat.lt_or_eq_of_le hw with hl | he
  ·exact ⟨t,w + 1,hl,if_pos (Nat.sub_pos_of_lt hl)⟩
  ·exact ⟨t + 1,0,Nat.zero_le _,if_neg (show ¬ SetTable.runEnd m _ - _ - w > 0 by rw [he,Nat.sub_self]; exact Nat.lt_irrefl 0)⟩
theorem pr_le (k:Nat):(pr m h k).j≤m:=by
 obtain ⟨t,w,hw,e⟩:=pr_in m h k
 rw [e]
 exact Nat.le_trans (Nat.add_le_add_left hw _) (Nat.le_trans (Nat.le_of_eq (Nat.add_sub_cancel' (run_ge m _))) (run_le (head_lt m h t)))
theorem pr_dummy (k:Nat):(pr m h k).dummy = none:=by
 obtain ⟨t,w,hw,e⟩:=pr_in m h k
 rw [e]; rfl
noncomputable def orb (m:Nat):Nat→Nat × Nat→Nat→Nat
 | 0,_,acc=>acc
 | f + 1,q,acc=>orb m f (SetTable.leap m q.1 q.2) (acc ||| 1 <<< q.1)
theorem orb_bit {j:Nat}:∀ (f t acc:Nat),(orb m f (headAt m h t) acc).testBit j = true→acc.testBit j = true ∨ ∃ d,d < t + f∧(headAt m h d).1 = j
 | 0,t,acc,e=>.inl e
 | f + 1,t,acc,e=>by
  rcases orb_bit f (t + 1) _ e with h1 | ⟨d,h1,h2⟩
  ·rw [Nat.testBit_or] at h1
   refine (Bool.or_eq_true_iff.mp h1).imp id fun h1=>⟨t,Nat.lt_add_of_pos_right (Nat.succ_pos f),?_⟩
   rw [Nat.testBit_shiftLeft] at h1
   have h1:=Bool.and_eq_true_iff.mp h1
   exact Nat.le_antisymm (of_decide_eq_true h1.1) (Nat.le_of_sub_eq_zero (Nat.testBit_one_eq_true_iff_self_eq_zero.mp h1.2))
  ·exact .inr ⟨d,Nat.lt_of_lt_of_le h1 (Nat.le_of_eq (by rw [Nat.add_assoc,Nat.add_comm 1 f])),h2⟩
noncomputable def full (m:Nat) (h:Int):Bool:=orb m (SetTable.turns m) (headAt m h 0) 0 == 2 ^ (m + 1) - 1
theorem cover {j:Nat} (f:full m h = true) (hj:j≤m):∃ t,t < SetTable.turns m∧(headAt m h t).1 = j:=by
 have w:(orb m (SetTable.turns m) (headAt m h 0) 0).testBit j = true:=by
  rw [eq_of_beq f,Nat.testBit_two_pow_sub_one]
  exact decide_eq_true (Nat.lt_succ_of_le hj)
 rcases orb_bit _ _ _ w with h3 | ⟨d,h3,h4⟩
 ·rw [Nat.zero_testBit] at h3; cases h3
 ·exact ⟨d,Nat.zero_add (SetTable.turns m) ▸ h3,h4⟩
theorem least {P:Nat→Prop} (n:Nat):P n→∃ K,K≤n∧P K∧∀ k,k < K→¬ P k:=n.strongRecOn fun n ih p =>
 (Classical.em (∃ k,k < n∧P k)).elim (fun ⟨k,hk,q⟩=>(ih k hk q).elim fun K w=>⟨K,Nat.le_trans w.1 (Nat.le_of_lt hk),w.2⟩) fun no=>⟨n,Nat.le_refl _,p,fun k hk q=>no ⟨k,hk,q⟩⟩
theorem first_free {S:List Nat} (f:full m h = true) {j:Nat} (hj:j≤m) (hf:j ∉ S):∃ K,K < 10 * SetTable.turns m∧(pr m h K).j ∉ S∧∀ k,k < K→(pr m h k).j∈S:=by
 obtain ⟨t,ht,e⟩:=cover f hj
 obtain ⟨r,hr,er⟩:=headPos m h t
 obtain ⟨K,hK,h1,h2⟩:=least (P:=fun r=>(pr m h r).j ∉ S) r (by show (pr m h r).j ∉ S; rw [er]; show (headAt m h t).1 + 0 ∉ S; rw [e]; exact hf)
 exact ⟨K,Nat.lt_of_le_of_lt (Nat.le_trans hK hr) (Nat.mul_lt_mul_of_pos_left ht (by decide)),h1,fun k hk=>Classical.not_not.mp (h2 k hk)⟩
end
noncomputable def rH (k:List Int):Int:=reduceHash (Builtin.Tuple.tupleHashOf (k.map hashInt))
noncomputable def masks:List Nat:=[7]
theorem full_rows:(rowsI.all fun k=>masks.all fun m=>full m (rH k)) = true:=by decide +kernel
theorem full_row {k:List Int} {m:Nat} (hk:k∈rowsI) (hm:m∈masks):full m (rH k) = true:=List.all_eq_true.mp (List.all_eq_true.mp full_rows _ hk) _ hm
end Mine.Internal
namespace Mine.Internal
open PySem PySem.W PyProof.Rows PySem.Calls
section
variable {P:List Nat} {j:Nat}
theorem up_get (hp:P.Pairwise (· < ·)) {i k a b:Nat} (hik:i < k) (ha:P[i]? = some a) (hb:P[k]? = some b):a < b:=by
 obtain ⟨h1,rfl⟩:=List.getElem?_eq_some_iff.mp ha
 obtain ⟨h2,rfl⟩:=List.getElem?_eq_some_iff.mp hb
 exact List.pairwise_iff_getElem.mp hp _ _ h1 h2 hik
theorem mid_in {lo hi:Nat} (h:lo < hi):lo≤(lo + hi) / 2∧(lo + hi) / 2 < hi :=
 ⟨(Nat.le_div_iff_mul_le (by decide)).mpr (by rw [Nat.mul_comm,Nat.two_mul]; exact Nat.add_le_add_left (Nat.le_of_lt h) _),Nat.div_lt_of_lt_mul (by rw [Nat.two_mul]; exact Nat.add_lt_add_right h _)⟩
noncomputable def Cut (P:List Nat) (j r:Nat):Prop:=r≤P.length∧(∀ i v,i < r→P[i]? = some v→v < j)∧∀ i v,r≤i→P[i]? = some v→j≤v
theorem below_go (hp:P.Pairwise (· < ·)):∀ (f lo hi:Nat),hi≤P.length→lo≤hi→hi≤lo + f→(∀ i v,i < lo→P[i]? = some v→v < j)→(∀ i v,hi≤i→P[i]? = some v→j≤v)→Cut P j (SetTable.below.go P.toArray j f lo hi)
 | 0,lo,hi,h1,h2,h3,h4,h5=>⟨Nat.le_trans h2 h1,h4,fun i v q=>h5 i v (Nat.le_trans h3 q)⟩
 | f + 1,lo,hi,h1,h2,h3,h4,h5=>by
  by_cases hlt:lo < hi
  ·show Cut P j (if lo < hi then _ else lo)
   rw [if_pos hlt]
   have hm:=mid_in hlt
   show Cut P j (if P.toArray.getD ((lo + hi) / 2) j < j then _ else _)
   generalize (lo + hi) / 2 = m at hm
   have hl:=Nat.lt_of_lt_of_le hm.2 h1
   have e:P[m]? = some P[m]:=List.getElem?_eq_getElem hl
   have e2:P.toArray.getD m j = P[m]:=by rw [Array.getD_eq_getD_getElem?,List.getElem?_toArray,e]; rfl
   rw [e2]
   by_cases hc:P[m] < j
   ·rw [if_pos hc]
    exact below_go hp f _ hi h1 hm.2 (Nat.le_trans h3 (by rw [Nat.add_comm f,← Nat.add_assoc]; exact Nat.add_le_add_right (Nat.succ_le_succ hm.1) f)) (fun i v q w=>(Nat.lt_or_eq_of_le (Nat.le_of_lt_succ q)).elim (fun q=>Nat.lt_trans (up_get hp q w e) hc) fun q=>by subst q; cases w.symm.trans e; exact hc) h5
   ·rw [if_neg hc]
    exact below_go hp f lo _ (Nat.le_of_lt hl) hm.1 (Nat.le_of_lt_succ (Nat.lt_of_lt_of_le hm.2 h3)) h4 fun i v q w=>(Nat.lt_or_eq_of_le q).elim (fun q=>Nat.le_trans (Nat.not_lt.mp hc) (Nat.le_of_lt (up_get hp q e w))) fun q=>by subst q; cases w.symm.trans e; exact Nat.not_lt.mp hc
  ·show Cut P j (if lo < hi then _ else lo)
   rw [if_neg hlt]
   exact ⟨Nat.le_trans h2 h1,h4,fun i v q=>h5 i v (Nat.le_trans (Nat.not_lt.mp hlt) q)⟩
theorem below_ok (hp:P.Pairwise (· < ·)) (j:Nat):Cut P j (SetTable.below P.toArray j) :=
 below_go hp P.toArray.size 0 P.toArray.size (Nat.le_refl _) (Nat.zero_le _) (Nat.le_add_left ..) (fun i v q=>absurd q (Nat.not_lt_zero _)) fun i v q w=>absurd (List.getElem?_eq_some_iff.mp w).1 (Nat.not_lt.mpr q)
theorem Cut.uniq {r k:Nat} (h:Cut P j r) (hk:k≤P.length) (h1:∀ v,r < k→P[r]? = some v→v < j) (h2:∀ v,k < r→P[k]? = some v→j≤v):r = k:=by
 rcases Nat.lt_trichotomy r k with q | q | q
 ·have e:=List.getElem?_eq_getElem (Nat.lt_of_lt_of_le q hk)
  exact absurd (h1 _ q e) (Nat.not_lt.mpr (h.2.2 _ _ (Nat.le_refl _) e))
 ·exact q
 ·have e:=List.getElem?_eq_getElem (Nat.lt_of_lt_of_le q h.1)
  exact absurd (h.2.1 _ _ q e) (Nat.not_lt.mpr (h2 _ q e))
theorem below_at (hp:P.Pairwise (· < ·)) {i:Nat} (e:P[i]? = some j):SetTable.below P.toArray j = i :=
 (below_ok hp j).uniq (Nat.le_of_lt (List.getElem?_eq_some_iff.mp e).1) (fun v q w=>up_get hp q w e) fun v q w=>by cases w.symm.trans e; exact Nat.le_refl _
variable {t:SetTable}
theorem slot_live (hP:t.place = P.toArray) (hp:P.Pairwise (· < ·)) {i:Nat} (e:P[i]? = some j):t.slot j = .live i:=by
 delta SetTable.slot
 dsimp only
 rw [hP,below_at hp e,List.getElem?_toArray,e]
 exact if_pos (beq_self_eq_true _)
theorem slot_empty (hP:t.place = P.toArray) (hd:t.dummies = #[]) (h:j ∉ P):t.slot j = .empty:=by
 delta SetTable.slot
 dsimp only
 rw [hP,hd,List.getElem?_toArray]
 exact (if_neg fun q=>h (List.mem_of_getElem? (eq_of_beq q))).trans (if_neg (by exact Bool.false_ne_true))
end
end Mine.Internal
namespace Mine.Internal
open PySem PySem.W PyProof.Rows PySem.Calls
theorem hash_nd:(rowsI.map rH).Nodup:=by decide +kernel
theorem rH_inj {a b:List Int} (ha:a∈rowsI) (hb:b∈rowsI) (e:rH a = rH b):a = b:=by
 obtain ⟨i,hi⟩:=List.getElem?_of_mem ha
 obtain ⟨k,hk⟩:=List.getElem?_of_mem hb
 obtain ⟨h1,rfl⟩:=List.getElem?_eq_some_iff.mp hi
 obtain ⟨h2,rfl⟩:=List.getElem?_eq_some_iff.mp hk
 have e:(rowsI.map rH)[i]'(by rw [List.length_map]; exact h1) = (rowsI.map rH)[k]'(by rw [List.length_map]; exact h2):=by rw [List.getElem_map,List.getElem_map]; exact e
 exact getElem_congr rfl ((List.getElem_inj hash_nd).mp e) _
noncomputable abbrev En:=Nat × List Int × Addr
noncomputable def esOf (L:List En):Array (Int × PV):=List.toArray (L.map fun e=>(rH e.2.1,.ref e.2.2))
noncomputable def plOf (L:List En):List Nat:=L.map (·.1)
structure Tq (prog:Program) (w:World) (h:Heap) (t:SetTable) (L:List En):Prop where
 mask:t.mask∈masks
 place:t.place = (plOf L).toArray
 dum:t.dummies = #[]
 plain:t.plain = true
 led:t.led = !(w.params.followText "set-order")
 rise:(plOf L).Pairwise (· < ·)
 le:∀ j∈plOf L,j≤t.mask
 tup:∀ e∈L,e.2.1∈rowsI∧IsTupleKey (intKind prog w) h e.2.1 e.2.2
 nd:(L.map (·.2.1)).Nodup
 reach:∀ e∈L,∃ r,(pr t.mask (rH e.2.1) r).j = e.1∧∀ r',r' < r→(pr t.mask (rH e.2.1) r').j∈plOf L
structure Tb (prog:Program) (w:World) (h:Heap) (t:SetTable) (L:List En):Prop where
 q:Tq prog w h t L
 room:L.length * 5 < t.mask * 3
section
variable {prog:Program} {w:World} {h:Heap} {t:SetTable} {L:List En}
theorem pl_len:(plOf L).length = L.length:=List.length_map ..
theorem es_size:(esOf L).size = L.length:=List.size_toArray.trans (List.length_map ..)
theorem pl_at {i:Nat} {e:En} (he:L[i]? = some e):(plOf L)[i]? = some e.1:=by delta plOf; rw [List.getElem?_map,he]; rfl
theorem es_at {i:Nat} {e:En} (he:L[i]? = some e):(esOf L)[i]? = some (rH e.2.1,.ref e.2.2):=by delta esOf; rw [List.getElem?_toArray,List.getElem?_map,he]; rfl
theorem Tq.at (T:Tq prog w h t L) {i:Nat} {e:En} (he:L[i]? = some e):t.slot e.1 = .live i:=slot_live T.place T.rise (pl_at he)
theorem Tq.gave (T:Tq prog w h t L):t.gaveWay = false:=by
 delta SetTable.gaveWay
 have m:=T.mask
 generalize t.mask = k at m
 cases List.mem_singleton.mp m; rfl
theorem Tq.key_uniq (T:Tq prog w h t L) {i k:Nat} {a b:En} (ha:L[i]? = some a) (hb:L[k]? = some b) (e:a.2.1 = b.2.1):i = k:=by
 obtain ⟨h1,rfl⟩:=List.getElem?_eq_some_iff.mp ha
 obtain ⟨h2,rfl⟩:=List.getElem?_eq_some_iff.mp hb
 have e:(L.map (·.2.1))[i]'(by rw [List.length_map]; exact h1) = (L.map (·.2.1))[k]'(by rw [List.length_map]; exact h2):=by rw [List.getElem_map,List.getElem_map]; exact e
 exact (List.getElem_inj T.nd).mp e
theorem go_skip {hashAt:Nat→Int} {hx:Int} {met:SetTable.Met} {n:Nat} (hs:∀ k,k < n→∃ i,t.slot (pr t.mask hx k).j = .live i∧hashAt i ≠ hx) (fin:∀ f,SetTable.probe.go t hashAt hx (f + 1) (pr t.mask hx n) = some met):∀ f k,k≤n→n < k + f→SetTable.probe.go t hashAt hx f (pr t.mask hx k) = some met
 | 0,k,h1,h2=>absurd h1 (Nat.not_le.mpr h2)
 | f + 1,k,h1,h2=>by
  rcases Nat.lt_or_eq_of_le h1 with hl | rfl
  ·obtain ⟨i,e1,e2⟩:=hs k hl
   unfold SetTable.probe.go
   rw [e1]
   dsimp only
   rw [if_neg (fun q=>e2 (eq_of_beq q))]
   exact go_skip hs fin f (k + 1) hl (by rw [Nat.add_assoc,Nat.add_comm 1]; exact h2)
  ·exact fin f
end
end Mine.Internal
namespace Mine.Internal
open PySem PySem.W PyProof.Rows PySem.Calls
section
variable {prog:Program} {w:World} {h:Heap} {t:SetTable} {L:List En} {key:List Int}
theorem exists_free {m:Nat} {S:List Nat} (hl:S.length≤m):∃ j,j≤m∧j ∉ S:=Classical.byContradiction fun no=>by
 have w:=List.Nodup.length_le_of_subset (List.nodup_range (n:=m + 1)) (l₂:=S) fun j hj=>Classical.byContradiction fun q=>no ⟨j,Nat.le_of_lt_succ (List.mem_range.mp hj),q⟩
 rw [List.length_range] at w
 exact absurd (Nat.le_trans w hl) (Nat.not_succ_le_self m)
structure Spot (t:SetTable) (L:List En) (key:List Int) (K:Nat):Prop where
 b:K < 10 * SetTable.turns t.mask
 f:(pr t.mask (rH key) K).j ∉ plOf L
 u:∀ k,k < K→(pr t.mask (rH key) k).j∈plOf L
theorem Tb.spot (T:Tb prog w h t L) (hk:key∈rowsI):∃ K,Spot t L key K:=by
 have r:L.length≤t.mask:=Nat.le_of_mul_le_mul_right (Nat.le_of_lt (Nat.lt_of_lt_of_le T.room (Nat.mul_le_mul_left _ (by decide)))) (show 0 < 5 by decide)
 obtain ⟨j,hj,hn⟩:=exists_free (m:=t.mask) (S:=plOf L) (by rw [pl_len]; exact r)
 exact (first_free (full_row hk T.q.mask) hj hn).elim fun K w=>⟨K,w.1,w.2.1,w.2.2⟩
theorem pl_mem {j:Nat} (hj:j∈plOf L):∃ (i:Nat) (e:En),L[i]? = some e∧e.1 = j:=(List.mem_map.mp hj).elim fun e q=>(List.getElem?_of_mem q.1).elim fun i qi=>⟨i,e,qi,q.2⟩
theorem probe_ok (T:Tq prog w h t L) (hk:key∈rowsI) {hashAt:Nat→Int} (hA:∀ i e,L[i]? = some e→hashAt i = rH e.2.1) {K:Nat} (at':Spot t L key K) :
  (∃ i e j n,L[i]? = some e∧e.2.1 = key∧t.probe hashAt (rH key) (pr t.mask (rH key) 0) = some (.candidate j i n)) ∨ ((∀ e∈L,e.2.1 ≠ key)∧t.probe hashAt (rH key) (pr t.mask (rH key) 0) = some (.empty (pr t.mask (rH key) K).j none)):=by
 have live:∀ {n:Nat},n≤K→(∀ k,k < n→∀ (i:Nat) (e:En),L[i]? = some e→e.1 = (pr t.mask (rH key) k).j→e.2.1 ≠ key)→∀ k,k < n→∃ i,t.slot (pr t.mask (rH key) k).j = .live i∧hashAt i ≠ rH key:=fun {n} hn no k hk'=>by
  obtain ⟨i,e,hi,ej⟩:=pl_mem (at'.u k (Nat.lt_of_lt_of_le hk' hn))
  exact ⟨i,ej ▸ T.at hi,fun q=>no k hk' i e hi ej (rH_inj (T.tup e (List.mem_of_getElem? hi)).1 hk ((hA i e hi).symm.trans q))⟩
 by_cases ex:∃ e∈L,e.2.1 = key
 ·obtain ⟨e,he,ek⟩:=ex
  obtain ⟨i,hi⟩:=List.getElem?_of_mem he
  obtain ⟨r0,e0,q0⟩:=T.reach e he
  rw [ek] at e0 q0
  have r0K:r0 < K:=(Nat.lt_trichotomy r0 K).elim id fun q=>absurd (q.elim (fun q=>by rw [← q,e0]; exact List.mem_map.mpr ⟨e,he,rfl⟩) (q0 K)) at'.f
  obtain ⟨r,h1,h2,h3⟩:=least (P:=fun r=>(pr t.mask (rH key) r).j = e.1) r0 e0
  have hrK:=Nat.lt_of_le_of_lt h1 r0K
  refine .inl ⟨i,e,(pr t.mask (rH key) r).j,advM t.mask (pr t.mask (rH key) r),hi,ek,go_skip (n:=r) (live (Nat.le_of_lt hrK) fun k hk' i' e' hi' ej q=>?_) (fun f=>?_) _ 0 (Nat.zero_le _) (by rw [Nat.zero_add]; exact Nat.lt_trans hrK at'.b)⟩
  ·have:=T.key_uniq hi' hi (q.trans ek.symm)
   subst this
   cases hi'.symm.trans hi
   exact h3 k hk' ej.symm
  ·unfold SetTable.probe.go
   rw [show t.slot (pr t.mask (rH key) r).j = .live i by rw [h2]; exact T.at hi]
   exact if_pos (by rw [hA i e hi,ek]; exact beq_self_eq_true _)
 ·have no:∀ e∈L,e.2.1 ≠ key:=fun e he q=>ex ⟨e,he,q⟩
  refine .inr ⟨no,go_skip (n:=K) (live (Nat.le_refl _) fun k _ i e hi _=>no e (List.mem_of_getElem? hi)) (fun f=>?_) _ 0 (Nat.zero_le _) (by rw [Nat.zero_add]; exact at'.b)⟩
  unfold SetTable.probe.go
  rw [slot_empty T.place T.dum at'.f,pr_dummy]
variable {A:Around} {E:PV→Shared→Prop} {s:Shared}
theorem pass_all {α:Type} {l:List α} {f:α→Option Bool × PUnit→Sem (ForInStep (Option Bool × PUnit))} {C:α→Prop} {Q:Option Bool × PUnit→Shared→Prop} (hl:∀ v∈l,C v)
  (hf:∀ v,C v→∀ Q':ForInStep (Option Bool × PUnit)→Shared→Prop,Q' (.yield (none,())) s→wpAny (model prog w) A (f v (none,())) Q' E s) (q:Q (none,()) s):wpAny (model prog w) A (forIn l (none,()) f) Q E s :=
 wpAny_forIn_list _ (fun rest r s'=>r = (none,())∧s' = s∧∀ v∈rest,C v) _ (fun v rest r s' ⟨hr,hs,hall⟩=>by subst hr; subst hs; exact hf v (hall v List.mem_cons_self) _ ⟨rfl,rfl,fun u hu=>hall u (List.mem_cons_of_mem _ hu)⟩) (fun r s' ⟨hr,hs,_⟩=>by subst hr; subst hs; exact q) _ _ ⟨rfl,rfl,hl⟩
theorem cls_tuple {ks:List Int} {a:Addr} {Q:Bool→Shared→Prop} (hk:IsTupleKey (intKind prog w) s.heap ks a) (q:Q false s):wpAny (model prog w) A (ofAClassStatement 8 (.ref a)) Q E s:=by
 have hT:=hk.typeIs
 obtain ⟨o,items,n,ho,_,hd,hi⟩:=hk
 unfold ofAClassStatement
 refine wpAny_bind (wpAny_typeOf hT ?_)
 dsimp only
 rw [if_pos (by decide)]
 refine wpAny_bind (wpAny_pure (wpAny_bind (wpAny_seqItems ho hd (wpAny_bind ?_))))
 rw [← Array.forIn_toList]
 refine pass_all (C:=fun v=>carriedByValue v = true) hi.byValue (fun v hc Q' q'=>?_) (wpAny_pure q)
 have hc:ofAClassStatement 7 v = pure false:=by cases v <;> first | exact absurd hc Bool.false_ne_true | rfl
 rw [hc]
 exact wpAny_bind (wpAny_pure (wpAny_pure q'))
end
end Mine.Internal
namespace Mine.Internal
open PySem PySem.W PyProof.Rows PySem.Calls
section
variable {prog:Program} {w:World} {t:SetTable} {L:List En} {key:List Int} {A:Around} {E:PV→Shared→Prop} {s:Shared}
theorem seen_no {x:Addr} {vs:List PV} {Q:Bool→Shared→Prop} (hx:IsTupleKey (intKind prog w) s.heap key x) (hv:∀ v∈vs,∃ a k,v = .ref a∧IsTupleKey (intKind prog w) s.heap k a) (q:Q false s):wpAny (model prog w) A (searchCouldBeSeen (.ref x) vs) Q E s:=by
 delta searchCouldBeSeen
 refine wpAny_bind (pass_all hv (fun v hc Q' q'=>?_) (wpAny_pure q))
 obtain ⟨a,k,rfl,hk⟩:=hc
 dsimp only
 split
 ·exact wpAny_pure q'
 ·refine wpAny_bind (wpAny_eqIsQuiet_tuple hx ?_)
  refine wpAny_bind (wpAny_eqIsQuiet_tuple hk ?_)
  refine wpAny_bind (cls_tuple hx ?_)
  refine wpAny_bind (cls_tuple hk ?_)
  exact wpAny_pure q'
theorem fits (T:Tb prog w s.heap t L):t.fits (esOf L).size = true:=by
 have h1:=T.room
 delta SetTable.fits SetTable.fill
 rw [T.q.dum,T.q.place,es_size,List.size_toArray,pl_len]
 simp
 (first | lia | omega)
theorem search_ok {a x:Addr} {ep f K:Nat} {o:Obj} {Q:SetFound→Shared→Prop} (hu:A.units < cLine) (ho:s.heap.get? a = some o) (hd:o.data = .set (esOf L) ep t) (T:Tb prog w s.heap t L) (hk:key∈rowsI) (hx:IsTupleKey (intKind prog w) s.heap key x) (at':Spot t L key K)
  (h1:(∃ e∈L,e.2.1 = key)→Q (.there none) s) (h2:(∀ e∈L,e.2.1 ≠ key)→Q (.free (pr t.mask (rH key) K).j false) s):wpAny (model prog w) A (setSearchFrom a (.ref x) (rH key) true (f + 1) none) Q E s:=by
 refine wpAny_bind (wpAny_setState_of ho hd (fits T) ?_)
 dsimp only
 rw [T.q.gave]
 rcases probe_ok T.q hk (hashAt:=fun i=>((esOf L)[i]?.map (·.1)).getD 0) (fun i e he=>by rw [es_at he]; rfl) at' with ⟨i,e,j,n,hi,ek,g⟩ | ⟨no,g⟩
 ·have hm:=List.mem_of_getElem? hi
  have rest:wpAny (model prog w) A (do
     let some (_,y):=(esOf L)[i]? | unsupported "internal:set-entry"
     let equal ← holding [y] (eqBool y (.ref x))
     let (es',_,t') ← setState a
     if true && equal then return .there none
     let some same:=t'.sameMemory t.moves t.mask | unsupported "set.changed-during-lookup:is-the-new-block-at-the-old-address"
     let still ← match (if same then t'.slot j else .empty) with
      | .live i'=>match es'[i']? with
       | some (_,y')=>do pure (if ← isSame y' y then some i' else none)
       | none=>pure none
      | _=>pure none
     match still with
     | none=>rule "set.search.anew"; setSearchFrom a (.ref x) (rH key) true f none
     | some i'=>if equal then return .there (some i') else setSearchFrom a (.ref x) (rH key) true f (some n)) Q E s:=by
   rw [es_at hi]
   refine wpAny_bind (wpAny_holding (wpAny_eqBool_tuple hu (T.q.tup e hm).2 hx ?_))
   refine wpAny_bind (wpAny_setState_of ho hd (fits T) ?_)
   rw [decide_eq_true ek]
   exact wpAny_pure (h1 ⟨e,hm,ek⟩)
  erw [g]
  dsimp only
  cases hled:t.led with
  | true=>exact rest
  | false =>
   refine wpAny_bind (seen_no hx (fun v hv=>?_) rest)
   obtain ⟨p,hp,rfl⟩:=List.mem_map.mp hv
   obtain ⟨e',he',rfl⟩:=List.mem_map.mp (Array.mem_toList_iff.mpr (Array.mem_filter.mp (Array.mem_toList_iff.mp hp)).1)
   exact ⟨_,_,rfl,(T.q.tup e' he').2⟩
 ·erw [g]
  exact wpAny_pure (h2 no)
end
end Mine.Internal
namespace Mine.Internal
open PySem PySem.W PyProof.Rows PySem.Calls
theorem insert_list {α:Type} (l:List α) (p:Nat) (x:α):SetTable.insertAt (List.toArray l) p x = List.toArray (l.take p++x :: l.drop p):=by
 delta SetTable.insertAt
 apply Array.toList_inj.mp
 rw [Array.toList_append,Array.toList_push,Array.toList_extract,Array.toList_extract]
 show l.take p++[x]++(l.drop p).take (l.length - p) = _
 rw [List.take_of_length_le (i:=l.length - p) (by rw [List.length_drop]; exact Nat.le_refl _),List.append_assoc]; rfl
section
variable {prog:Program} {w:World} {t:SetTable} {L:List En} {key:List Int} {h:Heap}
noncomputable def putL (L:List En) (p:Nat) (e:En):List En:=L.take p++e :: L.drop p
theorem putL_perm {p:Nat} {e:En}:(putL L p e).Perm (e :: L):=List.perm_middle.trans (by rw [List.take_append_drop])
theorem putL_map {α:Type} {f:En→α} {p:Nat} {e:En}:(putL L p e).map f = (L.map f).take p++f e :: (L.map f).drop p:=by
 delta putL; rw [List.map_append,List.map_cons,List.map_take,List.map_drop]
theorem es_put {p:Nat} {e:En}:SetTable.insertAt (esOf L) p (rH e.2.1,.ref e.2.2) = esOf (putL L p e):=(insert_list ..).trans (congrArg List.toArray putL_map.symm)
theorem pl_put {p:Nat} {e:En}:SetTable.insertAt (plOf L).toArray p e.1 = (plOf (putL L p e)).toArray:=(insert_list ..).trans (congrArg List.toArray putL_map.symm)
theorem cut_rise {P:List Nat} {j p:Nat} (hp:P.Pairwise (· < ·)) (c:Cut P j p) (hj:j ∉ P):(P.take p++j :: P.drop p).Pairwise (· < ·):=by
 have tk:∀ a∈P.take p,a < j:=fun a ha=>by
  obtain ⟨i,hi⟩:=List.getElem?_of_mem ha
  rw [List.getElem?_take] at hi
  split at hi
  ·rename_i q; exact c.2.1 i a q hi
  ·cases hi
 have dr:∀ a∈P.drop p,j < a:=fun a ha=>by
  obtain ⟨i,hi⟩:=List.getElem?_of_mem ha
  rw [List.getElem?_drop] at hi
  exact Nat.lt_of_le_of_ne (c.2.2 _ a (Nat.le_add_right p i) hi) fun e=>hj (e ▸ List.mem_of_getElem? hi)
 exact List.pairwise_append.mpr ⟨hp.take,List.pairwise_cons.mpr ⟨dr,hp.drop⟩,fun a ha b hb=>(List.mem_cons.mp hb).elim (fun e=>e ▸ tk a ha) fun q=>Nat.lt_trans (tk a ha) (dr b q)⟩
theorem put_ok {x:Addr} {K:Nat} (T:Tq prog w h t L) (hk:key∈rowsI) (hx:IsTupleKey (intKind prog w) h key x) (at':Spot t L key K) (hn:∀ e∈L,e.2.1 ≠ key) :
  ∃ p,t.put (pr t.mask (rH key) K).j = ({ t with place:=(plOf (putL L p ((pr t.mask (rH key) K).j,key,x))).toArray },p)∧Tq prog w h { t with place:=(plOf (putL L p ((pr t.mask (rH key) K).j,key,x))).toArray } (putL L p ((pr t.mask (rH key) K).j,key,x)):=by
 generalize hj:(pr t.mask (rH key) K).j = j
 have c:=below_ok T.rise j
 have nj:j ∉ plOf L:=hj ▸ at'.f
 have mem:∀ {p:Nat} (e':En),e'∈putL L p (j,key,x)→e' = (j,key,x) ∨ e'∈L:=fun e' q=>List.mem_cons.mp (putL_perm.mem_iff.mp q)
 have mpl:∀ {p i:Nat},i∈plOf L→i∈plOf (putL L p (j,key,x)):=fun {p i} q=>(putL_perm.map (·.1)).mem_iff.mpr (List.mem_cons_of_mem _ q)
 refine ⟨SetTable.below t.place j,?_,T.mask,rfl,T.dum,T.plain,T.led,?_,fun i hi=>?_,fun e he=>?_,(putL_perm.map (·.2.1)).nodup_iff.mpr (List.nodup_cons.mpr ⟨fun hm=>?_,T.nd⟩),fun e he=>?_⟩
 ·delta SetTable.put
  rw [T.dum,← pl_put,← T.place]
  rfl
 ·delta plOf
  rw [putL_map,T.place]
  exact cut_rise T.rise c nj
 ·exact (List.mem_cons.mp ((putL_perm.map (·.1)).mem_iff.mp hi)).elim (fun e=>by rw [e,← hj]; exact pr_le K) (T.le i)
 ·exact (mem e he).elim (fun q=>q ▸ ⟨hk,hx⟩) (T.tup e)
 ·exact (List.mem_map.mp hm).elim fun e q=>hn e q.1 q.2
 ·rcases mem e he with rfl | he
  ·exact ⟨K,hj,fun r q=>mpl (at'.u r q)⟩
  ·exact (T.reach e he).elim fun r q=>⟨r,q.1,fun r' a=>mpl (q.2 r' a)⟩
end
end Mine.Internal
namespace Mine.Internal
open PySem PySem.W PyProof.Rows PySem.Calls
section
variable {prog:Program} {w:World} {t:SetTable} {L:List En} {key:List Int} {A:Around} {E:PV→Shared→Prop} {s:Shared}
noncomputable def SetAt (prog:Program) (w:World) (h:Heap) (a:Addr) (L:List En):Prop:=∃ o ep t,h.get? a = some o∧o.ExactSet∧o.data = .set (esOf L) ep t∧Tb prog w h t L
theorem Tq.len {h:Heap} (T:Tq prog w h t L):L.length≤3:=by
 have q:=List.Nodup.length_le_of_subset T.nd (l₂:=rowsI) fun k hk=>(List.mem_map.mp hk).elim fun e q=>q.2 ▸ (T.tup e q.1).1
 rw [List.length_map] at q
 exact q
theorem tup_but {h h':Heap} {a x:Addr} (hx:IsTupleKey (intKind prog w) h key x) (k:∀ b o,b ≠ a→h.get? b = some o→h'.get? b = some o) (na:x ≠ a):IsTupleKey (intKind prog w) h' key x :=
 hx.elim fun o q=>q.elim fun items q=>q.elim fun n q=>⟨o,items,n,k _ _ na q.1,q.2⟩
theorem tup_ne {h:Heap} {a x:Addr} {o:Obj} (hx:IsTupleKey (intKind prog w) h key x) (ho:h.get? a = some o) (he:o.ExactSet):x ≠ a:=fun e=>by
 subst e
 obtain ⟨o',items,n,ho',hc,_⟩:=hx
 cases ho.symm.trans ho'
 exact absurd (Value.type.inj (he.1.symm.trans hc)) (by decide)
theorem setput_ok {a:Addr} {o:Obj} {es:Array (Int × PV)} {ep:Nat} {t' t2:SetTable} {Q:Unit→Shared→Prop} (ho:s.heap.get? a = some o) (hx:o.ExactSet) (hd:o.data = .set es ep t') (T:Tq prog w s.heap t2 L)
  (q:∀ h',Heap.SameBut a s.heap h'→h'.get? a = some { o with data:=.set (esOf L) (ep + 1) t2 }→Tq prog w h' t2 L→Q () { s with heap:=h' }):wpAny (model prog w) A (storeSet a (esOf L) t2) Q E s:=by
 have sb:=Heap.SameBut.update s.heap a (Obj.putSet (esOf L) t2)
 refine wpAny_storeSet_of ho hd (q _ sb ?_ { T with tup:=fun e he=>⟨(T.tup e he).1,tup_but (T.tup e he).2 (fun b o n e=>sb.extBut b o n e) (tup_ne (T.tup e he).2 ho hx)⟩ }) (by rw [es_size,sizeLine_eq]; exact Nat.le_trans T.len (by decide))
 have e:=Heap.get?_update_self (Obj.putSet (esOf L) t2) ho (by rw [putSet_of _ _ hd]; rfl)
 rw [putSet_of _ _ hd] at e
 exact e
theorem Tq.fill {h:Heap} (T:Tq prog w h t L):t.fill = L.length:=by
 delta SetTable.fill; rw [T.dum,T.place,List.size_toArray,pl_len]; rfl
theorem Tq.few {h:Heap} (T:Tq prog w h t L):t.tooFull = false:=by
 delta SetTable.tooFull
 rw [T.fill,List.mem_singleton.mp T.mask]
 exact decide_eq_false (Nat.not_le.mpr (Nat.lt_of_le_of_lt (Nat.mul_le_mul_right 5 T.len) (by decide)))
end
end Mine.Internal
namespace Mine.Internal
open PySem PySem.W PyProof.Rows PySem.Calls
section
variable {prog:Program} {w:World} {t:SetTable} {L:List En} {key:List Int} {A:Around} {E:PV→Shared→Prop} {s:Shared}
theorem are_ints {ks:List Int} {vs:List PV} (h:ItemsAre (intKind prog w) ks vs):∀ v∈vs,∃ k t,v = .int k t:=by
 induction h with
 | nil=>exact fun _ h=>nomatch h
 | cons h1 _ ih =>
  obtain ⟨t,rfl⟩:=Value.isInt_shape h1
  exact fun v hv=>(List.mem_cons.mp hv).elim (fun e=>⟨_,t,e⟩) (ih v)
theorem hbv_tuple {a:Addr} {Q:Bool→Shared→Prop} (hk:IsTupleKey (intKind prog w) s.heap key a) (q:Q true s):wpAny (model prog w) A (hashByValue 8 (.ref a)) Q E s:=by
 have hT:=hk.typeIs
 obtain ⟨o,items,n,ho,_,hd,hi⟩:=hk
 unfold hashByValue
 refine wpAny_bind (wpAny_specialOf hT F.slot_tuple_hash.lookup ?_)
 dsimp only
 refine wpAny_bind (wpAny_seqItems ho hd (wpAny_bind ?_))
 rw [← Array.forIn_toList]
 refine pass_all (are_ints hi) (fun v hc Q' q'=>?_) (wpAny_pure q)
 obtain ⟨k,t,rfl⟩:=hc
 rw [show hashByValue 7 (.int k t) = pure true from rfl]
 exact wpAny_bind (wpAny_pure (wpAny_pure q'))
theorem add_ok {a x:Addr} {Q:Bool→Shared→Prop} (hu:A.units < cLine) (S:SetAt prog w s.heap a L) (hk:key∈rowsI) (hx:IsTupleKey (intKind prog w) s.heap key x)
  (yes:(∃ e∈L,e.2.1 = key)→Q false s) (no:(∀ e∈L,e.2.1 ≠ key)→∀ h' L',Heap.SameBut a s.heap h'→SetAt prog w h' a L'→(L'.map (·.2)).Perm ((key,x) :: L.map (·.2))→Q true { s with heap:=h' }) :
  wpAny (model prog w) A (setAddHashed a (.ref x) (rH key)) Q E s:=by
 obtain ⟨o,ep,t,ho,hex,hd,T⟩:=S
 obtain ⟨K,at'⟩:=T.spot hk
 unfold setAddHashed setAddHashedIn
 refine wpAny_holding (wpAny_bind (wpAny_setState_of ho hd (fits T) ?_))
 dsimp only
 rw [show byScan (.ref x) (esOf L) = false from rfl]
 delta setSearch
 refine wpAny_bind (search_ok hu ho hd T hk hx at' (fun h=>wpAny_pure (yes h)) fun hn=>?_)
 refine wpAny_bind (wpAny_setState_of ho hd (fits T) ?_)
 obtain ⟨p,ep2,Q2⟩:=put_ok T.q hk hx at' hn
 dsimp only
 rw [ep2]
 dsimp only
 rw [if_pos T.q.plain]
 refine wpAny_bind (hbv_tuple hx ?_)
 have hes:=es_put (L:=L) (p:=p) (e:=((pr t.mask (rH key) K).j,key,x))
 dsimp only at hes ⊢
 rw [hes]
 have perm:=putL_perm (L:=L) (p:=p) (e:=((pr t.mask (rH key) K).j,key,x))
 generalize putL L p ((pr t.mask (rH key) K).j,key,x) = L2 at *
 have hlen:L2.length = L.length + 1:=perm.length_eq
 refine wpAny_bind (setput_ok (t2:={ t with place:=(plOf L2).toArray }) ho hex hd Q2 fun h' sb hg T'=>?_)
 have hf:=T'.few
 rw [if_pos (show true = true from rfl)]
 have hp:=perm.map (·.2)
 rw [hf]
 exact wpAny_pure (no hn h' L2 sb ⟨_,_,_,hg,hex,rfl,T',by rw [List.mem_singleton.mp T'.mask]; exact Nat.lt_of_le_of_lt (Nat.mul_le_mul_right 5 T'.len) (by decide)⟩ hp)
end
end Mine.Internal
namespace Mine.Internal
open PySem PySem.W PyProof.Rows PySem.Calls
theorem erase_perm {α:Type}:∀ {l:List α} {i:Nat} (h:i < l.length),(l[i] :: l.eraseIdx i).Perm l
 | x :: l,0,_=>.refl _
 | x :: l,i + 1,h=>(List.Perm.swap ..).trans ((erase_perm (Nat.lt_of_succ_lt_succ h)).cons x)
theorem pick_go {α:Type} {next:Nat→Nat}:∀ (f k:Nat) (left:List α) (out:Array α),left.length = f→(pickOrder.go next f k left out).toList.Perm (out.toList++left)
 | 0,k,left,out,h=>by
  cases List.length_eq_zero_iff.mp h
  show out.toList.Perm _
  rw [List.append_nil]
 | f + 1,k,left,out,h=>by
  have hlt:next k % left.length < left.length:=Nat.mod_lt _ (h ▸ Nat.succ_pos f)
  have e:pickOrder.go next (f + 1) k left out = pickOrder.go next f (k + 1) (left.eraseIdx (next k % left.length)) (out.push left[next k % left.length]):=by
   show (match left[next k % left.length]? with | some x=>pickOrder.go next f (k + 1) (left.eraseIdx (next k % left.length)) (out.push x) | none=>out) = _
   rw [List.getElem?_eq_getElem hlt]
  rw [e]
  refine (pick_go f (k + 1) _ _ (by rw [List.length_eraseIdx_of_lt hlt,h]; rfl)).trans ?_
  rw [Array.toList_push,List.append_assoc]
  exact List.Perm.append_left _ (erase_perm hlt)
section
variable {prog:Program} {w:World} {t:SetTable} {L:List En} {A:Around} {E:PV→Shared→Prop} {s:Shared} {h₀:Heap}
noncomputable def ordOf (w:World) (S ep:Nat) (L:List En):Array (Int × PV):=if w.params.followText "set-order" = true then pickOrder (w.params.setOrder S ep) (esOf L) else esOf L
theorem ord_perm {S ep:Nat}:(ordOf w S ep L).toList.Perm (esOf L).toList:=by
 delta ordOf
 split
 ·exact pick_go _ _ _ _ (Array.length_toList ..)
 ·exact .refl _
theorem ord_size {S ep:Nat}:(ordOf w S ep L).size = L.length:=(ord_perm (w:=w) (L:=L) (S:=S) (ep:=ep)).length_eq.trans es_size
noncomputable def slotAt (L:List En):Nat→Nat
 | 0=>0
 | k + 1=>(L.getD k (0,[],0)).1 + 1
theorem fitsH (T:Tb prog w h₀ t L) (s:Shared):t.fits (esOf L).size = true:=fits (s:={ s with heap:=h₀ }) T
theorem walk_at (T:Tb prog w h₀ t L) {k:Nat} (hk:k≤L.length):SetTable.below t.place (slotAt L k) = k:=by
 rw [T.q.place]
 have r:=T.q.rise
 have pk:∀ {k:Nat},k < L.length→(plOf L)[k]? = some (L.getD k (0,[],0)).1:=fun h=>by rw [getD_at h]; exact pl_at (List.getElem?_eq_getElem h)
 have lt:∀ i v,i < k→(plOf L)[i]? = some v→v < slotAt L k:=fun i v hi e=>by
  cases k with
  | zero=>exact absurd hi (Nat.not_lt_zero _)
  | succ k=>exact Nat.lt_succ_of_le ((Nat.lt_or_eq_of_le (Nat.le_of_lt_succ hi)).elim (fun q=>Nat.le_of_lt (up_get r q e (pk hk))) fun q=>by subst q; cases e.symm.trans (pk hk); exact Nat.le_refl _)
 refine (below_ok r _).uniq (by rw [pl_len]; exact hk) (lt _) fun v hr e=>?_
 cases k with
 | zero=>exact Nat.zero_le _
 | succ k=>exact up_get r (Nat.lt_succ_self k) (pk hk) e
theorem next_ok {S slot k ep:Nat} {o:Obj} {Q:Option (PV × Nat)→Shared→Prop} (ho:s.heap.get? S = some o) (hd:o.data = .set (esOf L) ep t) (T:Tb prog w h₀ t L) (hk:k≤L.length) (hsl:w.params.followText "set-order" = false→slot = slotAt L k)
  (q0:k = L.length→Q none s) (q1:∀ x n,(ordOf w S ep L)[k]? = some x→(w.params.followText "set-order" = false→n = slotAt L (k + 1))→Q (some (x.2,n)) s):wpAny (model prog w) A (setNext S slot k ep) Q E s:=by
 delta setNext
 refine wpAny_bind (wpAny_setState_of ho hd (fitsH T s) ?_)
 dsimp only
 delta setsByText
 refine wpAny_bind (wpAny_bind (wpAny_askSetting (wpAny_pure ?_)))
 have fin:∀ {n:Nat} (r:Option (PV × Nat)),r = ((ordOf w S ep L)[k]?).map (fun e=>(e.2,n))→(k < L.length→w.params.followText "set-order" = false→n = slotAt L (k + 1))→Q r s:=fun {n} r hr hn=>by
  rcases Nat.lt_or_eq_of_le hk with hl | he
  ·have e:(ordOf w S ep L)[k]? = some _:=Array.getElem?_eq_getElem (by rw [ord_size]; exact hl)
   rw [hr,e]
   exact q1 _ _ e (hn hl)
  ·rw [hr,Array.getElem?_eq_none (Nat.le_of_eq (ord_size.trans he.symm))]
   exact q0 he
 cases hb:w.params.followText "set-order" with
 | true =>
  rw [show (model prog w).w.params.followText "set-order" = true from hb,if_pos rfl,if_neg (by rw [bne_self_eq_false]; exact Bool.false_ne_true)]
  delta setWalk
  refine wpAny_bind (wpAny_bind (wpAny_setState_of ho hd (fitsH T s) ?_))
  dsimp only
  delta setsByText
  refine wpAny_bind (wpAny_bind (wpAny_askSetting (wpAny_pure ?_)))
  rw [show (model prog w).w.params.followText "set-order" = true from hb,if_pos rfl]
  refine wpAny_bind (wpAny_askSetting (wpAny_pure ?_))
  exact wpAny_pure (fin _ (by delta ordOf; rw [if_pos hb]; rfl) fun _ h=>absurd (hb.symm.trans h) Bool.noConfusion)
 | false =>
  rw [show (model prog w).w.params.followText "set-order" = false from hb,if_neg Bool.false_ne_true]
  show wpAny (model prog w) A (if (!t.plain && decide ((esOf L).size > 1)) = true then _ else ((if (!t.led && !(esOf L).isEmpty) = true then unsupported "set:maker-not-led" else pure ()) >>= fun _=>_)) _ _ s
  rw [T.q.plain,T.q.led,hb,hsl hb]
  refine wpAny_bind (wpAny_pure (wpAny_pure ?_))
  rw [walk_at T hk]
  refine fin (n:=(L.getD k (0,[],0)).1 + 1) _ ?_ fun _ _=>rfl
  delta ordOf
  rw [if_neg (by rw [hb]; exact Bool.false_ne_true),T.q.place,List.getElem?_toArray (xs:=plOf L)]
  rcases Nat.lt_or_eq_of_le hk with hl | he
  ·rw [es_at (List.getElem?_eq_getElem hl),pl_at (List.getElem?_eq_getElem hl),getD_at hl]; rfl
  ·rw [Array.getElem?_eq_none (Nat.le_of_eq (es_size.trans he.symm))]; rfl
end
end Mine.Internal
namespace Mine.Internal
open PySem PySem.W PyProof.Rows PySem.Calls
theorem slot_si_next:Slot "set_iterator" "__next__" "set_iterator.__next__" :=
 .of (owner:="set_iterator") (n:="__next__") (by rw [typeLookup_type,builtinLookup_eq_fast]; kernel_rfl) (by decide +kernel) (by decide +kernel) (by decide +kernel)
  (by first | exact .inl (by decide +kernel) | exact .inr (by decide +kernel)) (by rw [isSubtype_type]; kernel_rfl)
theorem entry_si_next:entryFor table "set_iterator.__next__" = some Builtin.«set_iterator.__next__»:=entryFor_of_tree (by kernel_rfl)
theorem args_si_next (a:PV):argsOk "set_iterator.__next__" ⟨[a],[]⟩:=by delta argsOk; kernel_rfl
theorem entry_s_iter:entryFor table "set.__iter__" = some Builtin.«frozenset.__iter__» :=
 entryFor_alias (id':="frozenset.__iter__") (by kernel_rfl) rfl (by decide +kernel) (by kernel_rfl)
theorem slot_si_iter:Slot "set_iterator" "__iter__" "set_iterator.__iter__" :=
 .of (owner:="set_iterator") (n:="__iter__") (by rw [typeLookup_type,builtinLookup_eq_fast]; kernel_rfl) (by decide +kernel) (by decide +kernel) (by decide +kernel)
  (by first | exact .inl (by decide +kernel) | exact .inr (by decide +kernel)) (by rw [isSubtype_type]; kernel_rfl)
theorem args_si_iter (a:PV):argsOk "set_iterator.__iter__" ⟨[a],[]⟩:=by delta argsOk; kernel_rfl
theorem entry_si_iter:entryFor table "set_iterator.__iter__" = some Builtin.«dict_keyiterator.__iter__» :=
 entryFor_alias (id':="dict_keyiterator.__iter__") (by kernel_rfl) (by first | rfl | decide +kernel | (unfold String.splitOn; simp +decide [String.splitOnAux])) (by decide +kernel) (by kernel_rfl)
section
variable {prog:Program} {w:World} {t:SetTable} {L:List En} {A:Around} {E:PV→Shared→Prop} {s:Shared} {h₀:Heap}
noncomputable def SetIt (h:Heap) (I S slot k n ep:Nat):Prop:=h.get? I = some { cls:=.type "set_iterator",dict:=none,data:=.fields #[rawInt slot,rawInt k,.ref S,rawInt n,rawInt ep],slots:=#[] }
theorem set_step {I S:Addr} {o:Obj} {ep slot k:Nat} {Q:Option PV→Shared→Prop} (hh:A.handled = none) (ho:s.heap.get? S = some o) (hd:o.data = .set (esOf L) ep t) (T:Tb prog w h₀ t L) (it:SetIt s.heap I S slot k L.length ep) (hk:k≤L.length)
  (hsl:w.params.followText "set-order" = false→slot = slotAt L k) (q0:k = L.length→∀ h',Heap.ExtBut I s.heap h'→Q none { s with heap:=h' })
  (q1:∀ h' slot' x,Heap.SameBut I s.heap h'→SetIt h' I S slot' (k + 1) L.length ep→(w.params.followText "set-order" = false→slot' = slotAt L (k + 1))→(ordOf w S ep L)[k]? = some x→Q (some x.2) { s with heap:=h' }):wpAny (model prog w) A (pyNext (.ref I)) Q E s:=by
 have hT:s.TypeIs (.ref I) "set_iterator":=⟨_,it,rfl⟩
 delta pyNext
 refine wpAny_bind (wpAny_attempt (wpAny_callSpecial?_slot (name:=Str.ofString "__next__") hT slot_si_next
  (wpAny_call_entry slot_si_next hT entry_si_next ?_ (args_si_next _))))
 delta Builtin.«set_iterator.__next__»
 refine wpAny_bind (m:=slotArgs "__next__" 0 _) (wpAny_pure ?_)
 refine wpAny_bind ?_
 delta fieldsOf
 refine wpAny_bind (wpAny_load it (wpAny_pure ?_))
 show wpAny _ _ (setEntries S >>= _) _ _ _
 refine wpAny_bind (wpAny_setEntries_of ho hd (fitsH T s) ?_)
 rw [if_neg (by rw [es_size,bne_self_eq_false]; exact Bool.false_ne_true)]
 show wpAny _ _ (setNext S (Int.toNat slot) (Int.toNat k) (Int.toNat ep) >>= _) _ _ _
 rw [Int.toNat_natCast,Int.toNat_natCast,Int.toNat_natCast]
 refine wpAny_bind (next_ok ho hd T hk hsl (fun hk=>?_) fun x n h1 h2=>?_)
 ·refine wpAny_bind (wpAny_setField_rec it (Nat.lt_of_lt_of_le (by decide) (Nat.le_refl 5)) fun h1' g1 sb1=>?_)
  refine wpAny_bind ?_
  simp only [newExc,newTuple]
  refine wpAny_bind (wpAny_newObj_type ?_ (by size_fits))
  refine wpAny_bind (m:=firstArgMember _ _) (wpAny_of_eq (a:=Value.none) (by first | rfl | (simp only [firstArgMember]; rfl)) ?_)
  refine wpAny_newObj_type ?_ (by size_fits)
  simp only [raiseNew]
  refine wpAny_bind (wpAny_handled ?_)
  rw [show A.in1.handled = none from hh]
  refine wpAny_bind (wpAny_pure (wpAny_throw ?_))
  refine wpAny_bind (wpAny_isInstance (T:="StopIteration") (b:=true) ⟨_,Heap.get?_push_size _ rfl,rfl⟩ isSubtype_stop ?_)
  exact wpAny_pure (q0 hk _ ((sb1.extBut.push _).push _))
 ·refine wpAny_bind (wpAny_setField_rec it (Nat.lt_of_lt_of_le (by decide) (Nat.le_refl 5)) fun h1' g1 sb1=>?_)
  refine wpAny_bind (wpAny_setField_rec (s:={ s with heap:=h1' }) g1 (by simp) fun h2' g2 sb2=>?_)
  exact wpAny_pure ⟨_,rfl,wpAny_pure (q1 h2' n x (sb1.trans sb2) g2 h2 h1)⟩
theorem set_walks {I S:Addr} {o:Obj} {ep:Nat} (hh:A.handled = none) (hne:S ≠ I) (hd:o.data = .set (esOf L) ep t) (T:Tb prog w h₀ t L) :
  Walks prog w A I [I,S] [I] L.length (fun i v=>∃ x,(ordOf w S ep L)[i]? = some x∧v = x.2) (fun i h=>∃ slot,SetIt h I S slot i L.length ep∧(w.params.followText "set-order" = false→slot = slotAt L i)∧h.get? S = some o) where
 sub:=fun b hb=>List.mem_singleton.mp hb ▸ List.mem_cons_self
 frame:=fun i h h' ⟨slot,it,h1,h2⟩ hk=>⟨slot,hk I (List.mem_cons_self ..) _ it,h1,hk S (List.mem_cons_of_mem _ (List.mem_cons_self ..)) _ h2⟩
 item:=fun i s Q E hi ⟨slot,it,h1,h2⟩ hQ=>set_step hh h2 hd T it (Nat.le_of_lt hi) h1 (fun e=>absurd hi (Nat.not_lt.mpr (Nat.le_of_eq e.symm))) fun h' slot' x sb it' h3 h4=>hQ x.2 h' s.toks ⟨x,h4,rfl⟩ ⟨slot',it',h3,sb.extBut S o hne h2⟩ fun b o hb e=>sb.extBut b o (fun q=>hb (List.mem_singleton.mpr q)) e
 done:=fun s Q E ⟨slot,it,h1,h2⟩ hQ=>set_step hh h2 hd T it (Nat.le_refl _) h1 (fun _ h' eb=>hQ h' s.toks fun b o hb e=>eb b o (fun q=>hb (List.mem_singleton.mpr q)) e) fun h' slot' x _ _ _ h4=>absurd (Array.getElem?_eq_some_iff.mp h4).1 (Nat.not_lt.mpr (Nat.le_of_eq ord_size))
 self:=fun i s Q E ⟨slot,it,_,_⟩ hQ=>by
  have hT:s.TypeIs (.ref I) "set_iterator":=⟨_,it,rfl⟩
  refine wpAny_pyIter_slot hT slot_si_iter (wpAny_call_entry slot_si_iter hT entry_si_iter ?_ (args_si_iter _))
  show wpAny _ _ (ret (.ref I)) _ _ s
  exact wpAny_pure ⟨_,rfl,"set_iterator",_,hT,slot_si_next.lookup,hQ⟩
end
end Mine.Internal
namespace Mine.Internal
open PySem PySem.W PyProof.Rows PySem.Calls
section
variable {prog:Program} {w:World} {t:SetTable} {L:List En} {A:Around} {E:PV→Shared→Prop} {s:Shared} {h₀:Heap}
noncomputable def siO (S n ep:Nat):Obj:={ cls:=.type "set_iterator",data:=.fields #[rawInt (0:Nat),rawInt (0:Nat),.ref S,rawInt n,rawInt ep] }
theorem set_iter {S:Addr} {o:Obj} {ep:Nat} {Q:PV→Shared→Prop} (ho:s.heap.get? S = some o) (hex:o.ExactSet) (hd:o.data = .set (esOf L) ep t) (T:Tb prog w h₀ t L)
  (q:SetIt (s.heap.push (siO S L.length ep)) s.heap.objs.size S 0 0 L.length ep→Q (.ref s.heap.objs.size) { s with heap:=s.heap.push (siO S L.length ep) }) :
  wpAny (model prog w) A (pyIter (.ref S)) Q E s:=by
 have hT:s.TypeIs (.ref S) "set":=⟨o,ho,hex.1⟩
 have g:SetIt (s.heap.push (siO S L.length ep)) s.heap.objs.size S 0 0 L.length ep:=Heap.get?_push_size _ rfl
 refine wpAny_pyIter_slot hT F.slot_set_iter (wpAny_call_entry F.slot_set_iter hT entry_s_iter ?_ (F.args_set_iter_1 _))
 delta Builtin.«frozenset.__iter__» Builtin.Frozenset.slot0 slotArgs
 simp only [List.isEmpty_nil,Bool.not_true,Bool.false_eq_true,↓reduceIte,bind_assoc,List.length_nil,bne_self_eq_false]
 delta Builtin.Frozenset.addrOf Builtin.Frozenset.sizeOf
 refine wpAny_bind (wpAny_pure ?_)
 dsimp only
 refine wpAny_bind (wpAny_pure ?_)
 refine wpAny_bind (wpAny_bind (wpAny_setEntries_of ho hd (fitsH T s) (wpAny_pure ?_)))
 delta setDrawn setsByText
 refine wpAny_bind (wpAny_bind (wpAny_setState_of ho hd (fitsH T s) ?_))
 dsimp only
 refine wpAny_bind (wpAny_bind (wpAny_askSetting (wpAny_pure ?_)))
 refine wpAny_pure ?_
 have nf:∀ b:Bool,¬ (b && (!t.plain && decide ((esOf L).size > 1))) = true:=fun b=>by rw [T.q.plain]; cases b <;> exact Bool.false_ne_true
 rw [if_neg (by exact nf _)]
 refine wpAny_bind (wpAny_pure ?_)
 refine wpAny_bind (wpAny_setEpoch_of ho hd (fitsH T s) ?_)
 refine wpAny_bind (wpAny_newObj_type ?_)
 rw [es_size]
 exact wpAny_pure ⟨_,rfl,"set_iterator",_,⟨_,g,rfl⟩,slot_si_next.lookup,q g⟩
theorem items_ord {S ep:Nat} {acc:Array PV} (h:ItemsOf (fun i v=>∃ x,(ordOf w S ep L)[i]? = some x∧v = x.2) acc L.length):acc.toList.Perm (L.map fun e=>Value.ref e.2.2):=by
 have e:acc.toList = (ordOf w S ep L).toList.map (·.2):=List.ext_getElem ((h.1.trans ord_size.symm).trans (List.length_map ..).symm) fun i h1 h2=>by
  obtain ⟨x,hx,hv⟩:=h.2 i acc[i] (Array.getElem?_eq_getElem h1)
  rw [List.getElem_map]
  exact hv.trans (congrArg (·.2) (Array.getElem?_eq_some_iff.mp hx).2.symm)
 rw [e]
 refine (ord_perm.map (·.2)).trans (List.Perm.of_eq ?_)
 delta esOf
 exact List.map_map
theorem touch_ok {a:Addr} {n:Nat} {Q:Unit→Shared→Prop} (ho:s.heap.get? a = some (seqObj "list" #[] n)) (q:∀ h' n',Heap.SameBut a s.heap h'→h'.get? a = some (seqObj "list" #[] n')→Q () { s with heap:=h' }):wpAny (model prog w) A (Builtin.List.listTouch (.ref a)) Q E s:=by
 delta Builtin.List.listTouch
 have g1:=get?_update_seq ho (fun x=>x.push Value.none)
 refine wpAny_bind (listUpdate_at ho rfl ?_ (Nat.zero_le _) (by simp))
 refine listUpdate_at (s:={ s with heap:=s.heap.update a (Obj.mapSeq fun x=>x.push Value.none) }) g1 rfl ?_ (by rw [sizeLine_eq]; simp) (by simp)
 exact q _ _ ((Heap.SameBut.update ..).trans (Heap.SameBut.update ..)) (get?_update_seq g1 (fun x=>x.pop))
theorem collect_set {S:Addr} {o:Obj} {ep:Nat} {Q:List PV→Shared→Prop} (hh:A.handled = none) (ho:s.heap.get? S = some o) (hex:o.ExactSet) (hd:o.data = .set (esOf L) ep t) (T:Tb prog w h₀ t L)
  (q:∀ h' tk (acc:List PV),(∀ b o,s.heap.get? b = some o→h'.get? b = some o)→acc.Perm (L.map fun e=>Value.ref e.2.2)→Q acc { s with heap:=h',toks:=tk }):wpAny (model prog w) A (collect (.ref S)) Q E s:=by
 have hlt:S < s.heap.objs.size:=Heap.lt_size ho
 delta collect
 refine wpAny_bind (wpAny_runValue (codeAny_builtin F.entry_proto_collect ?_))
 rw [Around.under_plainId F.plain_proto_collect _]
 show wpAny _ A.in1 (newList [] >>= fun l=>again (.builtin "list.__iadd__" ⟨[l,.ref S],[]⟩)) _ _ s
 refine wpAny_bind (wpAny_newObj_type ?_)
 refine wpAny_pure ⟨plainId_quiet F.plain_list_iadd _,codeAny_builtin F.entry_list_iadd ?_⟩
 rw [Around.under_plainId F.plain_list_iadd _]
 have hS₁:(s.heap.push (seqObj "list" #[] 0)).get? s.heap.objs.size = some (seqObj "list" #[] 0):=Heap.get?_push_size _ rfl
 have ho1:(s.heap.push (seqObj "list" #[] 0)).get? S = some o:=Heap.get?_push_of_some _ ho
 show wpAny _ A.in1 (Builtin.List.listExtendWith (.ref s.heap.objs.size) (.ref S) (.ref s.heap.objs.size)) _ _ { s with heap:=s.heap.push (seqObj "list" #[] 0) }
 delta Builtin.List.listExtendWith
 refine wpAny_bind (wpAny_typeOf (T:="set") ⟨_,ho1,hex.1⟩ ?_)
 rw [if_neg (by rw [show Builtin.List.listSameRef (.ref s.heap.objs.size) (.ref S) = false by simp [Builtin.List.listSameRef]; exact Nat.ne_of_gt hlt]; decide)]
 refine wpAny_bind (set_iter ho1 hex hd T fun it=>?_)
 generalize hI:({ s with heap:=s.heap.push (seqObj "list" #[] 0) }:Shared).heap.objs.size = I at it ⊢
 have hI:I = s.heap.objs.size + 1:=hI.symm.trans (Heap.size_push ..)
 have ho2:((s.heap.push (seqObj "list" #[] 0)).push (siO S L.length ep)).get? S = some o:=Heap.get?_push_of_some _ ho1
 refine wpAny_bind (wpAny_holding ?_)
 delta Builtin.List.listLengthHint
 refine wpAny_bind (wpAny_specialOf (T:="set") ⟨_,ho2,hex.1⟩ F.slot_set_len.lookup ?_)
 (generalize hid:("set.__len__":String) = id0; (fail_if_success (clear hid id0)); wp_delta; rw [show splitId id0 = some ("set","__len__") from by subst hid; decide +kernel]; subst hid)
 refine wpAny_bind (wpAny_isInstance (T:="set") (b:=true) ⟨_,ho2,hex.1⟩ (by rw [isSubtype_type]; kernel_rfl) ?_)
 show wpAny _ A.in1 (typeOf (.ref S) >>= _) _ _ _
 refine wpAny_bind (wpAny_typeOf (T:="set") ⟨_,ho2,hex.1⟩ ?_)
 refine wpAny_pure ?_
 rw [if_pos (by decide)]
 refine wpAny_bind (wpAny_rule ?_)
 have nS:S ≠ I:=hI ▸ Nat.ne_of_lt (Nat.lt_succ_of_lt hlt)
 refine wpAny_bind (touch_ok (n:=0) (Heap.get?_push_of_some _ hS₁) fun h2 n2 sb2 hS₂=>?_)
 have W:=(set_walks (A:=A.in1) (I:=I) hh nS hd T).toS
 have out:∀ {b:Nat},b ≠ I→b ≠ S→b ∉ [I,S]:=fun h1 h2 hm=>(List.mem_cons.mp hm).elim h1 fun h=>h2 (List.mem_singleton.mp h)
 refine wpAny_pure ⟨plainId_quiet F.plain_extend_loop _,codeAny_extend_loopS W (by rw [sizeLine_eq]; exact Nat.le_trans T.q.len (by decide)) s.heap.objs.size (out (hI ▸ Nat.ne_of_lt (Nat.lt_succ_self _)) (Nat.ne_of_gt hlt)) _ L.length 0 _ #[] n2 rfl (Nat.zero_le _) ⟨0,sb2.extBut _ _ (hI ▸ Nat.ne_of_gt (Nat.lt_succ_self _)) it,fun _=>rfl,sb2.extBut _ _ (Nat.ne_of_lt hlt) ho2⟩ hS₂ (ItemsOf.nil _) fun s' acc' c' hm hS' hacc=>?_⟩
 show wpAny _ A (load s.heap.objs.size >>= _) _ _ s'
 refine wpAny_bind (wpAny_load hS' ?_)
 obtain ⟨m1,m2,m3,m4,m5⟩:=hm
 obtain ⟨hp,gs,dr,tk,os⟩:=s'
 dsimp only at m2 m3 m4
 subst m2; subst m3; subst m4
 refine wpAny_pure (q hp tk acc'.toList (fun b ob e=>m1 b ob ?_ (sb2.extBut b ob (Nat.ne_of_lt (Heap.lt_size e)) (Heap.get?_push_of_some _ (Heap.get?_push_of_some _ e)))) (items_ord hacc))
 have hb:=Heap.lt_size e
 simp only [List.mem_cons,List.not_mem_nil,or_false,not_or]
 exact ⟨Nat.ne_of_lt hb,hI ▸ Nat.ne_of_lt (Nat.lt_succ_of_lt hb)⟩
end
end Mine.Internal
namespace Mine.Internal
open PySem PySem.W PyProof.Rows PySem.Calls
section
variable {prog:Program} {w:World} {t:SetTable} {L:List En} {A:Around} {E:PV→Shared→Prop} {s:Shared} {h₀:Heap}
noncomputable def RowsAt (prog:Program) (w:World) (h:Heap) (items:Array PV) (ks:List (List Int × Addr)):Prop:=items.toList = ks.map (fun e=>Value.ref e.2)∧∀ e∈ks,e.1∈rowsI∧IsTupleKey (intKind prog w) h e.1 e.2
theorem SetAt.keep {h h':Heap} {S:Addr} (x:SetAt prog w h S L) (k:∀ b o,h.get? b = some o→b = S ∨ (∃ e∈L,e.2.2 = b)→h'.get? b = some o):SetAt prog w h' S L:=by
 obtain ⟨o,ep,t,ho,hex,hd,T⟩:=x
 refine ⟨o,ep,t,k S o ho (.inl rfl),hex,hd,{ T.q with tup:=fun e he=>⟨(T.q.tup e he).1,?_⟩ },T.room⟩
 obtain ⟨oo,items,n,ho2,r⟩:=(T.q.tup e he).2
 exact ⟨oo,items,n,k _ oo ho2 (.inr ⟨e,he,rfl⟩),r⟩
theorem rows_loop {S I l:Addr} {items:Array PV} {ks:List (List Int × Addr)} {R:Result→Shared→Prop} (hu:A.units + 5 < cLine) (hh:A.handled = none) (h1:S ≠ I) (h2:S ≠ l) (h3:l ≠ I) (hksI:∀ e∈ks,e.2 ≠ I) :
  ∀ (f k:Nat) (L:List En) (s:Shared),ks.length - k = f→k≤ks.length→s.heap.IsListIter I l k→s.heap.IsList l items→RowsAt prog w s.heap items ks→SetAt prog w s.heap S L→(∀ e∈L,e.2∈ks)→(∀ e∈ks.take k,∃ e'∈L,e'.2.1 = e.1) →
   (∀ h' tk L',(∀ b o,b ≠ S→b ≠ I→s.heap.get? b = some o→h'.get? b = some o)→SetAt prog w h' S L'→(∀ e∈L',e.2∈ks)→(∀ e∈ks,∃ e'∈L',e'.2.1 = e.1)→R (.ok (.ret .none)) { s with heap:=h',toks:=tk }) →
   codeAny (model prog w) A (.builtin "set.update.loop" ⟨[.ref S,.ref I],[]⟩) R s:=by
 intro f
 induction f with
 | zero =>
  intro k L s hf hk it il ra sa hL hT q
  have hke:k = ks.length:=Nat.le_antisymm hk (Nat.le_of_sub_eq_zero hf)
  subst hke
  refine codeAny_builtin F.entry_set_update_loop ?_
  rw [Around.under_plainId F.plain_set_update_loop _]
  show wpAny _ A.in1 (pyNext (.ref I) >>= _) _ _ s
  have hsz:items.size = ks.length:=by have:=congrArg List.length ra.1; simpa using this
  refine wpAny_bind (wpAny_pyNext_list_end hh it il (Array.getElem?_eq_none (Nat.le_of_eq hsz)) fun h' eb=>?_)
  show wpAny _ A.in1 (ret Value.none) _ _ _
  refine wpAny_pure (q h' s.toks L (fun b o _ n2 e=>eb b o n2 e) (sa.keep fun b o eo hb=>eb b o ?_ eo) hL (by rw [List.take_length] at hT; exact hT))
  rcases hb with rfl | ⟨e,he,rfl⟩
  ·exact h1
  ·exact hksI _ (hL e he)
 | succ f ih =>
  intro k L s hf hk it il ra sa hL hT q
  have hlt:k < ks.length:=Nat.lt_of_sub_eq_succ hf
  have hf1:ks.length - (k + 1) = f:=by rw [Nat.sub_succ,hf]; rfl
  refine codeAny_builtin F.entry_set_update_loop ?_
  rw [Around.under_plainId F.plain_set_update_loop _]
  show wpAny _ A.in1 (pyNext (.ref I) >>= _) _ _ s
  have hv:items[k]? = some (.ref ks[k].2):=by
   rw [← Array.getElem?_toList,ra.1,List.getElem?_map,List.getElem?_eq_getElem hlt]; rfl
  refine wpAny_bind (wpAny_pyNext_list_item it il hv fun h1' it' sb=>?_)
  have hmem:ks[k]∈ks:=List.getElem_mem hlt
  have htu:IsTupleKey (intKind prog w) h1' ks[k].1 ks[k].2:=tup_but (ra.2 _ hmem).2 (fun b o n e=>sb.extBut b o n e) (hksI _ hmem)
  have sa1:SetAt prog w h1' S L:=sa.keep fun b o eo hb=>sb.extBut b o (by
   rcases hb with rfl | ⟨e,he,rfl⟩
   ·exact h1
   ·exact hksI _ (hL e he)) eo
  have il1:h1'.IsList l items:=il.extBut sb.extBut h3
  have ra1:RowsAt prog w h1' items ks:=⟨ra.1,fun e he=>⟨(ra.2 e he).1,tup_but (ra.2 e he).2 (fun b o n e=>sb.extBut b o n e) (hksI e he)⟩⟩
  have take:∀ L':List En,(∀ e∈ks.take k,∃ e'∈L',e'.2.1 = e.1)→(∃ e'∈L',e'.2.1 = ks[k].1)→∀ e∈ks.take (k + 1),∃ e'∈L',e'.2.1 = e.1:=fun L' a b e he=>by
   rw [List.take_add_one,List.getElem?_eq_getElem hlt] at he
   rcases List.mem_append.mp he with he | he
   ·exact a e he
   ·simp at he; subst he; exact b
  show wpAny _ A.in1 (holding [Value.ref ks[k].2] (setAdd S (.ref ks[k].2)) >>= _) _ _ _
  refine wpAny_bind (wpAny_holding ?_)
  delta setAdd
  refine wpAny_holding ?_
  refine wpAny_bind (wpAny_pyHash_tuple (Nat.lt_of_le_of_lt (Nat.add_le_add_left (by decide:1≤5) _) hu) htu ?_)
  refine add_ok (key:=ks[k].1) (Nat.lt_of_le_of_lt (Nat.add_le_add_left (by decide:1≤5) _) hu) (s:={ s with heap:=h1',toks:=s.toks + (ks[k].1.length + 1) }) sa1 (ra.2 _ hmem).1 htu (fun hex=>?_) (fun hn h2' L' sb2 sa2 hp=>?_)
  ·exact wpAny_pure ⟨plainId_quiet F.plain_set_update_loop _,ih (k + 1) L _ hf1 hlt it' il1 ra1 sa1 hL (take L hT hex) fun h' tk L' kp sa' a b=>q h' tk L' (fun b o n1 n2 e=>kp b o n1 n2 (sb.extBut b o n2 e)) sa' a b⟩
  ·have mem:∀ e2:List Int × Addr,e2∈L'.map (·.2) ↔ e2 = (ks[k].1,ks[k].2) ∨ e2∈L.map (·.2):=fun e2=>by rw [hp.mem_iff,List.mem_cons]
   have nS:∀ e∈ks,e.2 ≠ S:=fun e he ee=>by
    obtain ⟨o,ep,t,ho,hex,_,_⟩:=sa1
    exact tup_ne (ra1.2 e he).2 ho hex ee
   refine wpAny_pure ⟨plainId_quiet F.plain_set_update_loop _,ih (k + 1) L' _ hf1 hlt ?_ (il1.extBut sb2.extBut h2.symm) ⟨ra.1,fun e he=>⟨(ra1.2 e he).1,tup_but (ra1.2 e he).2 (fun b o n e=>sb2.extBut b o n e) (nS e he)⟩⟩ sa2 (fun e he=>?_) (take L' (fun e he=>?_) ?_) fun h' tk L2 kp sa' a b=>q h' tk L2 (fun b o n1 n2 e=>kp b o n1 n2 (sb2.extBut b o n1 (sb.extBut b o n2 e))) sa' a b⟩
   ·obtain ⟨o,ho,r⟩:=it'
    exact ⟨o,sb2.extBut _ _ h1.symm ho,r⟩
   ·rcases (mem e.2).mp (List.mem_map.mpr ⟨e,he,rfl⟩) with e2 | e2
    ·rw [e2]; exact hmem
    ·obtain ⟨e',he',ee⟩:=List.mem_map.mp e2
     rw [← ee]; exact hL e' he'
   ·obtain ⟨e',he',ee⟩:=hT e he
    obtain ⟨e3,he3,ee3⟩:=List.mem_map.mp ((mem e'.2).mpr (.inr (List.mem_map.mpr ⟨e',he',rfl⟩)))
    exact ⟨e3,he3,by rw [ee3]; exact ee⟩
   ·obtain ⟨e3,he3,ee3⟩:=List.mem_map.mp ((mem (ks[k].1,ks[k].2)).mpr (.inl rfl))
    exact ⟨e3,he3,by rw [ee3]⟩
end
end Mine.Internal
namespace Mine.Internal
open PySem PySem.W PyProof.Rows PySem.Calls
section
variable {prog:Program} {w:World} {A:Around} {E:PV→Shared→Prop} {s:Shared}
noncomputable def ty2 (b:Bool):String:=bif b then "tuple" else "list"
theorem set_new_1 (a:PV) {Q₁:PV→Shared→Prop}
  (h:∀ led:Bool,led = !(w.params.followText "set-order")→Q₁ (.ref s.heap.objs.size) { s with heap:=s.heap.push { cls:=.type "set",dict:=none,data:=.set #[] 0 (.fresh 0 0 led) } }) :
  codeAny (model prog w) A (.call (.builtin "set.__new__") ⟨[.type "set",a],[]⟩) (wants Q₁ E) s:=by
 refine codeAny_of_tree ?_
 show wpAny _ A.in1 (do checkBuiltinCall "set.__new__" ⟨[.type "set",a],[]⟩; again (.builtin "set.__new__" ⟨[.type "set",a],[]⟩)) _ _ s
 refine wpAny_bind (wpAny_of_eq (F.newCall_set_1 a) (wpAny_pure ⟨plainId_quiet F.plain_set_new _,codeAny_builtin F.entry_set_new ?_⟩))
 rw [Around.under_plainId F.plain_set_new _]
 delta Builtin.«set.__new__» Builtin.Frozenset.newClass
 have hsub:=sub_set_self
 obtain ⟨hp,g,d,tk,os⟩:=s
 dsimp only
 wp_walk
 refine wpAny_askSetting (wpAny_pure ?_)
 dsimp only
 simp only [newObj]
 refine wpAny_bind (wpAny_alloc (wpAny_pure ?_))
 exact wpAny_pure (h _ rfl)
theorem Sq2.obj {b2:Bool} {h:Heap} {a:Addr} {vs:Array PV} (t:Sq2 b2 h a vs):∃ o,h.get? a = some o∧o.cls = .type (ty2 b2):=by
 cases b2 with
 | true=>exact (show h.IsTuple a vs from t).elim fun o q=>⟨o,q.1,q.2.1⟩
 | false=>exact (show h.IsList a vs from t).elim fun o q=>⟨o,q.1,q.2.1⟩
noncomputable def fsO (led:Bool):Obj:={ cls:=.type "set",dict:=none,data:=.set #[] 0 (.fresh 0 0 led) }
theorem call_set_seq {b2:Bool} {l:Addr} {items:Array PV} {P:Heap→Prop} {Q:PV→Shared→Prop} (hl:Sq2 b2 s.heap l items)
  (lp:∀ (led:Bool) (hp:Heap),led = (!(w.params.followText "set-order"))→hp.objs.size = s.heap.objs.size + 1 + 1→hp.get? s.heap.objs.size = some (fsO led)→Itr (nm2 b2) hp (s.heap.objs.size + 1) l 0→(∀ b o,s.heap.get? b = some o→hp.get? b = some o) →
   codeAny (model prog w) A.in1.in1 (.builtin "set.update.loop" ⟨[.ref s.heap.objs.size,.ref (s.heap.objs.size + 1)],[]⟩) (wants (fun r s₂=>r = .none∧∃ h' tk,s₂ = { s with heap:=h',toks:=tk }∧P h'∧(∀ b o,b < s.heap.objs.size→hp.get? b = some o→h'.get? b = some o)) E) { s with heap:=hp })
  (h:∀ (h':Heap) (tk:Nat),P h'→(∀ b o,b < s.heap.objs.size→s.heap.get? b = some o→h'.get? b = some o)→Q (.ref s.heap.objs.size) { s with heap:=h',toks:=tk }) :
  wpAny (model prog w) A (call (.type "set") [.ref l]) Q E s:=by
 obtain ⟨c,tl,hmro⟩:=F.called_set.mro
 have hmade:=F.called_set.made
 have hsub':=F.called_set.sub
 refine wpAny_call (codeAny_of_tree ?_)
 show wpAny _ _ (callAny (.type "set") _) _ _ _
 refine wpAny_pure ⟨Code.quiet_builtin _ (by decide +kernel),codeAny_builtin F.entry_type_call ?_⟩
 rw [Around.under_plain (weight_type_call_type "set" [.ref l] []) rfl]
 have h1:=F.called_set.notType
 have h2:=F.called_set.canCreate
 have hct:=F.typeCall_set_1 (.ref l)
 repeat (any_goals (first | assumption | wp_step))
 refine codeAny_mono (set_new_1 (.ref l) (E:=E) (Q₁:=fun obj s₁=>∃ led:Bool,led = (!(w.params.followText "set-order"))∧obj = .ref s.heap.objs.size∧s₁ = { s with heap:=s.heap.push (fsO led) }) fun led hled=>⟨led,hled,rfl,rfl⟩) fun r s₁ hr=>?_
 cases r with
 | error e=>exact hr
 | ok fl =>
  cases fl with
  | ret obj =>
   obtain ⟨led,hled,rfl,rfl⟩:=hr
   have hS:(s.heap.push (fsO led)).get? s.heap.objs.size = some (fsO led):=Heap.get?_push_size _ rfl
   have hT:Shared.TypeIs { s with heap:=s.heap.push (fsO led) } (.ref s.heap.objs.size) "set":=⟨_,hS,rfl⟩
   have hli:=F.called_set.init.lookup
   have hbi:=F.called_set.init.bind (.ref s.heap.objs.size)
   repeat (any_goals (first | assumption | wp_step))
   refine codeAny_mono (codeAny_call_builtin (R:=wants (fun r s₂=>r = .none∧∃ h' tk,s₂ = { s with heap:=h',toks:=tk }∧P h' ∧
     (∀ b o,b < s.heap.objs.size→s.heap.get? b = some o→h'.get? b = some o)) E) F.called_set.init.plain F.entry_set_init (check_set_init_1 hT ?_)) fun r₂ s₂ hr₂=>?_
   ·have hl1:Sq2 b2 (s.heap.push (fsO led)) l items:=hl.ext fun o e=>Heap.get?_push_of_some _ e
    have hT2:Shared.TypeIs { s with heap:=s.heap.push (fsO led) } (.ref l) (ty2 b2):=hl1.obj
    have hsls:isSubtype (.type (ty2 b2)) (.type "set") = pure false:=by cases b2 <;> (rw [isSubtype_type]; kernel_rfl)
    have hslf:isSubtype (.type (ty2 b2)) (.type "frozenset") = pure false:=by cases b2 <;> (rw [isSubtype_type]; kernel_rfl)
    have hne:(Value.type (ty2 b2) == Value.type "dict") = false:=by cases b2 <;> decide
    delta Builtin.«set.__init__» noKeywords Builtin.Frozenset.updateFrom
    generalize hPI:pyIter = PI
    wp_walk
    subst hPI
    refine pyIter_2 hl1 ?_
    refine wpAny_bind (wpAny_runValue ?_)
    have z1:(s.heap.push (fsO led)).objs.size = s.heap.objs.size + 1:=Heap.size_push ..
    have lp':=lp led ((s.heap.push (fsO led)).push { cls:=.type (nm2 b2),data:=.fields #[.ref l,.int 0 0] }) hled (by rw [Heap.size_push,z1]) (Heap.get?_push_of_some _ hS) (by rw [← z1]; exact ⟨_,Heap.get?_push_size _ rfl,rfl,rfl⟩) fun b o' e=>Heap.get?_push_of_some _ (Heap.get?_push_of_some _ e)
    rw [← z1] at lp'
    refine codeAny_mono lp' fun r s₂ hr=>?_
    cases r with
    | error e=>exact hr
    | ok fl =>
     cases fl with
     | ret r =>
      obtain ⟨rfl,h',tk,rfl,sa,hk'⟩:=hr
      show wpAny _ _ _ _ _ _
      refine wpAny_pure ?_
      show wpAny _ _ (ret Value.none) _ _ _
      exact wpAny_pure ⟨rfl,h',tk,rfl,sa,fun b o hb e=>hk' b o hb (Heap.get?_push_of_some _ (Heap.get?_push_of_some _ e))⟩
     | _=>exact hr.elim
   ·cases r₂ with
    | error e=>exact hr₂
    | ok fl₂ =>
     cases fl₂ with
     | ret r =>
      obtain ⟨rfl,h',tk,rfl,sa,hk'⟩:=hr₂
      repeat (any_goals (first | assumption | wp_step))
      exact h _ _ sa hk'
     | _=>exact hr₂.elim
  | _=>exact hr.elim
end
end Mine.Internal
namespace Mine.Internal
open PySem PySem.W PyProof.Rows PySem.Calls
section
variable {prog:Program} {w:World} {A:Around} {E:PV→Shared→Prop} {s:Shared}
theorem call_set_rows {l:Addr} {items:Array PV} {ks:List (List Int × Addr)} {Q:PV→Shared→Prop}
  (hu:A.units + 20 < cLine) (hh:A.handled = none) (hl:s.heap.IsList l items) (ra:RowsAt prog w s.heap items ks)
  (h:∀ (h':Heap) (tk:Nat) L,SetAt prog w h' s.heap.objs.size L→(∀ e∈L,e.2∈ks)→(∀ e∈ks,∃ e'∈L,e'.2.1 = e.1) →
   (∀ b o,b < s.heap.objs.size→s.heap.get? b = some o→h'.get? b = some o)→Q (.ref s.heap.objs.size) { s with heap:=h',toks:=tk }) :
  wpAny (model prog w) A (call (.type "set") [.ref l]) Q E s:=by
 have hlS:l < s.heap.objs.size:=hl.elim fun o q=>Heap.lt_size q.1
 have klt:∀ e∈ks,e.2 < s.heap.objs.size:=fun e he=>by
  obtain ⟨m',o',it',n',ho',r'⟩:=ra.2 e he
  exact Heap.lt_size ho'
 refine call_set_seq (b2:=false) (P:=fun h'=>∃ L,SetAt prog w h' s.heap.objs.size L∧(∀ e∈L,e.2∈ks)∧∀ e∈ks,∃ e'∈L,e'.2.1 = e.1) hl (fun led hp hled hz hS it kp=>?_) fun h' tk ⟨L,sa,a,b⟩ k=>h h' tk L sa a b k
 refine rows_loop (S:=s.heap.objs.size) (l:=l) (items:=items) (ks:=ks) (by show A.units + 1 + 1 + 5 < cLine; (first | lia | omega)) (by exact hh) (Nat.ne_of_lt (Nat.lt_succ_self _)) (Nat.ne_of_gt hlS) (Nat.ne_of_lt (Nat.lt_succ_of_lt hlS)) (fun e he=>Nat.ne_of_lt (Nat.lt_succ_of_lt (klt e he)))
  ks.length 0 [] { s with heap:=hp } (by (first | lia | omega)) (Nat.zero_le _) it (hl.at fun o e=>kp _ o e) ⟨ra.1,fun e he=>(ra.2 e he).imp_right fun ⟨o',it',n',ho',r'⟩=>⟨o',it',n',kp _ _ ho',r'⟩⟩ ⟨_,0,.fresh 0 0 led,hS,⟨rfl,rfl,rfl⟩,rfl,⟨⟨List.mem_cons_self ..,rfl,rfl,rfl,hled,.nil,fun _ h=>(nomatch h),fun _ h=>(nomatch h),.nil,fun _ h=>(nomatch h)⟩,(by show 0 * 5 < 7 * 3; decide)⟩⟩ (fun _ h=>nomatch h) (fun _ h=>by simp at h) fun h' tk L kp' sa a b=>?_
 exact ⟨rfl,h',tk,rfl,⟨L,sa,a,b⟩,fun b' o hb e=>kp' b' o (Nat.ne_of_lt hb) (Nat.ne_of_lt (Nat.lt_succ_of_lt hb)) e⟩
theorem range_getD (ns:List Int):(List.range ns.length).map (fun i=>ns.getD i 0) = ns:=List.ext_getElem? fun i=>by
 rw [List.getElem?_map]
 by_cases h:i < ns.length
 ·rw [List.getElem?_range h,List.getElem?_eq_getElem h]; exact congrArg some (by show ns.getD i 0 = ns[i]; rw [List.getD_eq_getElem?_getD,List.getElem?_eq_getElem h]; rfl)
 ·rw [List.getElem?_eq_none (by rw [List.length_range]; exact Nat.le_of_not_lt h),List.getElem?_eq_none (Nat.le_of_not_lt h)]; rfl
theorem call_set_ints {l:Addr} {items:Array PV} {ns:List Int} {Q:PV→Shared→Prop} (hh:A.handled = none) (hl:s.heap.IsTuple l items) (hi:IntsAre items.toList ns) (hb:ns.length≤1000)
  (h:∀ (h':Heap) (tk:Nat),(∃ o es ep t,h'.get? s.heap.objs.size = some o∧o.ExactSet∧o.data = .set es ep t∧t.fits es.size = true∧es.size = (ns.foldl step_dedup []).length)→(∀ b o,b < s.heap.objs.size→s.heap.get? b = some o→h'.get? b = some o)→Q (.ref s.heap.objs.size) { s with heap:=h',toks:=tk }) :
  wpAny (model prog w) A (call (.type "set") [.ref l]) Q E s:=by
 have hlS:l < s.heap.objs.size:=hl.elim fun o q=>Heap.lt_size q.1
 have hz:items.size = ns.length:=Array.length_toList.symm.trans hi.length
 have hm:(firstMet (fun i=>ns.getD i 0) items.size) = ns.foldl step_dedup []:=by delta firstMet; rw [hz,range_getD]
 refine call_set_seq (b2:=true) (P:=fun h'=>∃ o es ep t,h'.get? s.heap.objs.size = some o∧o.ExactSet∧o.data = .set es ep t∧t.fits es.size = true∧es.size = (ns.foldl step_dedup []).length) hl (fun led hp hled hz2 hS it kp=>?_) fun h' tk p k=>h h' tk p k
 refine codeAny_set_update_loopS ((Walks.tuple (A:=A.in1.in1.in1) hh (s.heap.objs.size + 1) l (Nat.ne_of_lt (Nat.lt_succ_of_lt hlS)) items).toS) s.heap.objs.size (fun hm=>?_) (fun i=>ns.getD i 0) (fun i v hv=>hi.int_at i v (Array.getElem?_toList.trans hv)) (by rw [hz]; delta scanBound; (first | lia | omega)) (items.size - 0) 0 { s with heap:=hp } (by (first | lia | omega)) (Nat.zero_le _) ⟨it,hl.at fun o e=>kp _ o e⟩ (SetOf_congr ((setObjOf_fresh (knd:=intKind prog w) led).setOf hS (by delta scanBound; (first | lia | omega))) (fun _=>rfl) rfl) fun s' hm' hS'=>?_
 ·exact (List.mem_cons.mp hm).elim (fun e=>Nat.ne_of_lt (Nat.lt_succ_self _) e) fun hm=>Nat.ne_of_gt hlS (List.mem_singleton.mp hm)
 ·obtain ⟨h',g',d',tk',os'⟩:=s'
  have eg:g' = s.gens:=hm'.gens
  have ed:d' = s.drawn:=hm'.drawn
  have eo:os' = s.os:=hm'.os
  subst eg ed eo
  rw [hm] at hS'
  obtain ⟨o,es,ep,t,ho,hex,hd,_,_,_,hf,hn⟩:=hS'
  exact ⟨rfl,h',tk',rfl,⟨o,es,ep,t,ho,hex,hd,hf,hn⟩,fun b o hb e=>hm'.heap b o (fun hm=>(List.mem_cons.mp hm).elim (fun e=>Nat.ne_of_lt hb e) fun hm=>Nat.ne_of_lt (Nat.lt_succ_of_lt hb) (List.mem_singleton.mp hm)) e⟩
end
end Mine.Internal
namespace Mine.Internal
open PySem PySem.W PyProof.Rows PySem.Calls
noncomputable abbrev Rw:=List Int × Addr
noncomputable abbrev rwV (e:Rw):V:=rowV e.1
noncomputable abbrev rwP (e:Rw):PV:=.ref e.2
section
variable {B:Bd} {G:Ev} {N:Nx} {u:Nat} {c:Ck} {Q E:PV→Shared→Prop}
theorem perm_lift {α β:Type} {f:α→β} {acc:List β}:∀ {l:List α},acc.Perm (l.map f)→∃ es:List α,es.Perm l∧acc = es.map f:=by
 induction acc with
 | nil=>exact fun {l} h=>⟨[],by rw [List.map_eq_nil_iff.mp h.symm.eq_nil],rfl⟩
 | cons v acc ih =>
  intro l h
  obtain ⟨e,he,rfl⟩:=List.mem_map.mp (h.mem_iff.mp (List.mem_cons_self ..))
  obtain ⟨l1,l2,rfl⟩:=List.append_of_mem he
  obtain ⟨es,e1,e2⟩:=ih (l:=l1++l2) (h.trans ((List.perm_middle (a:=e) (l₁:=l1) (l₂:=l2)).map f)).cons_inv
  exact ⟨e :: es,(e1.cons e).trans List.perm_middle.symm,congrArg (f e :: ·) e2⟩
theorem row_ks:∀ {l:List V} {vs:List PV},l.all rowOk = true→Vals B N l vs→∃ ks:List Rw,vs = ks.map rwP∧l = ks.map rwV∧∀ e∈ks,Val B N (rwV e) (rwP e)∧RowAt B.D N N.s.heap (rwP e) e.1:=by
 intro l
 induction l with
 | nil=>exact fun _ r=>⟨[],r,rfl,fun _ h=>nomatch h⟩
 | cons d l ih =>
  intro vs ha r
  obtain ⟨v,t,rfl,r1,r2⟩:=r
  have ha:=Bool.and_eq_true_iff.mp ha
  obtain ⟨ks,rfl,rfl,k⟩:=ih ha.2 r2
  obtain ⟨q,hq,rfl⟩:=rowOk_of ha.1
  have w:=row_at ha.1 r1
  rw [ikey_row] at w
  obtain ⟨a,arr,n,rfl,w⟩:=w
  exact ⟨(q,a) :: ks,rfl,rfl,fun e he=>(List.mem_cons.mp he).elim (fun e1=>by rw [e1]; exact ⟨r1,a,arr,n,rfl,w⟩) (k e)⟩
theorem rows_val {ks es:List Rw} (k:∀ e∈ks,Val B N (rwV e) (rwP e)∧RowAt B.D N N.s.heap (rwP e) e.1) (h:∀ e∈es,e∈ks):Vals B N (es.map rwV) (es.map rwP):=by
 induction es with
 | nil=>exact rfl
 | cons e es ih=>exact ⟨_,_,rfl,(k e (h e (List.mem_cons_self ..))).1,ih fun e he=>h e (List.mem_cons_of_mem _ he)⟩
theorem items_are {prog:Program} {w:World} {D:Wd}:∀ {k:List Int} {vs:List PV},RVs D N (k.map .int) vs→ItemsAre (intKind prog w) k vs:=by
 intro k
 induction k with
 | nil=>intro vs r; cases (r:vs = []); exact .nil
 | cons i k ih =>
  intro vs r
  obtain ⟨_,t,rfl,⟨tk,rfl⟩,r⟩:=r
  exact .cons (by simp [intKind,Value.isInt]) (ih r)
theorem sorted_set {L:List En} {S:Addr} (hh:G.A.handled = none) (sm:Sm B.D N) {s:Shared} (mo:More N s) (SA:SetAt B.D.prog B.D.w s.heap S L) {ks:List Rw} {l:List V} (hl:l.all rowOk = true) (el:l = ks.map rwV)
  (k:∀ e∈ks,Val B N (rwV e) (rwP e)∧RowAt B.D N N.s.heap (rwP e) e.1) (k1:∀ e∈L,e.2∈ks) (k2:∀ e∈ks,∃ e'∈L,e'.2.1 = e.1)
  (z:∀ Y v,Aft B.D N noA Y→Y.σ = N.σ→Val B Y (.list (sortB l)) v→Q v Y.s):wpAny (model B.D.prog B.D.w) G.A (call (.builtin "sorted") [.ref S]) Q E s:=by
 obtain ⟨o,ep,t,ho,hex,hd,T⟩:=SA
 refine Calls.call_function_entry kind_sorted plain_sorted entry_sorted (args_sorted1 _) ?_
 delta Builtin.«sorted»
 refine wpAny_bind (m:=checkCount "sorted" 1 1 _) (wpAny_pure ?_)
 refine wpAny_bind (collect_set hh ho hex hd T fun h1 tk acc kp hp=>?_)
 obtain ⟨es,pe,ea⟩:=perm_lift (f:=rwP) (l:=L.map (·.2)) (acc:=acc) (by rw [List.map_map]; exact hp)
 subst ea
 have hes:∀ e∈es,∃ e'∈L,e'.2 = e:=fun e he=>List.mem_map.mp (pe.mem_iff.mp he)
 have hek:∀ e∈es,e∈ks:=fun e he=>(hes e he).elim fun e' q=>q.2 ▸ k1 e' q.1
 have nd:(es.map rwV).Nodup:=by
  have w:(es.map (·.1)).Nodup:=(pe.map (·.1)).nodup_iff.mpr (by rw [List.map_map]; exact T.q.nd)
  rw [show es.map rwV = (es.map (·.1)).map rowV by rw [List.map_map]; rfl]
  exact List.pairwise_map.mpr (w.imp fun hne e=>hne (rowV_inj e))
 have h30:es.length≤30:=by rw [pe.length_eq,List.length_map]; exact (Nat.le_trans T.q.len (by decide))
 have hlk:(es.map rwP).length = (es.map rwV).length:=by rw [List.length_map,List.length_map]
 have hln:(es.map rwV).length = es.length:=List.length_map ..
 have hz:(es.map rwP).length≤sizeLine:=by rw [hlk,hln,sizeLine_eq]; exact Nat.le_trans h30 (by decide)
 have hok:(es.map rwV).all rowOk = true:=List.all_eq_true.mpr fun x hx=>(List.mem_map.mp hx).elim fun e q=>by
  rw [← q.2]; exact List.all_eq_true.mp hl _ (by rw [el]; exact List.mem_map.mpr ⟨e,hek e q.1,rfl⟩)
 have rs:=rows_val k hek
 have kall:∀ b o,N.s.heap.get? b = some o→h1.get? b = some o:=fun b o e=>kp b o (mo.k b o e)
 refine wpAny_bind (wpAny_newList ?_ hz)
 have hoL:(h1.push (seqObj "list" (es.map rwP).toArray 0)).get? h1.objs.size = some (seqObj "list" (es.map rwP).toArray 0):=Heap.get?_push_size _ rfl
 refine wpAny_bind (wpAny_holding (wpAny_call_entry slot_list_sort ⟨_,hoL,rfl⟩ entry_list_sort (sort_rows (D:=B.D) (N:=N) (key:=fun i=>ikey ((es.map rwV).getD i .none)) hoL (fun i v hv=>(rows_at hok rs i v hv).mono fun b o _ eo=>Heap.get?_push_of_some _ (kall b o eo))
  (fun i j hi hj h=>?_) (hlk.symm ▸ hln.symm ▸ Nat.lt_of_le_of_lt h30 (by decide)) fun p hp hs=>⟨_,rfl,?_⟩) (args_list_sort _)))
 ·rw [hlk] at hi hj
  obtain ⟨k1,m1,e1⟩:=rowOk_of (List.all_eq_true.mp hok _ (List.getElem_mem hi))
  obtain ⟨k2,m2,e2⟩:=rowOk_of (List.all_eq_true.mp hok _ (List.getElem_mem hj))
  replace h:rix (ikey ((es.map rwV).getD i .none)) = rix (ikey ((es.map rwV).getD j .none)):=h
  rw [getD_at hi,getD_at hj,e1,e2,ikey_row,ikey_row] at h
  exact (List.getElem_inj nd).mp (e1.trans ((congrArg rowV (rix_inj m1 h)).trans e2.symm))
 rw [hlk] at hp hs
 have up:=pick_up hp hs
 have eq:(p.toList.map fun i=>(es.map rwV).getD i V.none) = sortB l:=List.Perm.eq_of_pairwise (le:=fun a b=>rkey a < rkey b) (fun a b ha hb h1 h2=>absurd (Nat.lt_trans h1 h2) (Nat.lt_irrefl _)) up (sortB_up l)
  ((List.perm_ext_iff_of_nodup (up_nodup up) (up_nodup (sortB_up l))).mpr fun x=>(pick_perm hp).mem_iff.trans (Iff.trans ⟨fun h=>?_,fun h=>?_⟩ (mem_sortB hl x)))
 ·obtain ⟨ep2,hD⟩:=sortedHeap_at (out:=List.toArray (pick (es.map rwP) p)) hoL
  have m2:More N { s with heap:=sortedHeap (h1.push (seqObj "list" (es.map rwP).toArray 0)) h1.objs.size (es.map rwP) (List.toArray (pick (es.map rwP) p)),toks:=tk }:=⟨fun b o e=>by
   have hlt:=Heap.lt_size (kall b o e)
   rw [sortedHeap_old (Nat.ne_of_lt hlt) (by rw [Heap.size_push]; exact Nat.lt_succ_of_lt hlt)]
   exact Heap.get?_push_of_some _ (kall b o e),mo.g,mo.o⟩
  have nn:¬ N.has h1.objs.size:=fun h=>(Option.isSome_iff_exists.mp h).elim fun o e=>Nat.lt_irrefl _ (Heap.lt_size (kall _ o e))
  have pv:=m2.pv sm nn hD
  have r2:=Vals.on (m2.aft sm) (RVs_pick rs p.toList fun i hi=>hp.mem hi)
  rw [eq] at r2
  exact wpAny_pure ⟨_,rfl,z ((N.at _).wi h1.objs.size) _ ((m2.aft sm).wi pv nn) rfl (RC_RV (d:=.list _) (.inr rfl) (RC_le Le.wi (fun _ e=>e) ⟨_,⟨ep2,hD⟩,r2⟩))⟩
 ·obtain ⟨e,he,rfl⟩:=List.mem_map.mp h
  rw [el]; exact List.mem_map.mpr ⟨e,hek e he,rfl⟩
 ·rw [el] at h
  obtain ⟨e,he,rfl⟩:=List.mem_map.mp h
  obtain ⟨e',he',ee⟩:=k2 e he
  exact List.mem_map.mpr ⟨e'.2,pe.mem_iff.mpr (List.mem_map.mpr ⟨e',he',rfl⟩),by show rowV e'.2.1 = rowV e.1; rw [ee]⟩
theorem set_sorted {l:List V} {v:PV} (hu:G.A.units + 20 < cLine) (hh:G.A.handled = none) (sm:Sm B.D N) (hl:l.all rowOk = true) (rv:Val B N (.list l) v)
  (z:∀ Y v,Aft B.D N noA Y→Y.σ = N.σ→Val B Y (.list (sortB l)) v→Q v Y.s):Wp B G N (call (.type "set") [v]) (fun v s1=>wpAny (model B.D.prog B.D.w) G.A (call (.builtin "sorted") [v]) Q E s1) E:=by
 obtain ⟨a,arr,rfl,wa,il,rsl⟩:=rv
 obtain ⟨ks,e1,e2,k⟩:=row_ks hl rsl
 refine call_set_rows (ks:=ks) hu hh (IsLs.list il) ⟨e1,fun e he=>?_⟩ fun h1 tk L sa k1 k2 kp=>sorted_set hh sm ⟨fun b o e=>kp b o (Heap.lt_size e) e,rfl,rfl⟩ sa hl e2 k k1 k2 z
 obtain ⟨b,brr,n,eb,hb,rb,mb⟩:=(k e he).2
 cases eb
 exact ⟨mb,_,brr,n,hb,rfl,rfl,items_are rb⟩
theorem ss_ok (hu:40≤u):SsOk B u .sortedSet "sorted" (.builtin "sorted"):=fun g c x f p1 p2 p3 p4 F B1 B2 hs h3 G N Q E K H q z=>by
 show Wp B G N (do callWith p4 (← eval (.Name "sorted" p1) G.env) [] (backTo p4 (starEach [.Call (.Name "set" p2) [f] [] p3] G.env)) []) Q E
 refine wpAny_bind (wpAny_Name (load_blt H F B1.k B1.g B1.b (callWith_bi (first:=[]) rfl rfl ?_)) B1.d)
 rw [starEach_cons rfl]
 refine Calls.spliced_cons (call_name F B2 rfl (by rw [List.all_cons,hs]; rfl) h3 H q fun ds Y vs k a r=>?_)
 obtain ⟨d,rfl,e⟩:=one_of (show oK (one ds _) _ from k)
 obtain ⟨v,rfl,rv⟩:=Vals.one r
 cases d with
 | list l =>
  obtain ⟨hc,e⟩:=if_of (show oK (if l.all rowOk = true∧l.length≤capL then some (V.list (sortB l)) else none) _ from e)
  have hu2:=H.rm.units
  exact wpAny_mono (set_sorted (by (first | lia | omega)) H.rm.hand a.sm hc.1 rv fun Z w a2 e2 r2=>z _ Z w (by rw [e2]; exact e) (a.trans a2) r2) (fun v s2 h2=>wpAny_pure h2) fun _ _ h=>h
 | _=>exact False.elim e
theorem ints_of:∀ {l:List V} {vs:List PV},(l.all fun x=>(asInt x).isSome) = true→Vals B N l vs→∃ ns,l = ns.map V.int∧IntsAre vs ns:=by
 intro l
 induction l with
 | nil=>intro vs _ r; cases (show vs = [] from r); exact ⟨[],rfl,.nil⟩
 | cons x l ih =>
  intro vs h r
  obtain ⟨v,t,rfl,r1,r2⟩:=r
  cases x with
  | int i =>
   obtain ⟨tk,rfl⟩:=r1
   exact (ih (and_r h) r2).elim fun ns q=>⟨i :: ns,congrArg (V.int i :: ·) q.1,.cons i tk q.2⟩
  | _=>exact absurd (and_l h) Bool.false_ne_true
theorem any_int (k:Int):∀ σ:List Int,((σ.map V.int).any fun y=>V.beq y (.int k)) = σ.any (· == k)
 | []=>rfl
 | a :: σ=>congr (congrArg or (show decide (a = k) = (a == k) by rw [Bool.eq_iff_iff,decide_eq_true_iff,beq_iff_eq])) (any_int k σ)
theorem fold_U:∀ (ns σ:List Int),((ns.map V.int).foldl stepU (σ.map V.int)).length = (ns.foldl step_dedup σ).length
 | [],σ=>List.length_map ..
 | k :: ns,σ=>by
  show (List.foldl stepU (stepU (σ.map V.int) (.int k)) (ns.map V.int)).length = (List.foldl step_dedup (step_dedup σ k) ns).length
  delta stepU step_dedup
  rw [any_int]
  by_cases h:(σ.any (· == k)) = true
  ·rw [if_pos h,if_pos h]; exact fold_U ns σ
  ·rw [if_neg h,if_neg h,show List.map V.int σ++[V.int k] = (σ++[k]).map V.int from (List.map_append (f:=V.int) (l₁:=σ) (l₂:=[k])).symm]; exact fold_U ns (σ++[k])
theorem fold_le:∀ l σ:List V,(l.foldl stepU σ).length≤σ.length + l.length
 | [],σ=>Nat.le_refl _
 | x :: l,σ=>Nat.le_trans (fold_le l _) (by
  delta stepU
  split
  ·exact Nat.add_le_add_left (Nat.le_succ _) _
  ·rw [List.length_append,Nat.add_assoc,Nat.add_comm [x].length]; exact Nat.le_refl _)
theorem sl_ok:SsOk B u .lenSet "len" (.builtin "len"):=fun g c x f p1 p2 p3 p4 F B1 B2 hs h3 G N Q E K H q z=>by
 show Wp B G N (do callWith p4 (← eval (.Name "len" p1) G.env) [] (backTo p4 (starEach [.Call (.Name "set" p2) [f] [] p3] G.env)) []) Q E
 refine wpAny_bind (wpAny_Name (load_blt H F B1.k B1.g B1.b (callWith_bi (first:=[]) rfl rfl ?_)) B1.d)
 rw [starEach_cons rfl]
 refine Calls.spliced_cons (call_name F B2 rfl (by rw [List.all_cons,hs]; rfl) h3 H q fun ds Y vs k a r=>?_)
 obtain ⟨d,rfl,e⟩:=one_of (show oK (one ds _) _ from k)
 obtain ⟨v,rfl,rv⟩:=Vals.one r
 cases d with
 | tup l =>
  obtain ⟨hc,e⟩:=if_of (show oK (if (l.all fun x=>(asInt x).isSome) = true∧l.length≤1000 then some (V.int (l.foldl stepU []).length) else none) _ from e)
  obtain ⟨b,arr,rfl,wa,t,rs⟩:=rv
  obtain ⟨ns,e1,i⟩:=ints_of hc.1 rs
  refine call_set_ints H.rm.hand t.tup i (by have:=hc.2; rw [e1,List.length_map] at this; exact this) fun h' tk so kp=>wpAny_pure ?_
  obtain ⟨o,es,ep,st,ho,hex,hd,hf,hn⟩:=so
  have m:More Y { Y.s with heap:=h',toks:=tk }:=⟨fun b o e=>kp b o (Heap.lt_size e) e,rfl,rfl⟩
  have le:es.size≤1000:=by
   have w:=hc.2
   rw [hn,← fold_U ns [],← e1]
   refine Nat.le_trans ?_ w
   exact (Nat.zero_add l.length) ▸ fold_le l []
  refine call_len_set (w:=B.D.w) ho hex hd hf (Int.lt_of_le_of_lt (Int.ofNat_le.mpr le) (by decide)) ?_
  have m2:=(m.toks (tk + 1 + 1)).aft a.sm
  refine z _ (Y.at { Y.s with heap:=h',toks:=tk + 1 + 1 }) _ e (a.trans m2) ⟨tk + 1,?_⟩
  rw [hn,← fold_U ns [],← e1]; rfl
 | _=>exact False.elim e
end
end Mine.Internal
namespace Mine.Internal
theorem oK_i {α:Type} {o:Option α} {k:α→Prop} (a:α) (h:o = some a) (hk:k a):oK o k:=by rw [h]; exact hk
theorem iK_t {b:Bool} {p q:Prop} (h:b = true) (hp:p):iK b p q:=by rw [h]; exact hp
theorem iK_f {b:Bool} {p q:Prop} (h:b = false) (hp:q):iK b p q:=by rw [h]; exact hp
theorem okLen_i {l:List V} (h:l.length≤capL):okLen l = some l:=if_pos h
theorem len_L {L:List V} (σ:St) (h:L.length≤capL):biE σ .len [.list L] = some (.int L.length):=by
 show (okLen L).map (fun l=>V.int l.length) = _
 rw [okLen_i h]; rfl
theorem idx_i {l:List V} {k:Nat} {v:V} (h:l[k]? = some v) (hl:l.length≤1000000) (σ:St):itemE σ (.list l) (.int k) = some v:=by
 have hk:=(List.getElem?_eq_some_iff.mp h).1
 have e:idx l.length k = some k:=by delta idx; rw [if_pos (by (first | lia | omega)),if_pos (by (first | lia | omega))]; rfl
 show ((some l).bind fun l=>(idx l.length k).bind fun j=>l[j]?) = _
 rw [Option.bind_some,e,Option.bind_some,h]
theorem mul_i {a b:Int} (σ:St) (ha:a.natAbs≤1000000) (hb:b.natAbs≤1000000):binE σ .mul (.int a) (.int b) = some (.int (a * b)):=by
 show (if _ then _ else _) = _
 rw [if_pos ⟨ha,hb⟩]
theorem mod_i {w:Int} (σ:St) (hw:0 < w) (x:Int):∃ v:Nat,(v:Int) < w∧binE σ .mod (.int x) (.int w) = some (.int (v:Int)) :=
 ⟨(x % w).toNat,by rw [Int.toNat_of_nonneg (Int.emod_nonneg x (by (first | lia | omega)))]; exact Int.emod_lt_of_pos x hw,by
  show (if 0 < w then some (V.int (x % w)) else none) = _
  rw [if_pos hw,Int.toNat_of_nonneg (Int.emod_nonneg x (by (first | lia | omega)))]⟩
theorem div_i {a b:Int} (σ:St) (h:0 < b∧(a.natAbs≤1000000∧b≤1000000)):binE σ .div (.int a) (.int b) = some (.int (a / b)):=by
 show (if _ then _ else _) = _
 rw [if_pos h]
namespace P3
noncomputable abbrev sCells:Nat:=encL [99,101,108,108,115]
noncomputable abbrev sAt:Nat:=encL [97,116]
noncomputable abbrev sMix:Nat:=encL [109,105,120]
noncomputable def feedO (L:List V) (m:Int) (k:Nat):SObj:=.dict [(.str sCells,.list L),(.str sAt,.int k),(.str sMix,.int m)]
noncomputable def okL (L:List V):Prop:=L.length≤48∧∀ x∈L,∃ i,x = V.int i
theorem draw_ok {n:Nat} {L:List V} {m:Int} {k:Nat} {w:Int} {σ:St} {K:V→St→Prop} (hL:okL L) (hk:k≤10000) (hw:0 < w) (h:∀ v:Nat,(v:Int) < w→K (.int v) (feedO L m (k + 1) :: σ)) :
  callK prog (n + 1) 75 [.loc 0,.int w] (feedO L m k :: σ) K:=by
 have l1:L.length≤1000000:=Nat.le_trans hL.1 (by decide)
 by_cases hlt:k < L.length
 ·obtain ⟨i,hi⟩:=hL.2 _ (List.getElem_mem hlt)
  obtain ⟨v,h1,h2⟩:=mod_i (feedO L m (k + 1) :: σ) hw i
  conv=>whnf
  refine oK_i _ (len_L _ l1) ?_
  conv=>whnf
  refine iK_t (decide_eq_true (Int.ofNat_le.mpr hlt)) ?_
  conv=>whnf
  refine oK_i (.int i) (Eq.trans (congrArg (fun j=>itemE (feedO L m (k + 1) :: σ) (.list L) (.int j)) (Int.add_sub_cancel (k:Int) 1)) (idx_i (hi ▸ List.getElem?_eq_getElem hlt) l1 _)) ?_
  conv=>whnf
  exact oK_i _ h2 (h v h1)
 ·conv=>whnf
  refine oK_i _ (len_L _ l1) ?_
  conv=>whnf
  refine iK_f (decide_eq_false fun q=>hlt (Int.ofNat_le.mp q)) ?_
  have b1:((k:Int) + 1).natAbs≤10001:=by (first | lia | omega)
  conv=>whnf
  refine oK_i _ (mul_i _ (by decide) (Nat.le_trans b1 (by decide))) ?_
  conv=>whnf
  refine oK_i _ (mul_i _ (by (first | lia | omega)) (Nat.le_trans b1 (by decide))) ?_
  conv=>whnf
  refine oK_i _ (div_i _ ⟨by decide,Nat.le_trans b1 (by decide),by decide⟩) ?_
  conv=>whnf
  obtain ⟨v,h1,h2⟩:=mod_i (feedO L m (k + 1) :: σ) hw ((7 * ((k:Int) + 1) * ((k:Int) + 1) + ((k:Int) + 1) / 2 + 3 + m) % 97)
  exact oK_i _ h2 (h v h1)
end P3
end Mine.Internal
namespace Mine.Internal
theorem bK_i {b:Bool} {p:Prop} (h:b = true) (hp:p):bK b p:=by rw [h]; exact hp
theorem ap0 {l:List V} {p:List V→Prop} (h:p (l++[])):p l:=(List.append_nil l) ▸ h
theorem le1 {n m:Nat} (h:n + (m + 1)≤capL):decide (n≤capL) = true:=decide_eq_true (Nat.le_trans (Nat.le_add_right ..) h)
theorem pre_get {α:Type} {l k:List α} {n:Nat} {x:α} (p:l <+: k) (h:l[n]? = some x):k[n]? = some x:=p.elim fun t e=>by
 rw [← e,List.getElem?_append_left (List.getElem?_eq_some_iff.mp h).1]; exact h
theorem at_last {α:Type} {l:List α} {x:α}:(l++[x])[l.length]? = some x:=by rw [List.getElem?_append_right (Nat.le_refl _),Nat.sub_self]; rfl
section
variable {α:Type} {st:St→Bool} {bnd:V→Option REnv} {ifs:REnv→St→(Bool→St→Prop)→Prop} {body:List V→REnv→St→(List V→St→Prop)→Prop}
theorem loopA0 (g:α→V) (f:α→List V) (I:St→Prop) (c:Nat) (hst:∀ σ,I σ→st σ = true) (hc:∀ a,(f a).length≤c) (l:List α) :
  ∀ (ds:List V) (σ:St) (k:List V→St→Prop),(∀ a∈l,∃ ρ,bnd (g a) = some ρ∧∀ σ ds (kk:List V→St→Prop),I σ→ds.length + c≤capL→(∀ σ',I σ'→kk (ds++f a) σ')→ifs ρ σ fun t σ'=>iK t (body ds ρ σ' kk) (kk ds σ')) →
   I σ→ds.length + l.length * c≤capL→(∀ σ',I σ'→k (ds++l.flatMap f) σ')→kLoopC0 st bnd ifs body (l.map g) ds σ k:=by
 induction l with
 | nil=>exact fun ds σ k H i _ z=>bK_i (hst _ i) (ap0 (p:=fun l=>k l σ) (z σ i))
 | cons a l ih =>
  intro ds σ k H i b z
  obtain ⟨ρ,e,h⟩:=H a (List.mem_cons_self ..)
  have b2:ds.length + c + l.length * c≤capL:=by rw [List.length_cons,Nat.succ_mul,Nat.add_comm (l.length * c),← Nat.add_assoc] at b; exact b
  exact bK_i (hst _ i) (oK_i ρ e (h σ ds _ i (Nat.le_trans (Nat.le_add_right ..) b2) fun σ' i'=>ih (ds++f a) σ' k (fun w m=>H w (List.mem_cons_of_mem _ m)) i'
   (by rw [List.length_append]; exact Nat.le_trans (Nat.add_le_add_right (Nat.add_le_add_left (hc a) _) _) b2) fun σ'' i''=>List.append_assoc ds (f a) _ ▸ z σ'' i''))
theorem loopA (g:α→V) (f:α→List V) (I:St→Prop) (c:Nat) {l:List α} {ds:List V} {σ:St} {k:List V→St→Prop} (hb:ds.length + l.length * c≤capL) (i:I σ) (hst:∀ σ,I σ→st σ = true) (hc:∀ a,(f a).length≤c)
  (H:∀ a∈l,∃ ρ,bnd (g a) = some ρ∧∀ σ ds (kk:List V→St→Prop),I σ→ds.length + c≤capL→(∀ σ',I σ'→kk (ds++f a) σ')→ifs ρ σ fun t σ'=>iK t (body ds ρ σ' kk) (kk ds σ'))
  (z:∀ σ',I σ'→k (ds++l.flatMap f) σ'):kLoopC st bnd ifs body (l.map g) ds σ k:=by
 delta kLoopC
 exact loopA0 g f I c hst hc l ds σ k H i hb z
theorem sel_map {p:α→Bool} {h:α→V}:∀ l:List α,(l.flatMap fun a=>cond (p a) [h a] []) = (l.filter p).map h
 | []=>rfl
 | a :: l=>by
  rw [List.flatMap_cons,sel_map l]
  cases e:p a with
  | true=>rw [List.filter_cons_of_pos e]; rfl
  | false=>rw [List.filter_cons_of_neg (by rw [e]; exact Bool.false_ne_true)]; rfl
theorem one_map {h:α→V}:∀ l:List α,(l.flatMap fun a=>[h a]) = l.map h
 | []=>rfl
 | a :: l=>congrArg (h a :: ·) (one_map l)
theorem cond_len {p:Bool} {v:V}:(cond p [v] []).length≤1:=by cases p <;> first | exact Nat.le_refl 1 | exact Nat.zero_le 1
theorem loopSel (g h:α→V) (p:α→Bool) (I:St→Prop) {l:List α} {σ:St} {k:List V→St→Prop} (hb:l.length≤capL) (i:I σ) (hst:∀ σ,I σ→st σ = true)
  (H:∀ a∈l,∃ ρ,bnd (g a) = some ρ∧∀ σ ds (kk:List V→St→Prop),I σ→ds.length + 1≤capL→(∀ σ',I σ'→kk (ds++cond (p a) [h a] []) σ')→ifs ρ σ fun t σ'=>iK t (body ds ρ σ' kk) (kk ds σ'))
  (z:∀ σ',I σ'→k ((l.filter p).map h) σ'):kLoopC st bnd ifs body (l.map g) [] σ k :=
 loopA g (fun a=>cond (p a) [h a] []) I 1 (by rw [Nat.mul_one]; exact (Nat.zero_add l.length).symm ▸ hb) i hst (fun _=>cond_len) H fun σ' i'=>(sel_map (p:=p) (h:=h) l) ▸ z σ' i'
theorem loopMap (g h:α→V) (I:St→Prop) {l:List α} {σ:St} {k:List V→St→Prop} (hb:l.length≤capL) (i:I σ) (hst:∀ σ,I σ→st σ = true)
  (H:∀ a∈l,∃ ρ,bnd (g a) = some ρ∧∀ σ ds (kk:List V→St→Prop),I σ→ds.length + 1≤capL→(∀ σ',I σ'→kk (ds++[h a]) σ')→ifs ρ σ fun t σ'=>iK t (body ds ρ σ' kk) (kk ds σ'))
  (z:∀ σ',I σ'→k (l.map h) σ'):kLoopC st bnd ifs body (l.map g) [] σ k :=
 loopA g (fun a=>[h a]) I 1 (by rw [Nat.mul_one]; exact (Nat.zero_add l.length).symm ▸ hb) i hst (fun _=>Nat.le_refl 1) H fun σ' i'=>(one_map (h:=h) l) ▸ z σ' i'
theorem loopSelS (g h:α→V) (p:α→Bool) {l:List α} {σ:St} {k:List V→St→Prop} (hb:l.length≤capL) (hst:st σ = true)
  (H:∀ a∈l,∃ ρ,bnd (g a) = some ρ∧∀ ds (kk:List V→St→Prop),ds.length + 1≤capL→kk (ds++cond (p a) [h a] []) σ→ifs ρ σ fun t σ'=>iK t (body ds ρ σ' kk) (kk ds σ')) (z:k ((l.filter p).map h) σ):kLoopC st bnd ifs body (l.map g) [] σ k :=
 loopSel g h p (σ = ·) hb rfl (fun _ e=>e ▸ hst) (fun a m=>(H a m).imp fun ρ w=>⟨w.1,fun σ' ds kk e b zz=>by subst e; exact w.2 ds kk b (zz _ rfl)⟩) fun σ' e=>e ▸ z
theorem loopMapS (g h:α→V) {l:List α} {σ:St} {k:List V→St→Prop} (hb:l.length≤capL) (hst:st σ = true)
  (H:∀ a∈l,∃ ρ,bnd (g a) = some ρ∧∀ ds (kk:List V→St→Prop),ds.length + 1≤capL→kk (ds++[h a]) σ→ifs ρ σ fun t σ'=>iK t (body ds ρ σ' kk) (kk ds σ')) (z:k (l.map h) σ):kLoopC st bnd ifs body (l.map g) [] σ k :=
 loopMap g h (σ = ·) hb rfl (fun _ e=>e ▸ hst) (fun a m=>(H a m).imp fun ρ w=>⟨w.1,fun σ' ds kk e b zz=>by subst e; exact w.2 ds kk b (zz _ rfl)⟩) fun σ' e=>e ▸ z
end
theorem cond_i {b:Bool} {ds:List V} {v:V} {σ:St} {kk:List V→St→Prop} {n:Nat} (q:ds.length + (n + 1)≤capL) (z:kk (ds++cond b [v] []) σ):iK b (bK (decide (ds.length≤capL)) (kk (ds++[v]) σ)) (kk ds σ):=by
 cases b with
 | true=>exact bK_i (le1 q) z
 | false=>exact ap0 (p:=fun l=>kk l σ) z
theorem pyIn_i {k:V} {l:List V} (hk:eqOk 24 k = true) (hl:∀ y∈l,eqOk 24 y = true):pyIn k l = some (l.any fun y=>V.beq y k) :=
 if_pos (List.all_eq_true.mpr fun y hy=>by delta pyEq; rw [hl y hy,hk]; rfl)
theorem pyEq_i {a b:V} (h1:eqOk 24 a = true) (h2:eqOk 24 b = true):pyEq a b = some (V.beq a b):=by delta pyEq; rw [h1,h2]; rfl
noncomputable abbrev intsV (l:List Int):List V:=l.map V.int
noncomputable abbrev row1 (a:Int):V:=.tup [.int a]
noncomputable abbrev row2 (p:Int × Int):V:=.tup [.int p.1,.int p.2]
noncomputable abbrev rows1 (l:List Int):List V:=l.map row1
noncomputable abbrev rows2 (l:List (Int × Int)):List V:=l.map row2
noncomputable def At1 (l:List Int):Prop:=l.Sublist [0,1,2]
theorem At1.len {l:List Int} (h:At1 l):l.length≤3:=h.length_le
theorem At1.mem {l:List Int} (h:At1 l) {a:Int} (m:a∈l):a∈[0,1,2]:=h.subset m
theorem At1.one {a:Int} (m:a∈[(0:Int),1,2]):At1 [a]:=List.singleton_sublist.mpr m
theorem At1.flt {l:List Int} (h:At1 l) {p:Int→Bool}:At1 (l.filter p):=List.filter_sublist.trans h
noncomputable def has (l:List Int) (a:Int):Bool:=l.any fun y=>decide (y = a)
noncomputable def hasP (F:List (Int × Int)) (p:Int × Int):Bool:=F.any fun q=>decide (q.1 = p.1) && decide (q.2 = p.2)
noncomputable def meetA (l k:List Int):List Int:=l.filter fun a=>has k a
noncomputable def dotA (l:List Int) (F:List (Int × Int)):List Int:=[0,1,2].filter fun b=>l.any fun a=>hasP F (a,b)
theorem any_ints {a:Int}:∀ k:List Int,((intsV k).any fun y=>V.beq y (.int a)) = has k a
 | []=>rfl
 | x :: k=>congrArg (decide (x = a) || ·) (any_ints k)
theorem beq1 {a b:Int}:V.beq (row1 a) (row1 b) = decide (a = b):=Bool.and_true _
theorem beq2 {p q:Int × Int}:V.beq (row2 p) (row2 q) = (decide (p.1 = q.1) && decide (p.2 = q.2)):=congrArg (decide (p.1 = q.1) && ·) (Bool.and_true _)
theorem any_rows1 {a:Int}:∀ k:List Int,((rows1 k).any fun y=>V.beq y (row1 a)) = has k a
 | []=>rfl
 | x :: k=>congr (congrArg or beq1) (any_rows1 k)
theorem any_rows2 {p:Int × Int}:∀ k:List (Int × Int),((rows2 k).any fun y=>V.beq y (row2 p)) = hasP k p
 | []=>rfl
 | x :: k=>congr (congrArg or beq2) (any_rows2 k)
theorem ints_eq:∀ k:List Int,∀ y∈intsV k,eqOk 24 y = true:=fun k y m=>(List.mem_map.mp m).elim fun a q=>q.2 ▸ rfl
theorem rows1_eq:∀ k:List Int,∀ y∈rows1 k,eqOk 24 y = true:=fun k y m=>(List.mem_map.mp m).elim fun a q=>q.2 ▸ rfl
theorem rows2_eq:∀ k:List (Int × Int),∀ y∈rows2 k,eqOk 24 y = true:=fun k y m=>(List.mem_map.mp m).elim fun a q=>q.2 ▸ rfl
theorem list_eq {l:List V} (h:∀ y∈l,eqOk 23 y = true):eqOk 24 (.list l) = true:=List.all_eq_true.mpr h
theorem ints_eq23:∀ k:List Int,∀ y∈intsV k,eqOk 23 y = true:=fun k y m=>(List.mem_map.mp m).elim fun a q=>q.2 ▸ rfl
theorem rows1_eq23:∀ k:List Int,∀ y∈rows1 k,eqOk 23 y = true:=fun k y m=>(List.mem_map.mp m).elim fun a q=>q.2 ▸ rfl
theorem beqs_intV:∀ l k:List Int,beqs (intsV l) (intsV k) = decide (l = k)
 | [],[]=>rfl
 | [],_ :: _=>rfl
 | _ :: _,[]=>rfl
 | a :: l,b :: k=>by
  show (decide (a = b) && beqs (intsV l) (intsV k)) = _
  rw [beqs_intV l k,Bool.eq_iff_iff,Bool.and_eq_true,decide_eq_true_iff,decide_eq_true_iff,decide_eq_true_iff,List.cons.injEq]
theorem beqs_rows:∀ l k:List Int,beqs (rows1 l) (rows1 k) = decide (l = k)
 | [],[]=>rfl
 | [],_ :: _=>rfl
 | _ :: _,[]=>rfl
 | a :: l,b :: k=>by
  show (V.beq (row1 a) (row1 b) && beqs (rows1 l) (rows1 k)) = _
  rw [beq1,beqs_rows l k,Bool.eq_iff_iff,Bool.and_eq_true,decide_eq_true_iff,decide_eq_true_iff,decide_eq_true_iff,List.cons.injEq]
end Mine.Internal
namespace Mine.Internal
namespace P3
theorem call_i {n f:Nat} {d:FDef} {args:List V} {σ:St} {K:V→St→Prop} (hn:1≤n) (hf:prog.fn f = some d) (hl:args.length = d.params) (h:kSs prog ⟨callK prog (n - 1)⟩ d.body (enter d args) σ (outK K)):callK prog n f args σ K:=by
 obtain ⟨n,rfl⟩:∃ m,n = m + 1:=⟨n - 1,(Nat.sub_add_cancel hn).symm⟩
 exact oK_i d hf (bK_i (decide_eq_true hl) h)
theorem up1 {d n:Nat} (h:d + 1≤n):1≤n:=Nat.le_trans (Nat.le_add_left 1 d) h
theorem dn1 {d n:Nat} (h:d + 1≤n):d≤n - 1:=Nat.le_sub_one_of_lt h
noncomputable abbrev nmV (s:Nat):V:=.tup [.str 1023794727099668889702,.int 0,.str s]
noncomputable abbrev binV (o:Nat) (a b:V):V:=.tup [.str 435406826897519,.int 0,.str o,a,b]
noncomputable abbrev dtV (s:Nat):V:=binV 47 (nmV s) (nmV 103)
noncomputable abbrev relV (i:Int):V:=.tup [.str 505775562686573,.int i]
noncomputable abbrev varV (l:Nat):V:=.tup [.str 523367740342387,.str l]
noncomputable abbrev joinV (r:V):V:=.tup [.str 986901300524892553327,r,relV 2]
noncomputable abbrev meetV (r q:V):V:=.tup [.str 1014571372654983381109,r,q]
structure Wl where
 a:List Int
 b:List Int
 f:List (Int × Int)
 oa:At1 a
 ob:At1 b
 of:∀ p∈f,p.2∈[(0:Int),1,2]
 len:f.length≤9
noncomputable def Wl.sg (W:Wl) (s:Nat):List Int:=bif s == 66 then W.a else W.b
theorem Wl.os (W:Wl) (s:Nat):At1 (W.sg s):=by delta Wl.sg; cases s == 66 <;> first | exact W.oa | exact W.ob
noncomputable def WAt (W:Wl) (σ:St) (wi:Nat):Prop:=∃ d,σ[wi]? = some (.dict d)∧((∀ s∈[66,67],dget (.str s) d = some (.list (intsV (W.sg s))))∧dget (.str 103) d = some (.list (rows2 W.f)))
noncomputable abbrev setsV (W:Wl):V:=.list [.list (rows1 W.a),.list (rows1 W.b),.list (rows2 W.f)]
noncomputable def sgI (s:Nat):Int:=bif s == 66 then 0 else 1
section
variable {W:Wl} {σ σ':St} {wi d n k s:Nat} {T:TabK} {nd nd' r r' v:V} {e1 e2:List (V × V)} {l l':List Int} {K:V→St→Prop}
theorem WAt.pre (h:WAt W σ wi) (p:σ <+: σ'):WAt W σ' wi:=h.elim fun d q=>⟨d,pre_get p q.1,q.2⟩
theorem WAt.sg (h:WAt W σ wi) (m:s∈[66,67]):itemE σ (.loc wi) (.str s) = some (.list (intsV (W.sg s))):=h.elim fun d q=>by
 show (locD σ[wi]?).bind (fun d=>dget (.str s) d) = _
 rw [q.1]; exact q.2.1 s m
theorem WAt.fl (h:WAt W σ wi):itemE σ (.loc wi) (.str 103) = some (.list (rows2 W.f)):=h.elim fun d q=>by
 show (locD σ[wi]?).bind (fun d=>dget (.str 103) d) = _
 rw [q.1]; exact q.2.2
noncomputable def MnT (T:TabK) (W:Wl) (wi:Nat) (nd:V) (e2:List (V × V)) (v:V):Prop:=∀ (σ:St) (K:V→St→Prop),WAt W σ wi→(∀ σ',σ <+: σ'→K v σ')→T.call 81 [nd,.dict e2,.loc wi] σ K
noncomputable def MnB (T:TabK) (W:Wl) (wi:Nat) (nd:V) (e2:List (V × V)) (v:V):Prop:=∀ (σ:St) (K:V→St→Prop),WAt W σ wi→(∀ σ',σ <+: σ'→K v σ')→kSs prog T f_law_means.body (enter f_law_means [nd,.dict e2,.loc wi]) σ (outK K)
noncomputable def Mn (d:Nat) (W:Wl) (nd:V) (e2:List (V × V)) (v:V):Prop:=∀ n,d≤n→∀ wi,MnT ⟨callK prog n⟩ W wi nd e2 v
noncomputable def RwT (T:TabK) (W:Wl) (r:V) (e1:List (V × V)) (v:V):Prop:=∀ (σ:St) (K:V→St→Prop),(∀ σ',σ <+: σ'→K v σ')→T.call 83 [r,.dict e1,setsV W] σ K
noncomputable def RwB (T:TabK) (W:Wl) (r:V) (e1:List (V × V)) (v:V):Prop:=∀ (σ:St) (K:V→St→Prop),(∀ σ',σ <+: σ'→K v σ')→kSs prog T f_law_rows.body (enter f_law_rows [r,.dict e1,setsV W]) σ (outK K)
noncomputable def Rw (d:Nat) (W:Wl) (r:V) (e1:List (V × V)) (v:V):Prop:=∀ n,d≤n→RwT ⟨callK prog n⟩ W r e1 v
theorem Mn.of (h:∀ n,d≤n→∀ wi,MnB ⟨callK prog n⟩ W wi nd e2 v):Mn (d + 1) W nd e2 v:=fun n hn wi σ K w z=>call_i (d:=f_law_means) (up1 hn) rfl rfl (h (n - 1) (dn1 hn) wi σ K w z)
theorem Rw.of (h:∀ n,d≤n→RwB ⟨callK prog n⟩ W r e1 v):Rw (d + 1) W r e1 v:=fun n hn σ K z=>call_i (d:=f_law_rows) (up1 hn) rfl rfl (h (n - 1) (dn1 hn) σ K z)
theorem Mn.up {d':Nat} (h:Mn d W nd e2 v) (e:d≤d'):Mn d' W nd e2 v:=fun n hn=>h n (Nat.le_trans e hn)
theorem Rw.up {d':Nat} (h:Rw d W r e1 v) (e:d≤d'):Rw d' W r e1 v:=fun n hn=>h n (Nat.le_trans e hn)
theorem mn_var (h:dget (.str k) e2 = some v):Mn (d + 1) W (nmV k) e2 v:=Mn.of fun n _ wi σ K w z=>by
 generalize TabK.mk (callK prog n) = T
 conv=>whnf
 refine iK_t (congrArg Option.isSome h) ?_
 conv=>whnf
 exact oK_i _ h (z σ (List.prefix_refl σ))
theorem mn_sig (h:dget (.str s) e2 = none) (hs:s∈[66,67]):Mn (d + 1) W (nmV s) e2 (.list (intsV (W.sg s))):=Mn.of fun n _ wi σ K w z=>by
 generalize TabK.mk (callK prog n) = T
 conv=>whnf
 refine iK_f (congrArg Option.isSome h) ?_
 conv=>whnf
 exact oK_i _ (w.sg hs) (z σ (List.prefix_refl σ))
theorem in_ints {a:Int}:pyIn (.int a) (intsV l) = some (has l a):=(pyIn_i rfl (ints_eq l)).trans (congrArg some (any_ints l))
theorem in_rows {a:Int}:pyIn (row1 a) (rows1 l) = some (has l a):=(pyIn_i rfl (rows1_eq l)).trans (congrArg some (any_rows1 l))
theorem in_rows2 {p:Int × Int} {F:List (Int × Int)}:pyIn (row2 p) (rows2 F) = some (hasP F p):=(pyIn_i rfl (rows2_eq F)).trans (congrArg some (any_rows2 F))
theorem ne_nil:∀ {l:List Int},(pyEq (.list (intsV l)) (.list [])).map (!·) = some (!l.isEmpty)
 | []=>rfl
 | a :: l=>by
  show (pyEq (.list (intsV (a :: l))) (.list [])).map (!·) = _
  rw [pyEq_i (list_eq (ints_eq23 (a :: l))) rfl]; rfl
theorem flt_any {α:Type} {p:α→Bool}:∀ l:List α,(!(l.filter p).isEmpty) = l.any p
 | []=>rfl
 | a :: l=>by
  cases e:p a with
  | true=>rw [List.filter_cons_of_pos e,List.any_cons,e]; rfl
  | false=>rw [List.filter_cons_of_neg (by rw [e]; exact Bool.false_ne_true),List.any_cons,e]; exact flt_any l
theorem cap3 {n:Nat} (h:n≤3):n≤capL:=Nat.le_trans h (by decide)
theorem mn_dot (hl:At1 l) (h:Mn d W nd e2 (.list (intsV l))):Mn (d + 1) W (binV 47 nd (nmV 103)) e2 (.list (intsV (dotA l W.f))):=Mn.of fun n hn wi σ K w z=>by
 have h:=h n hn wi
 generalize TabK.mk (callK prog n) = T at h ⊢
 conv=>whnf
 refine h σ _ w fun σ1 p1=>?_
 have w1:=w.pre p1
 conv=>whnf
 refine loopSel (α:=Int) V.int V.int (fun b=>l.any fun a=>hasP W.f (a,b)) (σ1 = ·) (l:=[0,1,2]) (by decide) rfl (fun _ _=>rfl) (fun b hb=>⟨_,rfl,fun σ2 ds kk i q zz=>?_⟩) fun σ' i=>i ▸ z σ1 p1
 subst i
 conv=>whnf
 refine loopSel (α:=Int) V.int V.int (fun a=>hasP W.f (a,b)) (σ1 = ·) (cap3 hl.len) rfl (fun _ _=>rfl) (fun a ha=>⟨_,rfl,fun σ3 ds2 kk2 i q2 zz2=>?_⟩) fun σ' i=>?_
 ·subst i
  conv=>whnf
  refine oK_i _ w1.fl ?_
  conv=>whnf
  refine oK_i _ (in_rows2 (p:=(a,b))) ?_
  conv=>whnf
  exact cond_i q2 (zz2 _ rfl)
 ·subst i
  conv=>whnf
  refine oK_i _ (ne_nil.trans (congrArg some (flt_any l))) ?_
  conv=>whnf
  exact cond_i q (zz _ rfl)
theorem mn_meet (h1:Mn d W nd e2 (.list (intsV l))) (h2:Mn d W nd' e2 (.list (intsV l'))) (hl:At1 l):Mn (d + 1) W (binV 39 nd nd') e2 (.list (intsV (meetA l l'))):=Mn.of fun n hn wi σ K w z=>by
 have h1:=h1 n hn wi
 have h2:=h2 n hn wi
 generalize TabK.mk (callK prog n) = T at h1 h2 ⊢
 conv=>whnf
 refine h1 σ _ w fun σ1 p1=>?_
 conv=>whnf
 refine h2 σ1 _ (w.pre p1) fun σ2 p2=>?_
 conv=>whnf
 refine loopSel (α:=Int) V.int V.int (fun a=>has l' a) (σ2 = ·) (cap3 hl.len) rfl (fun _ _=>rfl) (fun a ha=>⟨_,rfl,fun σ3 ds kk i q zz=>?_⟩) fun σ' i=>i ▸ z σ2 (p1.trans p2)
 subst i
 conv=>whnf
 refine oK_i _ in_ints ?_
 conv=>whnf
 exact cond_i q (zz _ rfl)
theorem rw_rel (hs:s∈[66,67]):Rw (d + 1) W (relV (sgI s)) e1 (.list (rows1 (W.sg s))):=Rw.of fun n _ σ K z=>by
 have z:=z σ (List.prefix_refl σ)
 rcases List.mem_cons.mp hs with rfl | hs
 ·exact z
 ·cases List.mem_singleton.mp hs; exact z
theorem rw_fld:Rw (d + 1) W (relV 2) e1 (.list (rows2 W.f)):=Rw.of fun n _ σ K z=>z σ (List.prefix_refl σ)
theorem rw_var (h:dget (.str k) e1 = some v):Rw (d + 1) W (varV k) e1 (.list [v]):=Rw.of fun n _ σ K z=>by
 generalize TabK.mk (callK prog n) = T
 conv=>whnf
 exact oK_i _ h (z σ (List.prefix_refl σ))
theorem rw_meet (h1:Rw d W r e1 (.list (rows1 l))) (h2:Rw d W r' e1 (.list (rows1 l'))) (hl:At1 l):Rw (d + 1) W (meetV r r') e1 (.list (rows1 (meetA l l'))):=Rw.of fun n hn σ K z=>by
 have h1:=h1 n hn
 have h2:=h2 n hn
 generalize TabK.mk (callK prog n) = T at h1 h2 ⊢
 conv=>whnf
 refine h1 σ _ fun σ1 p1=>?_
 conv=>whnf
 refine h2 σ1 _ fun σ2 p2=>?_
 conv=>whnf
 refine loopSel (α:=Int) row1 row1 (fun a=>has l' a) (σ2 = ·) (cap3 hl.len) rfl (fun _ _=>rfl) (fun a ha=>⟨_,rfl,fun σ3 ds kk i q zz=>?_⟩) fun σ' i=>i ▸ z σ2 (p1.trans p2)
 subst i
 conv=>whnf
 refine oK_i _ in_rows ?_
 conv=>whnf
 exact cond_i q (zz _ rfl)
theorem sort_dot (l:List Int) (F:List (Int × Int)):sortB (l.flatMap fun a=>(F.filter fun p=>decide (a = p.1)).map fun p=>row1 p.2) = rows1 (dotA l F):=by
 have key:∀ b:Int,((l.flatMap fun a=>(F.filter fun p=>decide (a = p.1)).map fun p=>row1 p.2).any fun x=>V.beq x (row1 b)) = l.any fun a=>hasP F (a,b):=fun b=>by
  rw [List.any_flatMap]
  refine congrArg (l.any ·) (funext fun a=>?_)
  rw [List.any_map,List.any_filter]
  refine congrArg (F.any ·) (funext fun p=>?_)
  show (decide (a = p.1) && V.beq (row1 p.2) (row1 b)) = (decide (p.1 = a) && decide (p.2 = b))
  rw [beq1,decide_eq_decide.mpr (eq_comm (a:=a) (b:=p.1))]
 show List.filter _ ([(0:Int),1,2].map row1) = _
 rw [List.filter_map]
 refine congrArg (List.map row1) (congrArg (List.filter · [0,1,2]) (funext fun b=>key b))
theorem sset_i {L:List V} (h:L.all rowOk = true) (n:L.length≤capL):biE σ .sortedSet [.list L] = some (.list (sortB L)):=if_pos ⟨h,n⟩
theorem rw_join (hl:At1 l) (h:Rw (d + 1) W r e1 (.list (rows1 l))):Rw (d + 2) W (joinV r) e1 (.list (rows1 (dotA l W.f))):=Rw.of fun n hn σ K z=>by
 have h1:=h n hn
 have h2:=(rw_fld (d:=d) (W:=W) (e1:=e1)) n hn
 generalize TabK.mk (callK prog n) = T at h1 h2 ⊢
 conv=>whnf
 refine h1 σ _ fun σ1 p1=>?_
 conv=>whnf
 refine h2 σ1 _ fun σ2 p2=>?_
 conv=>whnf
 have lf:∀ a:Int,((W.f.filter fun p=>decide (a = p.1)).map fun p=>row1 p.2).length≤9:=fun a=>by rw [List.length_map]; exact Nat.le_trans (List.length_filter_le ..) W.len
 refine loopA (α:=Int) row1 (fun a=>(W.f.filter fun p=>decide (a = p.1)).map fun p=>row1 p.2) (σ2 = ·) 9 (by rw [List.length_nil,Nat.zero_add]; exact Nat.le_trans (Nat.mul_le_mul_right 9 hl.len) (by decide)) rfl (fun _ _=>rfl) lf (fun a ha=>⟨_,rfl,fun σ3 ds kk i q zz=>?_⟩) fun σ' i=>?_
 ·subst i
  conv=>whnf
  refine loopA (α:=Int × Int) row2 (fun p=>cond (decide (a = p.1)) [row1 p.2] []) (σ2 = ·) 1 (by rw [Nat.mul_one]; exact Nat.le_trans (Nat.add_le_add_left W.len _) q) rfl (fun _ _=>rfl) (fun _=>cond_len) (fun p hp=>⟨_,rfl,fun σ4 ds2 kk2 i q2 zz2=>?_⟩) fun σ' i=>i ▸ (sel_map (p:=fun p:Int × Int=>decide (a = p.1)) (h:=fun p=>row1 p.2) W.f) ▸ zz _ rfl
  subst i
  conv=>whnf
  exact cond_i q2 (zz2 _ rfl)
 ·subst i
  refine oK_i _ (sset_i (L:=l.flatMap fun a=>(W.f.filter fun p=>decide (a = p.1)).map fun p=>row1 p.2) (List.all_eq_true.mpr fun v hv=>?_) ?_) ((sort_dot l W.f) ▸ z σ2 (p1.trans p2))
  ·obtain ⟨a,_,hv⟩:=List.mem_flatMap.mp hv
   obtain ⟨p,hp,rfl⟩:=List.mem_map.mp hv
   have w:=W.of p (List.mem_filter.mp hp).1
   simp only [List.mem_cons,List.not_mem_nil,or_false] at w
   rcases w with e | e | e <;> rw [e] <;> rfl
  ·refine Nat.le_trans ?_ (Nat.le_trans (Nat.mul_le_mul_right 9 hl.len) (by decide:3 * 9≤capL))
   clear z h1 h2 hl h
   induction l with
   | nil=>exact Nat.zero_le _
   | cons a l ih=>rw [List.flatMap_cons,List.length_append,List.length_cons,Nat.succ_mul,Nat.add_comm]; exact Nat.add_le_add ih (lf a)
end
end P3
end Mine.Internal
namespace Mine.Internal
namespace P3
noncomputable abbrev cSome:Nat:=1069911648856593924198
noncomputable abbrev cNo:Nat:=232783984
noncomputable abbrev cLone:Nat:=1005348044598612590694
noncomputable abbrev cOne:Nat:=492581442027622
noncomputable abbrev cAll:Nat:=431008786677869
noncomputable abbrev cIn:Nat:=222298223
noncomputable abbrev cSame:Nat:=1069911587283942768742
noncomputable abbrev notV (f:V):V:=.tup [.str 488183397613685,f]
noncomputable abbrev andV (l:List V):V:=.tup [.str 431008790872165,.tup l]
noncomputable abbrev impV (f g:V):V:=.tup [.str 9017487185537167824034131633095323943028,f,g]
noncomputable abbrev f2V (h:Nat) (f g:V):V:=.tup [.str h,f,g]
noncomputable abbrev unV (o:Nat) (a:V):V:=.tup [.str 247464047,.int 0,.str o,a]
noncomputable abbrev letV (k:Nat) (a b:V):V:=.tup [.str 479387283619957,.int 0,.str k,a,b]
noncomputable def words:List Nat:=[cSome,cNo,cLone,cOne]
noncomputable def many (w n:Nat):Bool:=if w = cSome then decide (0 < n) else if w = cNo then decide (n = 0) else if w = cOne then decide (n = 1) else decide (n < 2)
section
variable {W:Wl} {σ σ':St} {wi d n k s w:Nat} {T:TabK} {nd nd' r r' v f g:V} {e1 e2:List (V × V)} {l l':List Int} {K:V→St→Prop} {b b':Bool}
theorem many_x (hw:w∈words) (hk:K (.bool (many w n)) σ):kSs prog T f_law_is_many.body (enter f_law_is_many [.str w,.int n]) σ (outK K):=by
 have e0:decide ((0:Int) < (n:Int)) = decide (0 < n):=decide_eq_decide.mpr Int.ofNat_lt
 have e1:decide ((n:Int) = 1) = decide (n = 1):=decide_eq_decide.mpr Int.ofNat_inj
 have e2:decide ((n:Int) < 2) = decide (n < 2):=decide_eq_decide.mpr Int.ofNat_lt
 simp only [words,List.mem_cons,List.not_mem_nil,or_false] at hw
 rcases hw with rfl | rfl | rfl | rfl
 ·have hk:K (.bool (decide (0 < n))) σ:=hk
  rw [← e0,show decide ((0:Int) < (n:Int)) = (decide ((0:Int) < (n:Int)) == true) by cases decide ((0:Int) < (n:Int)) <;> rfl] at hk
  exact hk
 ·have hk:K (.bool (decide (n = 0))) σ:=hk
  rw [show decide (n = 0) = (decide ((0:Int) < (n:Int)) == false) by rw [e0]; cases n <;> rfl] at hk
  exact hk
 ·have hk:K (.bool (decide (n < 2))) σ:=hk
  rw [← e2] at hk
  exact hk
 ·have hk:K (.bool (decide (n = 1))) σ:=hk
  rw [← e1] at hk
  exact hk
theorem many_ok (hn:1≤k) (hw:w∈words) (hk:K (.bool (many w n)) σ):callK prog k 79 [.str w,.int n] σ K:=call_i (d:=f_law_is_many) hn rfl rfl (many_x hw hk)
theorem len_i {L:List V} (h:L.length≤capL):lenE σ (.list L) = some (.int L.length):=by
 show (okLen L).map (fun l=>V.int l.length) = _
 rw [okLen_i h]; rfl
theorem nin_ints {a:Int}:(pyIn (.int a) (intsV l)).map (!·) = some (!has l a):=by rw [in_ints]; rfl
theorem nin_rows {a:Int}:(pyIn (row1 a) (rows1 l)).map (!·) = some (!has l a):=by rw [in_rows]; rfl
theorem eq_ints:pyEq (.list (intsV l)) (.list (intsV l')) = some (decide (l = l')):=(pyEq_i (list_eq (ints_eq23 l)) (list_eq (ints_eq23 l'))).trans (congrArg some (beqs_intV l l'))
theorem eq_rows:pyEq (.list (rows1 l)) (.list (rows1 l')) = some (decide (l = l')):=(pyEq_i (list_eq (rows1_eq23 l)) (list_eq (rows1_eq23 l'))).trans (congrArg some (beqs_rows l l'))
noncomputable def subA (l l':List Int):Bool:=decide ((l.filter fun a=>!has l' a) = [])
theorem bools_in {c:Bool}:∀ bs:List Bool,pyIn (.bool c) (bs.map V.bool) = some (bs.any (· == c)):=fun bs=>by
 have h:((bs.map V.bool).all fun y=>(pyEq y (.bool c)).isSome) = true:=List.all_eq_true.mpr fun y m=>(List.mem_map.mp m).elim fun b q=>q.2 ▸ rfl
 delta pyIn
 rw [if_pos h,List.any_map]
 rfl
theorem no_false:∀ bs:List Bool,(pyIn (.bool false) (bs.map V.bool)).map (!·) = some (bs.all id):=fun bs=>by
 rw [bools_in]
 refine congrArg some ?_
 induction bs with
 | nil=>rfl
 | cons b bs ih=>rw [List.any_cons,List.all_cons]; cases b with
  | true=>exact ih
  | false=>rfl
theorem is_true:∀ bs:List Bool,pyIn (.bool true) (bs.map V.bool) = some (bs.any id):=fun bs=>by
 rw [bools_in]
 refine congrArg some (congrArg (bs.any ·) (funext fun b=>?_))
 cases b <;> rfl
theorem mn_in (h1:Mn d W nd e2 (.list (intsV l))) (h2:Mn d W nd' e2 (.list (intsV l'))) (hl:At1 l):Mn (d + 1) W (binV cIn nd nd') e2 (.bool (subA l l')):=Mn.of fun n hn wi σ K w z=>by
 have h1:=h1 n hn wi
 have h2:=h2 n hn wi
 generalize TabK.mk (callK prog n) = T at h1 h2 ⊢
 conv=>whnf
 refine h1 σ _ w fun σ1 p1=>?_
 conv=>whnf
 refine h2 σ1 _ (w.pre p1) fun σ2 p2=>?_
 conv=>whnf
 refine loopSelS (α:=Int) V.int V.int (fun a=>!has l' a) (cap3 hl.len) rfl (fun a ha=>⟨_,rfl,fun ds kk q zz=>?_⟩) ?_
 ·conv=>whnf
  refine oK_i _ nin_ints ?_
  conv=>whnf
  exact cond_i q zz
 ·exact oK_i _ (eq_ints (l':=[])) (z σ2 (p1.trans p2))
theorem mn_eq (h1:Mn d W nd e2 (.list (intsV l))) (h2:Mn d W nd' e2 (.list (intsV l'))):Mn (d + 1) W (binV 62 nd nd') e2 (.bool (decide (l = l'))):=Mn.of fun n hn wi σ K w z=>by
 have h1:=h1 n hn wi
 have h2:=h2 n hn wi
 generalize TabK.mk (callK prog n) = T at h1 h2 ⊢
 conv=>whnf
 refine h1 σ _ w fun σ1 p1=>?_
 conv=>whnf
 refine h2 σ1 _ (w.pre p1) fun σ2 p2=>?_
 conv=>whnf
 exact oK_i _ eq_ints (z σ2 (p1.trans p2))
theorem mn_un (hw:w∈words) (h1:Mn (d + 1) W nd e2 (.list (intsV l))) (hl:At1 l):Mn (d + 2) W (unV w nd) e2 (.bool (many w l.length)):=Mn.of fun n hn wi σ K wa z=>by
 have h1:=h1 n hn wi
 have h79:∀ σ K,K (.bool (many w l.length)) σ→TabK.call ⟨callK prog n⟩ 79 [.str w,.int l.length] σ K:=fun σ K hk=>many_ok (up1 hn) hw hk
 generalize TabK.mk (callK prog n) = T at h1 h79 ⊢
 have ne:decide (w = 34) = false:=by
  simp only [words,List.mem_cons,List.not_mem_nil,or_false] at hw
  rcases hw with rfl | rfl | rfl | rfl <;> rfl
 conv=>whnf
 refine h1 σ _ wa fun σ1 p1=>?_
 conv=>whnf
 refine iK_f ne ?_
 conv=>whnf
 refine oK_i _ (len_i (by rw [List.length_map]; exact cap3 hl.len)) ?_
 rw [List.length_map]
 exact h79 σ1 _ (z σ1 p1)
theorem mn_not (h1:Mn d W nd e2 (.bool b)):Mn (d + 1) W (unV 34 nd) e2 (.bool (!b)):=Mn.of fun n hn wi σ K wa z=>by
 have h1:=h1 n hn wi
 generalize TabK.mk (callK prog n) = T at h1 ⊢
 conv=>whnf
 refine h1 σ _ wa fun σ1 p1=>?_
 exact z σ1 p1
noncomputable def HoT (T:TabK) (W:Wl) (f:V) (e1:List (V × V)) (b:Bool):Prop:=∀ (σ:St) (K:V→St→Prop),(∀ σ',σ <+: σ'→K (.bool b) σ')→T.call 85 [f,.dict e1,setsV W] σ K
noncomputable def HoB (T:TabK) (W:Wl) (f:V) (e1:List (V × V)) (b:Bool):Prop:=∀ (σ:St) (K:V→St→Prop),(∀ σ',σ <+: σ'→K (.bool b) σ')→kSs prog T f_law_holds.body (enter f_law_holds [f,.dict e1,setsV W]) σ (outK K)
noncomputable def Ho (d:Nat) (W:Wl) (f:V) (e1:List (V × V)) (b:Bool):Prop:=∀ n,d≤n→HoT ⟨callK prog n⟩ W f e1 b
theorem Ho.of (h:∀ n,d≤n→HoB ⟨callK prog n⟩ W f e1 b):Ho (d + 1) W f e1 b:=fun n hn σ K z=>call_i (d:=f_law_holds) (up1 hn) rfl rfl (h (n - 1) (dn1 hn) σ K z)
theorem Ho.up {d':Nat} (h:Ho d W f e1 b) (e:d≤d'):Ho d' W f e1 b:=fun n hn=>h n (Nat.le_trans e hn)
theorem ho_in (h1:Rw d W r e1 (.list (rows1 l))) (h2:Rw d W r' e1 (.list (rows1 l'))) (hl:At1 l):Ho (d + 1) W (f2V cIn r r') e1 (subA l l'):=Ho.of fun n hn σ K z=>by
 have h1:=h1 n hn
 have h2:=h2 n hn
 generalize TabK.mk (callK prog n) = T at h1 h2 ⊢
 conv=>whnf
 refine h1 σ _ fun σ1 p1=>?_
 conv=>whnf
 refine h2 σ1 _ fun σ2 p2=>?_
 conv=>whnf
 refine loopSelS (α:=Int) row1 row1 (fun a=>!has l' a) (cap3 hl.len) rfl (fun a ha=>⟨_,rfl,fun ds kk q zz=>?_⟩) ?_
 ·conv=>whnf
  refine oK_i _ nin_rows ?_
  conv=>whnf
  exact cond_i q zz
 ·exact oK_i _ (eq_rows (l':=[])) (z σ2 (p1.trans p2))
theorem ho_same (h1:Rw d W r e1 (.list (rows1 l))) (h2:Rw d W r' e1 (.list (rows1 l'))):Ho (d + 1) W (f2V cSame r r') e1 (decide (l = l')):=Ho.of fun n hn σ K z=>by
 have h1:=h1 n hn
 have h2:=h2 n hn
 generalize TabK.mk (callK prog n) = T at h1 h2 ⊢
 conv=>whnf
 refine h1 σ _ fun σ1 p1=>?_
 conv=>whnf
 refine h2 σ1 _ fun σ2 p2=>?_
 conv=>whnf
 exact oK_i _ eq_rows (z σ2 (p1.trans p2))
theorem ho_un {R:List V} (hw:w∈words) (h1:Rw (d + 1) W r e1 (.list R)) (hl:R.length≤capL):Ho (d + 2) W (.tup [.str w,r]) e1 (many w R.length):=Ho.of fun n hn σ K z=>by
 have h1:=h1 n hn
 have h79:∀ σ K,K (.bool (many w R.length)) σ→TabK.call ⟨callK prog n⟩ 79 [.str w,.int R.length] σ K:=fun σ K hk=>many_ok (up1 hn) hw hk
 generalize TabK.mk (callK prog n) = T at h1 h79 ⊢
 have go:kE prog T (.call 79 [(.var 3),(.bi .len [(.call 83 [(.item (.var 0) (.cst (.int 1))),(.var 1),(.var 2)])])]) [some (.tup [.str w,r]),some (.dict e1),some (setsV W),some (.str w),none,none,none,none,none,none,none] σ K:=by
  conv=>whnf
  refine h1 σ _ fun σ1 p1=>?_
  conv=>whnf
  refine oK_i _ (len_i hl) ?_
  exact h79 σ1 _ (z σ1 p1)
 simp only [words,List.mem_cons,List.not_mem_nil,or_false] at hw
 rcases hw with rfl | rfl | rfl | rfl <;> exact go
theorem ho_not (h1:Ho d W f e1 b):Ho (d + 1) W (notV f) e1 (!b):=Ho.of fun n hn σ K z=>by
 have h1:=h1 n hn
 generalize TabK.mk (callK prog n) = T at h1 ⊢
 conv=>whnf
 refine h1 σ _ fun σ1 p1=>?_
 exact z σ1 p1
theorem ho_imp (h1:Ho d W f e1 b) (h2:Ho d W g e1 b'):Ho (d + 1) W (impV f g) e1 (b' || !b):=Ho.of fun n hn σ K z=>by
 have h1:=h1 n hn
 have h2:=h2 n hn
 generalize TabK.mk (callK prog n) = T at h1 h2 ⊢
 conv=>whnf
 refine h2 σ _ fun σ1 p1=>?_
 cases b' with
 | true=>exact z σ1 p1
 | false =>
  conv=>whnf
  refine h1 σ1 _ fun σ2 p2=>?_
  exact z σ2 (p1.trans p2)
theorem ho_and {fs:List (V × Bool)} (h:∀ p∈fs,Ho d W p.1 e1 p.2) (hl:fs.length≤capL):Ho (d + 1) W (andV (fs.map (·.1))) e1 (fs.all (·.2)):=Ho.of fun n hn σ K z=>by
 have h:=fun p m=>h p m n hn
 generalize TabK.mk (callK prog n) = T at h ⊢
 conv=>whnf
 refine loopMap (α:=V × Bool) (·.1) (fun p=>.bool p.2) (σ <+: ·) hl (List.prefix_refl σ) (fun _ _=>rfl) (fun p hp=>⟨_,rfl,fun σ3 ds kk i q zz=>?_⟩) fun σ' i=>?_
 ·conv=>whnf
  refine h p hp σ3 _ fun σ4 p4=>?_
  exact bK_i (le1 q) (zz σ4 (i.trans p4))
 ·have w:=no_false (fs.map (·.2))
  rw [List.map_map,List.all_map] at w
  exact oK_i _ w (z σ' i)
end
end P3
end Mine.Internal
namespace Mine.Internal
noncomputable abbrev Env:=List (V × V)
theorem str_beqV {x:V} {b:Nat} (h:V.beq x (.str b) = true):x = .str b:=by
 cases x with
 | str a=>exact congrArg V.str (of_decide_eq_true h)
 | _=>cases h
theorem beq_str {a b:Nat}:V.beq (.str a) (.str b) = decide (a = b):=rfl
theorem dget_dset {a b:Nat} {v:V}:∀ {d:Env},dget (.str a) (dset (.str b) v d) = if a = b then some v else dget (.str a) d
 | []=>by
  show (if V.beq (.str b) (.str a) = true then some v else none) = _
  rw [beq_str]
  by_cases h:a = b
  ·rw [if_pos h,if_pos (decide_eq_true h.symm)]
  ·rw [if_neg h,if_neg (by rw [decide_eq_false (Ne.symm h)]; exact Bool.false_ne_true)]; rfl
 | (x,w) :: r=>by
  have ih:=dget_dset (a:=a) (b:=b) (v:=v) (d:=r)
  unfold dset
  by_cases hb:V.beq x (.str b) = true
  ·rw [if_pos hb,str_beqV hb]
   unfold dget
   rw [beq_str]
   by_cases h:a = b
   ·rw [if_pos h,if_pos (decide_eq_true h.symm)]
   ·rw [if_neg h,if_neg (by rw [decide_eq_false (Ne.symm h)]; exact Bool.false_ne_true),if_neg (by rw [decide_eq_false (Ne.symm h)]; exact Bool.false_ne_true)]
  ·rw [if_neg hb]
   unfold dget
   by_cases ha:V.beq x (.str a) = true
   ·rw [if_pos ha,if_pos ha]
    have e:=str_beqV ha
    rw [if_neg fun h=>hb (by rw [e,h]; exact decide_eq_true rfl)]
   ·rw [if_neg ha,if_neg ha]; exact ih
structure Dk (d:Env):Prop where
 ks:∀ p∈d,∃ s,p.1 = .str s
 nd:(d.map (·.1)).Nodup
theorem dset_keys {b:Nat} {v:V}:∀ {d:Env},(dset (.str b) v d).map (·.1) = d.map (·.1) ∨ ((dset (.str b) v d) = d++[(.str b,v)]∧.str b ∉ d.map (·.1))
 | []=>.inr ⟨rfl,List.not_mem_nil⟩
 | (x,w) :: r=>by
  unfold dset
  by_cases hb:V.beq x (.str b) = true
  ·rw [if_pos hb]; exact .inl rfl
  ·rw [if_neg hb]
   exact (dset_keys (b:=b) (v:=v) (d:=r)).imp (fun e=>congrArg (x :: ·) e) fun e=>⟨congrArg ((x,w) :: ·) e.1,fun m=>(List.mem_cons.mp m).elim (fun e=>hb (by rw [show x = .str b from e.symm]; exact decide_eq_true rfl)) e.2⟩
theorem Dk.set {d:Env} (h:Dk d) (b:Nat) (v:V):Dk (dset (.str b) v d):=by
 have ks:∀ k∈d.map (·.1),∃ s,k = .str s:=fun k m=>(List.mem_map.mp m).elim fun p q=>q.2 ▸ h.ks p q.1
 have of:∀ {e:Env},(∀ k∈e.map (·.1),∃ s,k = .str s)→∀ p∈e,∃ s,p.1 = .str s:=fun h p m=>h _ (List.mem_map.mpr ⟨p,m,rfl⟩)
 rcases dset_keys (b:=b) (v:=v) (d:=d) with e | ⟨e,n⟩
 ·exact ⟨of (e ▸ ks),e ▸ h.nd⟩
 ·rw [e]
  refine ⟨of fun k m=>?_,?_⟩
  ·rw [List.map_append] at m
   exact (List.mem_append.mp m).elim (ks k) fun m=>⟨b,List.mem_singleton.mp m⟩
  ·rw [List.map_append]
   exact List.nodup_append.mpr ⟨h.nd,List.nodup_cons.mpr ⟨List.not_mem_nil,List.nodup_nil⟩,fun x hx y hy e=>n (by rw [e,show y = .str b from List.mem_singleton.mp hy] at hx; exact hx)⟩
theorem dset_len {b:Nat} {v:V} {d:Env}:(dset (.str b) v d).length≤d.length + 1:=by
 rcases dset_keys (b:=b) (v:=v) (d:=d) with e | ⟨e,n⟩
 ·have w:=congrArg List.length e
  rw [List.length_map,List.length_map] at w
  exact w ▸ Nat.le_succ _
 ·rw [e,List.length_append]; exact Nat.le_refl _
theorem dset_new {b:Nat} {v:V}:∀ {d:Env},.str b ∉ d.map (·.1)→dset (.str b) v d = d++[(.str b,v)]
 | [],_=>rfl
 | (x,w) :: r,h=>by
  unfold dset
  rw [if_neg fun hb=>h (str_beqV hb ▸ List.mem_cons_self ..),dset_new fun m=>h (List.mem_cons_of_mem _ m)]; rfl
noncomputable def itemsL (d:Env):List V:=d.map fun (q:V × V)=>V.tup [q.1,q.2]
noncomputable def prsL (ps:List (Nat × V)):List V:=ps.map fun p=>V.tup [.str p.1,p.2]
noncomputable def ext (d:Env) (ps:List (Nat × V)):Env:=ps.foldl (fun d p=>dset (.str p.1) p.2 d) d
theorem updD_prs:∀ (ps:List (Nat × V)) (d:Env),updD d (prsL ps) = some (ext d ps)
 | [],_=>rfl
 | p :: ps,d=>updD_prs ps (dset (.str p.1) p.2 d)
theorem updD_items {L:List V}:∀ {d acc:Env},Dk (acc++d)→updD acc (itemsL d++L) = updD (acc++d) L
 | [],acc,h=>by rw [List.append_nil]; rfl
 | (x,v) :: d,acc,h=>by
  obtain ⟨s,e⟩:=h.ks (x,v) (List.mem_append.mpr (.inr (List.mem_cons_self ..)))
  cases (e:x = .str s)
  show updD (dset (.str s) v acc) (itemsL d++L) = _
  have n:.str s ∉ acc.map (·.1):=fun m=>by
   have w:=h.nd
   rw [List.map_append] at w
   exact (List.nodup_append.mp w).2.2 _ m _ (List.mem_cons_self ..) rfl
  have ea:acc++(.str s,v) :: d = acc++[(.str s,v)]++d:=by rw [List.append_assoc]; rfl
  rw [dset_new n,ea]
  exact updD_items (ea ▸ h)
theorem ext_len:∀ {ps:List (Nat × V)} {d:Env},(ext d ps).length≤d.length + ps.length
 | [],_=>Nat.le_refl _
 | p :: ps,d=>Nat.le_trans (ext_len (ps:=ps) (d:=dset (.str p.1) p.2 d)) (by rw [List.length_cons,Nat.add_comm ps.length,← Nat.add_assoc]; exact Nat.add_le_add_right dset_len _)
theorem items_i {d:Env} {σ:St} (h:d.length≤capL):biE σ .items [.dict d] = some (.list (itemsL d)):=if_pos h
theorem addl_i {a b:List V} {σ:St} (h:(a++b).length≤capL):binE σ .add (.list a) (.list b) = some (.list (a++b)):=by
 show (okLen (a++b)).map V.list = _
 rw [okLen_i h]; rfl
theorem its_len {d:Env} {ps:List (Nat × V)}:(itemsL d++prsL ps).length = d.length + ps.length:=by
 delta itemsL prsL; rw [List.length_append,List.length_map,List.length_map]
theorem dict_i {d:Env} {ps:List (Nat × V)} {σ:St} (h:Dk d) (hl:d.length + ps.length≤capL):biE σ .dict [.list (itemsL d++prsL ps)] = some (.dict (ext d ps)):=by
 show ((okLen (itemsL d++prsL ps)).bind (updD [])).map V.dict = _
 rw [okLen_i (its_len (d:=d) (ps:=ps) ▸ hl),Option.bind_some,updD_items (acc:=[]) (d:=d) h,List.nil_append,updD_prs]; rfl
mutual
theorem beq_rfl:∀ v:V,V.beq v v = true
 | .none=>rfl
 | .bool b=>by show (b == b) = true; exact BEq.rfl
 | .int i=>decide_eq_true rfl
 | .str s=>decide_eq_true rfl
 | .tup l=>beqs_rfl' l
 | .list l=>beqs_rfl' l
 | .dict l=>beqp_rfl l
 | .loc n=>decide_eq_true rfl
theorem beqs_rfl':∀ l:List V,beqs l l = true
 | []=>rfl
 | v :: l=>by show (V.beq v v && beqs l l) = true; rw [beq_rfl v,beqs_rfl' l]; rfl
theorem beqp_rfl:∀ l:List (V × V),beqp l l = true
 | []=>rfl
 | (a,b) :: l=>by show (V.beq a a && (V.beq b b && beqp l l)) = true; rw [beq_rfl a,beq_rfl b,beqp_rfl l]; rfl
end
theorem still_i {n:Nat} {l:List V} {σ:St} (h:σ[n]? = some (.list l)):stillB (some n) l σ = true:=by
 show stO l σ[n]? = true
 rw [h]; exact beqs_rfl' l
theorem loopS {α:Type} {st:St→Bool} {bnd:V→REnv→Option REnv} {body:REnv→St→(Out→Prop)→Prop} {k:Out→Prop} (g:α→V) (J:List α→REnv→St→Prop) (hst:∀ l ρ σ,J l ρ σ→st σ = true)
  (H:∀ a r ρ σ,J (a :: r) ρ σ→∃ ρ',bnd (g a) ρ = some ρ'∧∀ k':Out→Prop,(∀ ρ'' σ'',J r ρ'' σ''→k' (.next ρ'' σ''))→body ρ' σ k')
  (z:∀ ρ σ,J [] ρ σ→k (.next ρ σ)):∀ (l:List α) (ρ:REnv) (σ:St),J l ρ σ→kLoopS st bnd body (l.map g) ρ σ k
 | [],ρ,σ,j=>bK_i (hst _ _ _ j) (z ρ σ j)
 | a :: r,ρ,σ,j=>bK_i (hst _ _ _ j) (by
  obtain ⟨ρ',e,h⟩:=H a r ρ σ j
  exact oK_i ρ' e (h _ fun ρ'' σ'' j'=>loopS g J hst H z r ρ'' σ'' j'))
theorem pre_set {σ0 σ:St} {j:Nat} {o:SObj} (p:σ0 <+: σ) (h:σ0.length≤j):σ0 <+: σ.set j o:=by
 obtain ⟨t,rfl⟩:=p
 rw [List.set_append_right _ _ h]
 exact List.prefix_append ..
end Mine.Internal
namespace Mine.Internal
noncomputable def FA (σ:St) (v:V) (l:List V):Prop:=v = .list l ∨ ∃ i,v = .loc i∧σ[i]? = some (.list l)
section
variable {σ σ':St} {v:V} {l acc news:List V} {j:Nat}
theorem FA.pre (h:FA σ v l) (p:σ <+: σ'):FA σ' v l:=h.imp id fun ⟨i,e,h⟩=>⟨i,e,pre_get p h⟩
theorem FA.src (h:FA σ v l):asList σ v = some l:=by
 rcases h with rfl | ⟨i,rfl,h⟩
 ·rfl
 ·show locL σ[i]? = _
  rw [h]; rfl
theorem FA.still (h:FA σ v l):stillB (locOf v) l σ = true:=by
 rcases h with rfl | ⟨i,rfl,h⟩
 ·rfl
 ·exact still_i h
theorem con_i {m:Mth} (hm:conO m (some (.list [])) = true) (h:σ[j]? = some (.list l)):isCon m (.loc j) σ = true:=by
 show conO m σ[j]? = true
 rw [h]; cases m <;> first | rfl | cases hm
theorem ext_i (h:σ[j]? = some (.list acc)) (hl:(acc++news).length≤capL):mthE .ext (.loc j) (.list news) σ = some (σ.set j (.list (acc++news))):=by
 show mthO σ (.list news) j .ext σ[j]? = _
 rw [h]
 show (okLen (acc++news)).map (fun l=>σ.set j (.list l)) = _
 rw [okLen_i hl]; rfl
theorem app_i (h:σ[j]? = some (.list acc)) (hl:(acc++[v]).length≤capL):mthE .app (.loc j) v σ = some (σ.set j (.list (acc++[v]))):=by
 show mthO σ v j .app σ[j]? = _
 rw [h]
 show (okLen (acc++[v])).map (fun l=>σ.set j (.list l)) = _
 rw [okLen_i hl]; rfl
theorem set_get {o:SObj} (h:j < σ.length):(σ.set j o)[j]? = some o:=List.getElem?_set_self h
theorem get_lt {o:SObj} (h:σ[j]? = some o):j < σ.length:=(List.getElem?_eq_some_iff.mp h).1
theorem addt_i {a b:List V} (h:(a++b).length≤capL):binE σ .add (.tup a) (.tup b) = some (.tup (a++b)):=by
 show (okLen (a++b)).map V.tup = _
 rw [okLen_i h]; rfl
end
namespace P3
noncomputable abbrev Q2:=List V × Env
noncomputable def qV (q:Q2):V:=.tup [.tup q.1,.dict q.2]
noncomputable abbrev T3:=Nat × V × (Env→List Int)
noncomputable def tV (t:T3):V:=.tup [.str t.1,t.2.1]
noncomputable def chOne (t:T3) (q:Q2):List Q2:=(t.2.2 q.2).map fun a=>(q.1++[.int a],dset (.str t.1) (row1 a) q.2)
noncomputable def chStep (t:T3) (L:List Q2):List Q2:=L.flatMap (chOne t)
noncomputable def chRun:List T3→List Q2→List Q2
 | [],L=>L
 | t :: ts,L=>chRun ts (chStep t L)
structure OkQ (d:Nat) (W:Wl) (t:T3) (q:Q2):Prop where
 dk:Dk q.2
 l1:q.1.length≤1000
 l2:q.2.length≤1000
 at1:At1 (t.2.2 q.2)
 rw:Rw d W t.2.1 q.2 (.list (rows1 (t.2.2 q.2)))
noncomputable def GdC (d:Nat) (W:Wl):List T3→List Q2→Prop
 | [],_=>True
 | t :: ts,L=>(∀ q∈L,OkQ d W t q)∧(L.length≤1000∧GdC d W ts (chStep t L))
theorem fl_len {α β:Type} {f:α→List β} {c:Nat}:∀ {l:List α},(∀ a∈l,(f a).length≤c)→(l.flatMap f).length≤l.length * c
 | [],_=>Nat.zero_le _
 | a :: l,h=>by rw [List.flatMap_cons,List.length_append,List.length_cons,Nat.succ_mul,Nat.add_comm]; exact Nat.add_le_add (fl_len fun b m=>h b (List.mem_cons_of_mem _ m)) (h a (List.mem_cons_self ..))
section
variable {W:Wl} {d n:Nat} {T:TabK} {e1:Env} {t:T3} {ts:List T3} {L Fin:List Q2} {σ:St} {fnd told:V}
theorem one_len {q:Q2} (h:OkQ d W t q):(chOne t q).length≤3:=by delta chOne; rw [List.length_map]; exact h.at1.len
noncomputable def chB:S:=.mth .ext (.var 6) (.comp (.gen (.one 9) (.val (.call 83 [(.var 5),(.var 8),(.var 2)])) [] (.elt (.tup [(.bin .add (.var 7) (.var 9)),(.bi .dict [(.bin .add (.bi .items [(.var 8)]) (.list [(.tup [(.var 4),(.var 9)])]))])]))))
noncomputable def chFor:S:=.for_ (.many [7,8]) (.val (.var 3)) [chB]
noncomputable def chEnv (told:V) (e1:Env) (W:Wl) (fnd:V) (x4 x5 x6 x7 x8:Option V):REnv:=[some told,some (.dict e1),some (setsV W),some fnd,x4,x5,x6,x7,x8,none]
theorem ch_b {k:Out→Prop} {q:Q2} {acc:List Q2} {j:Nat} (h83:RwT T W t.2.1 q.2 (.list (rows1 (t.2.2 q.2)))) (o:OkQ d W t q) (ha:σ[j]? = some (.list (acc.map qV))) (hz:acc.length≤3000)
  (z:∀ σ',σ <+: σ'→k (.next (chEnv told e1 W fnd (some (.str t.1)) (some t.2.1) (some (.loc j)) (some (.tup q.1)) (some (.dict q.2))) (σ'.set j (.list ((acc++chOne t q).map qV))))) :
  kSs prog T [chB] (chEnv told e1 W fnd (some (.str t.1)) (some t.2.1) (some (.loc j)) (some (.tup q.1)) (some (.dict q.2))) σ k:=by
 conv=>whnf
 refine bK_i (con_i rfl ha) ?_
 conv=>whnf
 refine h83 σ _ fun σ1 p1=>?_
 conv=>whnf
 have l1:q.2.length + 1≤capL:=Nat.le_trans (Nat.add_le_add_right o.l2 1) (by decide)
 refine loopMapS (α:=Int) row1 (fun a=>qV (q.1++[.int a],dset (.str t.1) (row1 a) q.2)) (cap3 o.at1.len) rfl (fun a ha=>⟨_,rfl,fun ds kk b zz=>?_⟩) ?_
 ·conv=>whnf
  refine oK_i _ (addt_i (b:=[.int a]) (Nat.le_trans (Nat.le_of_eq List.length_append) (Nat.le_trans (Nat.add_le_add_right o.l1 1) (by decide)))) ?_
  conv=>whnf
  refine oK_i _ (items_i (Nat.le_trans o.l2 (by decide))) ?_
  conv=>whnf
  refine oK_i _ (addl_i (b:=prsL [(t.1,row1 a)]) (by rw [its_len]; exact l1)) ?_
  conv=>whnf
  refine oK_i _ (dict_i (ps:=[(t.1,row1 a)]) o.dk l1) ?_
  exact bK_i (le1 b) zz
 ·conv=>whnf
  have e3:((t.2.2 q.2).map fun a=>qV (q.1++[.int a],dset (.str t.1) (row1 a) q.2)) = (chOne t q).map qV:=by delta chOne; rw [List.map_map]; rfl
  rw [e3]
  refine oK_i _ (ext_i (pre_get p1 ha) (by rw [← List.map_append,List.length_map,List.length_append]; exact Nat.le_trans (Nat.add_le_add hz (one_len o)) (by decide))) ?_
  rw [← List.map_append]
  exact z σ1 p1
theorem ch_all {k:Out→Prop} (fa:FA σ fnd (L.map qV)) (rest:List Q2):∀ (acc:List Q2) (σ':St) (x7 x8:Option V),(∀ q∈rest,RwT T W t.2.1 q.2 (.list (rows1 (t.2.2 q.2)))∧OkQ d W t q)→σ <+: σ'→σ'[σ.length]? = some (.list (acc.map qV))→acc.length + rest.length * 3≤3000 →
  (∀ x7 x8 σ',σ <+: σ'→σ'[σ.length]? = some (.list ((acc++rest.flatMap (chOne t)).map qV))→k (.next (chEnv told e1 W fnd (some (.str t.1)) (some t.2.1) (some (.loc σ.length)) x7 x8) σ')) →
  kLoopS (stillB (locOf fnd) (L.map qV)) (fun v ρ=>bindTg ρ (.many [7,8]) v) (fun ρ σ k=>kSs prog T [chB] ρ σ k) (rest.map qV) (chEnv told e1 W fnd (some (.str t.1)) (some t.2.1) (some (.loc σ.length)) x7 x8) σ' k:=by
 induction rest with
 | nil=>exact fun acc σ' x7 x8 _ p ha _ z=>bK_i (fa.pre p).still (z x7 x8 σ' p ((List.append_nil acc).symm ▸ ha))
 | cons q rest ih =>
  intro acc σ' x7 x8 h p ha hz z
  have o:=h q (List.mem_cons_self ..)
  rw [List.length_cons,Nat.succ_mul] at hz
  refine bK_i (fa.pre p).still (oK_i _ rfl ?_)
  refine ch_b (told:=told) (e1:=e1) (fnd:=fnd) o.1 o.2 ha (Nat.le_trans (Nat.le_add_right ..) hz) fun σ1 p1=>?_
  refine ih (acc++chOne t q) _ _ _ (fun q m=>h q (List.mem_cons_of_mem _ m)) (pre_set (p.trans p1) (Nat.le_refl _)) (set_get (get_lt (pre_get p1 ha))) ?_ fun y7 y8 σ2 p2 h2=>z y7 y8 σ2 p2 ?_
  ·rw [List.length_append,Nat.add_assoc]
   exact Nat.le_trans (Nat.add_le_add_left (Nat.add_comm 3 _ ▸ Nat.add_le_add_right (one_len o.2) _) _) hz
  ·rw [List.append_assoc,← List.flatMap_cons] at h2; exact h2
noncomputable def ChT (T:TabK) (W:Wl) (told:V) (e1:Env) (Fin:List Q2):Prop:=∀ (σ:St) (K:V→St→Prop),(∀ σ' v,σ <+: σ'→FA σ' v (Fin.map qV)→K v σ')→T.call 84 [told,.dict e1,setsV W] σ K
noncomputable def Ch (d:Nat) (W:Wl) (told:V) (e1:Env) (Fin:List Q2):Prop:=∀ n,d≤n→ChT ⟨callK prog n⟩ W told e1 Fin
theorem ch_run {k:Out→Prop} (hR:∀ r e v,Rw d W r e v→RwT T W r e v) (ts:List T3):∀ (L:List Q2) (fnd:V) (σ:St) (x4 x5 x6 x7 x8:Option V),FA σ fnd (L.map qV)→GdC d W ts L→(∀ x4 x5 x6 x7 x8 σ' v,σ <+: σ'→FA σ' v ((chRun ts L).map qV)→k (.next (chEnv told e1 W v x4 x5 x6 x7 x8) σ')) →
  kLoopS (stillB none []) (fun v ρ=>bindTg ρ (.many [4,5]) v) (fun ρ σ k=>kSs prog T [.asg (.name 6) (.mut (.list [])),chFor,.asg (.name 3) (.var 6)] ρ σ k) (ts.map tV) (chEnv told e1 W fnd x4 x5 x6 x7 x8) σ k:=by
 induction ts with
 | nil=>exact fun L fnd σ x4 x5 x6 x7 x8 fa _ z=>bK_i rfl (z x4 x5 x6 x7 x8 σ fnd (List.prefix_refl σ) fa)
 | cons t ts ih =>
  intro L fnd σ x4 x5 x6 x7 x8 fa g z
  obtain ⟨ok,hL,g'⟩:=g
  exact bK_i rfl (oK_i _ rfl (oK_i _ (fa.pre (List.prefix_append σ [SObj.list []])).src (ch_all (told:=told) (e1:=e1) (t:=t) fa L [] _ x7 x8 (fun q m=>⟨hR _ _ _ (ok q m).rw,ok q m⟩) (List.prefix_append ..) at_last (by rw [List.length_nil,Nat.zero_add]; exact Nat.mul_le_mul_right 3 hL)
   fun y7 y8 σ1 p1 h1=>ih (chStep t L) (.loc σ.length) σ1 _ _ _ _ _ (.inr ⟨_,rfl,h1⟩) g' fun y4 y5 y6 y7 y8 σ2 v p2 f2=>z y4 y5 y6 y7 y8 σ2 v (p1.trans p2) f2)))
theorem ch_x {K:V→St→Prop} (hR:∀ r e v,Rw d W r e v→RwT T W r e v) (g:GdC d W ts [([],e1)]) (z:∀ σ' v,σ <+: σ'→FA σ' v ((chRun ts [([],e1)]).map qV)→K v σ') :
  kSs prog T f_law_choices.body (enter f_law_choices [.tup (ts.map tV),.dict e1,setsV W]) σ (outK K):=ch_run (told:=.tup (ts.map tV)) (e1:=e1) hR ts [([],e1)] (.list [.tup [.tup [],.dict e1]]) σ none none none none none (.inl rfl) g fun x4 x5 x6 x7 x8 σ' v p f=>z σ' v p f
theorem ch_ok (g:GdC d W ts [([],e1)]):Ch (d + 1) W (.tup (ts.map tV)) e1 (chRun ts [([],e1)]):=fun n hn σ K z =>
 call_i (d:=f_law_choices) (up1 hn) rfl rfl (ch_x (fun r e v h=>h (n - 1) (dn1 hn)) g z)
end
end P3
end Mine.Internal
namespace Mine.Internal
namespace P3
noncomputable def tups (l:List Int):Nat→List (List Int)
 | 0=>[[]]
 | k + 1=>(tups l k).flatMap fun r=>l.map fun a=>r++[a]
theorem tups_len {l:List Int} {k:Nat}:∀ r∈tups l k,r.length = k:=by
 induction k with
 | zero=>exact fun r m=>by cases List.mem_singleton.mp m; rfl
 | succ k ih =>
   intro r m
   obtain ⟨q,hq,m⟩:=List.mem_flatMap.mp m
   obtain ⟨a,_,rfl⟩:=List.mem_map.mp m
   rw [List.length_append,ih q hq]; rfl
theorem tups_size {l:List Int} (h:l.length≤3) {k:Nat} (hk:k≤3):(tups l k).length≤27:=by
 have w:∀ k,(tups l k).length≤3 ^ k:=fun k=>by
  induction k with
  | zero=>exact Nat.le_refl 1
  | succ k ih=>exact Nat.le_trans (fl_len (c:=3) fun r _=>by rw [List.length_map]; exact h) (Nat.mul_le_mul_right 3 ih)
 exact Nat.le_trans (w k) (Nat.pow_le_pow_right (by decide) hk)
structure D5 where
 ap:Bool
 ns:List Nat
 mk':V
 dom:V
 dm:Env→List Int
noncomputable def D5.v (D:D5):V:=.tup [.int 0,.bool D.ap,.tup (D.ns.map V.str),D.mk',D.dom]
noncomputable def tI (r:List Int):V:=.tup (intsV r)
noncomputable def uniq (r:List Int):Nat:=((intsV r).foldl stepU []).length
noncomputable def okR (ap:Bool) (r:List Int):Bool:=!ap || decide (uniq r = r.length)
noncomputable def wayEx (D:D5) (e:Env) (r:List Int):Env:=ext e ((D.ns.zip r).map fun p=>(p.1,.list [.int p.2]))
noncomputable def wayOne (D:D5) (e:Env):List Env:=((tups (D.dm e) D.ns.length).filter (okR D.ap)).map (wayEx D e)
noncomputable def wayStep (D:D5) (L:List Env):List Env:=L.flatMap (wayOne D)
noncomputable def wayRun:List D5→List Env→List Env
 | [],L=>L
 | D :: Ds,L=>wayRun Ds (wayStep D L)
structure OkW (d:Nat) (W:Wl) (D:D5) (e:Env):Prop where
 dk:Dk e
 len:e.length≤1000
 at1:At1 (D.dm e)
 mn:Mn d W D.dom e (.list (intsV (D.dm e)))
noncomputable def GdW (d:Nat) (W:Wl):List D5→List Env→Prop
 | [],_=>True
 | D :: Ds,L=>(∀ e∈L,OkW d W D e)∧(D.ns.length≤3∧(L.length≤1000∧GdW d W Ds (wayStep D L)))
noncomputable def wEnv (told:V) (e2:Env) (wi:Nat) (fnd:V) (D:D5) (late x10 x11 x12 x13:Option V):REnv :=
 [some told,some (.dict e2),some (.loc wi),some fnd,some (.int 0),some (.bool D.ap),some (.tup (D.ns.map V.str)),some D.mk',some D.dom,late,x10,x11,x12,x13,none,none,none,none]
section
variable {W:Wl} {d n wi:Nat} {T:TabK} {e2 e:Env} {D:D5} {Ds:List D5} {L:List Env} {σ:St} {fnd told:V} {late x10 x11 x12 x13:Option V}
theorem way_len (h:(D.dm e).length≤3) (hk:D.ns.length≤3):(wayOne D e).length≤27:=by
 delta wayOne; rw [List.length_map]; exact Nat.le_trans (List.length_filter_le ..) (tups_size h hk)
noncomputable def wLab:S:=.for_ (.one 12) (.val (.var 6)) [.asg (.name 11) (.comp (.gen (.one 14) (.val (.var 11)) [] (.gen (.one 15) (.val (.call 81 [(.var 8),(.var 10),(.var 2)])) [] (.elt (.bin .add (.var 14) (.tup [(.var 15)]))))))]
theorem tups_map {l:List Int} {k:Nat}:((tups l k).flatMap fun r=>l.map fun a=>tI (r++[a])) = (tups l (k + 1)).map tI:=by
 show _ = List.map tI (List.flatMap _ _)
 rw [List.map_flatMap]
 refine congrArg (List.flatMap · (tups l k)) (funext fun r=>?_)
 rw [List.map_map]; rfl
theorem w_lall {k:Out→Prop} (h81:MnT T W wi D.dom e (.list (intsV (D.dm e)))) (o:OkW d W D e) (hk:D.ns.length≤3) (wa:WAt W σ wi)
  (z:∀ x12 σ',σ <+: σ'→k (.next (wEnv told e2 wi fnd D late (some (.dict e)) (some (.list ((tups (D.dm e) D.ns.length).map tI))) x12 x13) σ')) (rest:List Nat):∀ (i:Nat) (σ':St) (x12:Option V),i + rest.length = D.ns.length→σ <+: σ' →
  kLoopS (stillB none []) (fun v ρ=>bindTg ρ (.one 12) v) (fun ρ σ k=>kSs prog T [.asg (.name 11) (.comp (.gen (.one 14) (.val (.var 11)) [] (.gen (.one 15) (.val (.call 81 [(.var 8),(.var 10),(.var 2)])) [] (.elt (.bin .add (.var 14) (.tup [(.var 15)]))))))] ρ σ k) (rest.map V.str) (wEnv told e2 wi fnd D late (some (.dict e)) (some (.list ((tups (D.dm e) i).map tI))) x12 x13) σ' k:=by
 induction rest with
 | nil=>exact fun i σ' x12 hi p=>bK_i rfl ((show i = D.ns.length from hi) ▸ z x12 σ' p)
 | cons s rest ih =>
  intro i σ' x12 hi p
  rw [List.length_cons,← Nat.add_assoc,Nat.add_right_comm] at hi
  have hi3:i + 1≤3:=Nat.le_trans (Nat.le_add_right ..) (Nat.le_trans (Nat.le_of_eq hi) hk)
  refine bK_i rfl (oK_i _ rfl ?_)
  conv=>whnf
  refine loopA (α:=List Int) tI (fun r=>(D.dm e).map fun a=>tI (r++[a])) (σ <+: ·) 3 ?_ p (fun _ _=>rfl) (fun r=>by rw [List.length_map]; exact o.at1.len) (fun r hr=>⟨_,rfl,fun σ2 ds kk i2 q zz=>?_⟩) fun σ2 i2=>?_
  ·rw [List.length_nil,Nat.zero_add]; exact Nat.le_trans (Nat.mul_le_mul_right 3 (tups_size o.at1.len (Nat.le_trans (Nat.le_succ _) hi3))) (by decide)
  ·conv=>whnf
   refine h81 σ2 _ (wa.pre i2) fun σ3 p3=>?_
   conv=>whnf
   refine loopA (α:=Int) V.int (fun a=>[tI (r++[a])]) (σ3 = ·) 1 (by rw [Nat.mul_one]; exact Nat.le_trans (Nat.add_le_add_left o.at1.len _) q) rfl (fun _ _=>rfl) (fun _=>Nat.le_refl 1) (fun a ha=>⟨_,rfl,fun σ4 ds2 kk2 i4 q2 zz2=>?_⟩) fun σ4 i4=>?_
   ·subst i4
    conv=>whnf
    have hr:=tups_len r hr
    refine oK_i _ (addt_i (a:=intsV r) (b:=[.int a]) (by rw [List.length_append,List.length_map,hr]; exact Nat.le_trans hi3 (by decide))) ?_
    have zz2:=zz2 _ rfl
    unfold tI intsV at zz2
    rw [List.map_append] at zz2
    exact bK_i (le1 q2) zz2
   ·subst i4
    rw [one_map]
    exact zz _ (i2.trans p3)
  ·rw [List.nil_append,tups_map]
   exact ih (i + 1) σ2 _ hi i2
theorem w_lab {k:Out→Prop} (h81:MnT T W wi D.dom e (.list (intsV (D.dm e)))) (o:OkW d W D e) (hk:D.ns.length≤3) (wa:WAt W σ wi)
  (z:∀ x12 σ',σ <+: σ'→k (.next (wEnv told e2 wi fnd D late (some (.dict e)) (some (.list ((tups (D.dm e) D.ns.length).map tI))) x12 x13) σ')) :
  kS prog T wLab (wEnv told e2 wi fnd D late (some (.dict e)) (some (.list [.tup []])) x12 x13) σ k:=w_lall h81 o hk wa z D.ns 0 σ x12 (Nat.zero_add _) (List.prefix_refl σ)
theorem set_same {j:Nat} {o:SObj} (h:σ[j]? = some o):σ.set j o = σ:=by
 obtain ⟨hl,e⟩:=List.getElem?_eq_some_iff.mp h
 rw [← e]; exact List.set_getElem_self hl
noncomputable def wApp:S:=.mth .app (.var 9) (.bi .dict [(.bin .add (.bi .items [(.var 10)]) (.comp (.gen (.many [16,17]) (.zip (.var 6) (.var 13)) [] (.elt (.tup [(.var 16),(.list [(.var 17)])])))))])
noncomputable def wRow:S:=.for_ (.one 13) (.val (.var 11)) [.ite (.or [(.not (.var 5)),(.cmp .eq (.bi .lenSet [(.var 13)]) (.bi .len [(.var 13)]))]) [wApp] []]
theorem lset_i {r:List Int} (h:r.length≤1000):biE σ .lenSet [tI r] = some (.int (uniq r)):=if_pos ⟨List.all_eq_true.mpr fun v m=>(List.mem_map.mp m).elim fun a q=>q.2 ▸ rfl,by rw [List.length_map]; exact h⟩
theorem lent_i {r:List Int} (h:r.length≤1000):lenE σ (tI r) = some (.int r.length):=by
 show (okLen (intsV r)).map (fun l=>V.int l.length) = _
 rw [okLen_i (by rw [List.length_map]; exact Nat.le_trans h (by decide)),Option.map_some,List.length_map]
theorem zip_eq {ns:List Nat} {r:List Int}:(((ns.map V.str).zip (intsV r)).map fun (x:V × V)=>V.tup [x.1,x.2]) = (ns.zip r).map fun p=>V.tup [.str p.1,.int p.2]:=by
 rw [List.zip_map,List.map_map]; rfl
theorem w_app {k:Out→Prop} {acc:List Env} {j:Nat} {r:List Int} {x11:Option V} (o:OkW d W D e) (hk:D.ns.length≤3) (hr:r.length = D.ns.length) (hg:σ[j]? = some (.list (acc.map V.dict))) (hz:acc.length≤28000)
  (z:k (.next (wEnv told e2 wi fnd D (some (.loc j)) (some (.dict e)) x11 x12 (some (tI r))) (σ.set j (.list ((acc++[wayEx D e r]).map V.dict))))) :
  kS prog T wApp (wEnv told e2 wi fnd D (some (.loc j)) (some (.dict e)) x11 x12 (some (tI r))) σ k:=by
 conv=>whnf
 refine bK_i (con_i rfl hg) ?_
 conv=>whnf
 refine oK_i _ (items_i (Nat.le_trans o.len (by decide))) ?_
 conv=>whnf
 refine bK_i (decide_eq_true (by rw [List.length_map,List.length_map]; exact hr)) ?_
 conv=>whnf
 rw [zip_eq]
 have lz:(D.ns.zip r).length≤3:=by rw [List.length_zip,hr,Nat.min_self]; exact hk
 refine loopMapS (α:=Nat × Int) (fun p=>V.tup [.str p.1,.int p.2]) (fun p=>V.tup [.str p.1,.list [.int p.2]]) (cap3 lz) rfl (fun p hp=>⟨_,rfl,fun ds kk b zz=>bK_i (le1 b) zz⟩) ?_
 conv=>whnf
 have e3:((D.ns.zip r).map fun p=>V.tup [.str p.1,.list [.int p.2]]) = prsL ((D.ns.zip r).map fun p=>(p.1,.list [.int p.2])):=by delta prsL; rw [List.map_map]; rfl
 have lz2:e.length + ((D.ns.zip r).map fun p=>(p.1,V.list [.int p.2])).length≤capL:=by rw [List.length_map]; exact Nat.le_trans (Nat.add_le_add o.len lz) (by decide)
 rw [e3]
 refine oK_i _ (addl_i (by rw [its_len]; exact lz2)) ?_
 conv=>whnf
 refine oK_i _ (dict_i o.dk lz2) ?_
 conv=>whnf
 refine oK_i _ (app_i hg (by rw [List.length_append,List.length_map]; exact Nat.le_trans (Nat.add_le_add_right hz 1) (by decide))) ?_
 rw [List.map_append] at z
 exact z
theorem w_rall {k:Out→Prop} {j:Nat} {TT:Option V} (o:OkW d W D e) (hk:D.ns.length≤3) (rest:List (List Int)):∀ (acc:List Env) (σ:St) (x13:Option V),(∀ r∈rest,r.length = D.ns.length)→σ[j]? = some (.list (acc.map V.dict))→acc.length + (rest.filter (okR D.ap)).length≤28000 →
  (∀ x13,k (.next (wEnv told e2 wi fnd D (some (.loc j)) (some (.dict e)) TT x12 x13) (σ.set j (.list ((acc++(rest.filter (okR D.ap)).map (wayEx D e)).map V.dict))))) →
  kLoopS (stillB none []) (fun v ρ=>bindTg ρ (.one 13) v) (fun ρ σ k=>kSs prog T [.ite (.or [(.not (.var 5)),(.cmp .eq (.bi .lenSet [(.var 13)]) (.bi .len [(.var 13)]))]) [wApp] []] ρ σ k) (rest.map tI) (wEnv told e2 wi fnd D (some (.loc j)) (some (.dict e)) TT x12 x13) σ k:=by
 induction rest with
 | nil =>
  intro acc σ x13 _ ha _ z
  have z:=z x13
  rw [List.filter_nil,List.map_nil,List.append_nil,set_same ha] at z
  exact bK_i rfl z
 | cons r rest ih =>
  intro acc σ x13 h ha hz z
  have hr:=h r (List.mem_cons_self ..)
  have hr3:r.length≤1000:=by rw [hr]; exact Nat.le_trans hk (by decide)
  have h':∀ q∈rest,q.length = D.ns.length:=fun q m=>h q (List.mem_cons_of_mem _ m)
  refine bK_i rfl (oK_i _ rfl ?_)
  have yes:okR D.ap r = true→kS prog T wApp (wEnv told e2 wi fnd D (some (.loc j)) (some (.dict e)) TT x12 (some (tI r))) σ (fun o=>match o with | .next ρ σ=>kLoopS (stillB none []) (fun v ρ=>bindTg ρ (.one 13) v) (fun ρ σ k=>kSs prog T [.ite (.or [(.not (.var 5)),(.cmp .eq (.bi .lenSet [(.var 13)]) (.bi .len [(.var 13)]))]) [wApp] []] ρ σ k) (rest.map tI) ρ σ k | .ret v σ=>k (.ret v σ)):=fun ho=>by
   rw [List.filter_cons_of_pos ho,List.length_cons,← Nat.add_assoc,Nat.add_right_comm] at hz
   refine w_app o hk hr ha (Nat.le_trans (Nat.le_succ _) (Nat.le_trans (Nat.le_add_right ..) hz)) ?_
   refine ih (acc++[wayEx D e r]) _ _ h' (set_get (get_lt ha)) (by rw [List.length_append]; exact hz) fun y13=>?_
   have z:=z y13
   rw [List.filter_cons_of_pos ho] at z
   rw [List.set_set,List.append_assoc]
   exact z
  have no:okR D.ap r = false→kLoopS (stillB none []) (fun v ρ=>bindTg ρ (.one 13) v) (fun ρ σ k=>kSs prog T [.ite (.or [(.not (.var 5)),(.cmp .eq (.bi .lenSet [(.var 13)]) (.bi .len [(.var 13)]))]) [wApp] []] ρ σ k) (rest.map tI) (wEnv told e2 wi fnd D (some (.loc j)) (some (.dict e)) TT x12 (some (tI r))) σ k:=fun ho=>by
   rw [List.filter_cons_of_neg (by rw [ho]; exact Bool.false_ne_true)] at hz z
   exact ih acc σ _ h' ha hz z
  cases hap:D.ap with
  | false =>
   refine iK_t (b:=!D.ap) (by rw [hap]; rfl) ?_
   exact yes (by rw [hap]; rfl)
  | true =>
   have eo:okR D.ap r = decide (uniq r = r.length):=by rw [hap]; rfl
   refine iK_f (b:=!D.ap) (by rw [hap]; rfl) ?_
   refine oK_i _ (lset_i hr3) ?_
   refine oK_i _ (lent_i hr3) ?_
   have e4:decide ((uniq r:Int) = (r.length:Int)) = okR D.ap r:=eo ▸ decide_eq_decide.mpr Int.ofNat_inj
   cases ho:okR D.ap r with
   | true =>
    refine iK_t (b:=decide ((uniq r:Int) = (r.length:Int))) (e4.trans ho) ?_
    exact yes ho
   | false =>
    refine iK_f (b:=decide ((uniq r:Int) = (r.length:Int))) (e4.trans ho) ?_
    exact no ho
theorem w_row {k:Out→Prop} {acc:List Env} {j:Nat} (o:OkW d W D e) (hk:D.ns.length≤3) (ha:σ[j]? = some (.list (acc.map V.dict))) (hz:acc.length≤27000)
  (z:∀ x13,k (.next (wEnv told e2 wi fnd D (some (.loc j)) (some (.dict e)) (some (.list ((tups (D.dm e) D.ns.length).map tI))) x12 x13) (σ.set j (.list ((acc++wayOne D e).map V.dict))))) :
  kS prog T wRow (wEnv told e2 wi fnd D (some (.loc j)) (some (.dict e)) (some (.list ((tups (D.dm e) D.ns.length).map tI))) x12 x13) σ k :=
 w_rall o hk _ acc σ x13 tups_len ha (by
  have w:=way_len (D:=D) (e:=e) o.at1.len hk
  unfold wayOne at w
  rw [List.length_map] at w
  exact Nat.le_trans (Nat.add_le_add hz w) (by decide)) z
end
end P3
end Mine.Internal
namespace Mine.Internal
namespace P3
section
variable {W:Wl} {d n wi:Nat} {T:TabK} {e1 e2 e:Env} {D:D5} {Ds:List D5} {L:List Env} {σ:St} {fnd told body:V} {late x10 x11 x12 x13:Option V} {ts:List T3} {w:Nat}
noncomputable def wFor:S:=.for_ (.one 10) (.val (.var 3)) [.asg (.name 11) (.list [(.tup [])]),wLab,wRow]
theorem w_all {k:Out→Prop} (hk:D.ns.length≤3) (wa:WAt W σ wi) (fa:FA σ fnd (L.map V.dict)) (rest:List Env):∀ (acc:List Env) (σ':St) (x:Nat→Option V),(∀ e∈rest,MnT T W wi D.dom e (.list (intsV (D.dm e)))∧OkW d W D e)→σ <+: σ'→σ'[σ.length]? = some (.list (acc.map V.dict))→acc.length + rest.length * 27≤27000 →
  (∀ (x:Nat→Option V) σ',σ <+: σ'→σ'[σ.length]? = some (.list ((acc++rest.flatMap (wayOne D)).map V.dict))→k (.next (wEnv told e2 wi fnd D (some (.loc σ.length)) (x 10) (x 11) (x 12) (x 13)) σ')) →
  kLoopS (stillB (locOf fnd) (L.map V.dict)) (fun v ρ=>bindTg ρ (.one 10) v) (fun ρ σ k=>kSs prog T [.asg (.name 11) (.list [(.tup [])]),wLab,wRow] ρ σ k) (rest.map V.dict) (wEnv told e2 wi fnd D (some (.loc σ.length)) (x 10) (x 11) (x 12) (x 13)) σ' k:=by
 induction rest with
 | nil=>exact fun acc σ' x _ p ha _ z=>bK_i (fa.pre p).still (z x σ' p ((List.append_nil acc).symm ▸ ha))
 | cons e rest ih =>
  intro acc σ' x h p ha hz z
  have o:=h e (List.mem_cons_self ..)
  rw [List.length_cons,Nat.succ_mul] at hz
  refine bK_i (fa.pre p).still (oK_i _ rfl ?_)
  refine w_lab (told:=told) (e2:=e2) (fnd:=fnd) (late:=some (.loc σ.length)) (x12:=x 12) (x13:=x 13) o.1 o.2 hk (wa.pre p) fun z12 σ1 p1=>?_
  refine w_row (told:=told) (e2:=e2) (wi:=wi) (fnd:=fnd) (x12:=z12) (x13:=x 13) o.2 hk (pre_get p1 ha) (Nat.le_trans (Nat.le_add_right ..) hz) fun z13=>?_
  refine ih (acc++wayOne D e) _ (fun i=>([none,none,none,none,none,none,none,none,none,none,some (.dict e),some (.list ((tups (D.dm e) D.ns.length).map tI)),z12,z13]:REnv).getD i none) (fun q m=>h q (List.mem_cons_of_mem _ m)) (pre_set (p.trans p1) (Nat.le_refl _)) (set_get (get_lt (pre_get p1 ha))) ?_ fun x' σ2 p2 h2=>z x' σ2 p2 ?_
  ·rw [List.length_append,Nat.add_assoc]
   exact Nat.le_trans (Nat.add_le_add_left (Nat.add_comm 27 _ ▸ Nat.add_le_add_right (way_len o.2.at1.len hk) _) _) hz
  ·rw [List.append_assoc,← List.flatMap_cons] at h2; exact h2
theorem w_for {k:Out→Prop} (h81:∀ e∈L,MnT T W wi D.dom e (.list (intsV (D.dm e)))) (ok:∀ e∈L,OkW d W D e) (hk:D.ns.length≤3) (hL:L.length≤1000) (wa:WAt W σ wi) (fa:FA σ fnd (L.map V.dict)) (x:Nat→Option V)
  (z:∀ (x:Nat→Option V) σ',σ <+: σ'→σ'[σ.length]? = some (.list ((wayStep D L).map V.dict))→k (.next (wEnv told e2 wi fnd D (some (.loc σ.length)) (x 10) (x 11) (x 12) (x 13)) σ')) :
  kS prog T wFor (wEnv told e2 wi fnd D (some (.loc σ.length)) (x 10) (x 11) (x 12) (x 13)) (σ++[.list []]) k :=
 oK_i _ (fa.pre (List.prefix_append σ [SObj.list []])).src (w_all (d:=d) hk wa fa L [] _ x (fun e m=>⟨h81 e m,ok e m⟩) (List.prefix_append ..) at_last (by rw [List.length_nil,Nat.zero_add]; exact Nat.mul_le_mul_right 27 hL) z)
noncomputable def WyT (T:TabK) (W:Wl) (wi:Nat) (told:V) (e2:Env) (Fin:List Env):Prop:=∀ (σ:St) (K:V→St→Prop),WAt W σ wi→(∀ σ' v,σ <+: σ'→FA σ' v (Fin.map V.dict)→K v σ')→T.call 80 [told,.dict e2,.loc wi] σ K
noncomputable def Wy (d:Nat) (W:Wl) (told:V) (e2:Env) (Fin:List Env):Prop:=∀ n,d≤n→∀ wi,WyT ⟨callK prog n⟩ W wi told e2 Fin
noncomputable def toldN (Ds:List D5):V:=.tup (Ds.map D5.v)
theorem wy_all {k:Out→Prop} (hM:∀ nd e v,Mn d W nd e v→MnT T W wi nd e v) (Ds:List D5):∀ (L:List Env) (fnd:V) (σ:St) (x:Nat→Option V),WAt W σ wi→FA σ fnd (L.map V.dict)→GdW d W Ds L→(∀ (x:Nat→Option V) σ' v,σ <+: σ'→FA σ' v ((wayRun Ds L).map V.dict)→k (.next [some told,some (.dict e2),some (.loc wi),some v,x 4,x 5,x 6,x 7,x 8,x 9,x 10,x 11,x 12,x 13,none,none,none,none] σ')) →
  kLoopS (stillB none []) (fun v ρ=>bindTg ρ (.many [4,5,6,7,8]) v) (fun ρ σ k=>kSs prog T [.asg (.name 9) (.mut (.list [])),wFor,.asg (.name 3) (.var 9)] ρ σ k) (Ds.map D5.v) [some told,some (.dict e2),some (.loc wi),some fnd,x 4,x 5,x 6,x 7,x 8,x 9,x 10,x 11,x 12,x 13,none,none,none,none] σ k:=by
 induction Ds with
 | nil=>exact fun L fnd σ x _ fa _ z=>bK_i rfl (z x σ fnd (List.prefix_refl σ) fa)
 | cons D Ds ih =>
  intro L fnd σ x wa fa g z
  obtain ⟨ok,hk,hL,g'⟩:=g
  exact bK_i rfl (oK_i _ rfl (w_for (d:=d) (D:=D) (L:=L) (σ:=σ) (told:=told) (e2:=e2) (W:=W) (wi:=wi) (fnd:=fnd) (fun q m=>hM _ _ _ (ok q m).mn) ok hk hL wa fa x fun y σ1 p1 h1 =>
  ih (wayStep D L) (.loc σ.length) σ1 (fun i=>([none,none,none,none,some (.int 0),some (.bool D.ap),some (.tup (D.ns.map V.str)),some D.mk',some D.dom,some (.loc σ.length),y 10,y 11,y 12,y 13]:REnv).getD i none) (wa.pre p1) (.inr ⟨_,rfl,h1⟩) g' fun x' σ2 v p2 f2=>z x' σ2 v (p1.trans p2) f2))
theorem wy_x {K:V→St→Prop} (hM:∀ nd e v,Mn d W nd e v→MnT T W wi nd e v) (g:GdW d W Ds [e2]) (wa:WAt W σ wi) (z:∀ σ' v,σ <+: σ'→FA σ' v ((wayRun Ds [e2]).map V.dict)→K v σ') :
  kSs prog T f_law_ways.body (enter f_law_ways [toldN Ds,.dict e2,.loc wi]) σ (outK K):=wy_all (told:=toldN Ds) (e2:=e2) hM Ds [e2] (.list [.dict e2]) σ (fun _=>none) wa (.inl rfl) g fun x σ' v p f=>z σ' v p f
theorem wy_ok (g:GdW d W Ds [e2]):Wy (d + 1) W (toldN Ds) e2 (wayRun Ds [e2]):=fun n hn wi σ K wa z =>
 call_i (d:=f_law_ways) (up1 hn) rfl rfl (wy_x (fun r e v h=>h (n - 1) (dn1 hn) wi) g wa z)
noncomputable def quant (w:Nat) (bs:List Bool):Bool:=if w = cAll then bs.all id else many w (bs.filter id).length
theorem cnt_i:∀ (bs:List Bool) (n:Nat),cntB (bs.map V.bool) n = some (n + (bs.filter id).length)
 | [],n=>rfl
 | true :: bs,n=>(cnt_i bs (n + 1)).trans (congrArg some (by rw [List.filter_cons_of_pos rfl,List.length_cons,Nat.add_assoc,Nat.add_comm 1]))
 | false :: bs,n=>(cnt_i bs n).trans (congrArg some (by rw [List.filter_cons_of_neg Bool.false_ne_true]))
noncomputable abbrev quV (w:Nat) (told body:V):V:=.tup [.str 2205081783335414972318482549,.int 0,.str w,told,body]
noncomputable def QnT (T:TabK) (W:Wl) (wi w:Nat) (told body:V) (e2:Env) (b:Bool):Prop:=∀ (σ:St) (K:V→St→Prop),WAt W σ wi→(∀ σ',σ <+: σ'→K (.bool b) σ')→T.call 82 [.str w,told,body,.dict e2,.loc wi] σ K
noncomputable def Qn (d:Nat) (W:Wl) (w:Nat) (told body:V) (e2:Env) (b:Bool):Prop:=∀ n,d≤n→∀ wi,QnT ⟨callK prog n⟩ W wi w told body e2 b
theorem qn_x {α:Type} {Ls:List α} {c:α→Env} {K:V→St→Prop} {bm:α→Bool} (hw:w∈cAll :: words) (hy:WyT T W wi told e2 (Ls.map c)) (hb:∀ a∈Ls,MnT T W wi body (c a) (.bool (bm a))) (h79:∀ (m:Nat) σ K,w∈words→K (.bool (many w m)) σ→T.call 79 [.str w,.int m] σ K) (hL:Ls.length≤capL) (wa:WAt W σ wi)
  (z:∀ σ',σ <+: σ'→K (.bool (quant w (Ls.map bm))) σ'):kSs prog T f_law_quantified.body (enter f_law_quantified [.str w,told,body,.dict e2,.loc wi]) σ (outK K):=by
 conv=>whnf
 refine hy σ _ wa fun σ1 v p1 fa=>?_
 rw [List.map_map] at fa
 conv=>whnf
 refine oK_i _ fa.src ?_
 refine loopMap (α:=α) (V.dict ∘ c) (fun e=>.bool (bm e)) (σ1 <+: ·) hL (List.prefix_refl σ1) (fun σ' p=>(fa.pre p).still) (fun e he=>⟨_,rfl,fun σ2 ds kk i q zz=>?_⟩) fun σ2 p2=>?_
 ·conv=>whnf
  refine hb e he σ2 _ (wa.pre (p1.trans i)) fun σ3 p3=>?_
  exact bK_i (le1 q) (zz σ3 (i.trans p3))
 ·have zz:=z σ2 (p1.trans p2)
  have em:(Ls.map fun e=>V.bool (bm e)) = (Ls.map bm).map V.bool:=by rw [List.map_map]; rfl
  rw [em]
  unfold quant at zz
  by_cases hq:w = cAll
  ·rw [if_pos hq] at zz
   refine iK_t (b:=decide (w = cAll)) (decide_eq_true hq) ?_
   exact oK_i _ (no_false _) zz
  ·rw [if_neg hq] at zz
   refine iK_f (b:=decide (w = cAll)) (decide_eq_false hq) ?_
   refine oK_i _ (cnt_i _ 0) ?_
   rw [Nat.zero_add]
   exact h79 _ _ _ ((List.mem_cons.mp hw).resolve_left hq) zz
theorem qn_ok {α:Type} {Ls:List α} {c:α→Env} {bm:α→Bool} (hw:w∈cAll :: words) (hy:Wy (d + 1) W told e2 (Ls.map c)) (hb:∀ a∈Ls,Mn (d + 1) W body (c a) (.bool (bm a))) (hL:Ls.length≤capL):Qn (d + 2) W w told body e2 (quant w (Ls.map bm)):=fun n hn wi σ K wa z =>
 call_i (d:=f_law_quantified) (up1 hn) rfl rfl (qn_x hw (hy (n - 1) (dn1 hn) wi) (fun e m=>hb e m (n - 1) (dn1 hn) wi) (fun m σ K hw hk=>many_ok (up1 (dn1 hn)) hw hk) hL wa z)
theorem mn_qu {b:Bool} (h:Qn d W w told body e2 b):Mn (d + 1) W (quV w told body) e2 (.bool b):=Mn.of fun n hn wi σ K wa z=>by
 have h:=h n hn wi
 generalize TabK.mk (callK prog n) = T at h ⊢
 conv=>whnf
 exact h σ _ wa z
theorem mn_let {k:Nat} {nd:V} {v u:V} (h1:Mn d W nd e2 v) (hd:Dk e2) (hl:e2.length≤1000) (h2:Mn d W body (dset (.str k) v e2) u):Mn (d + 1) W (letV k nd body) e2 u:=Mn.of fun n hn wi σ K wa z=>by
 have h1:=h1 n hn wi
 have h2:=h2 n hn wi
 generalize TabK.mk (callK prog n) = T at h1 h2 ⊢
 conv=>whnf
 refine oK_i _ (items_i (Nat.le_trans hl (by decide))) ?_
 conv=>whnf
 refine h1 σ _ wa fun σ1 p1=>?_
 conv=>whnf
 refine oK_i _ (addl_i (b:=prsL [(k,v)]) (by rw [its_len]; exact Nat.le_trans (Nat.add_le_add_right hl 1) (by decide))) ?_
 conv=>whnf
 refine oK_i _ (dict_i (ps:=[(k,v)]) hd (Nat.le_trans (Nat.add_le_add_right hl 1) (by decide))) ?_
 exact h2 σ1 _ (wa.pre p1) fun σ2 p2=>z σ2 (p1.trans p2)
noncomputable abbrev toldF (ts:List T3):V:=.tup (ts.map tV)
theorem ho_fa {α:Type} {Fin:List α} {c:α→Q2} {h:Nat} {bm:α→Bool} (hh:h = cAll ∨ h = 4137613899626305218353401740394612) (hc:Ch d W told e1 (Fin.map c)) (hb:∀ q∈Fin,Ho d W body (c q).2 (bm q)) (hL:Fin.length≤capL) :
  Ho (d + 1) W (f2V h told body) e1 (if h = cAll then Fin.all bm else Fin.any bm):=Ho.of fun n hn σ K z=>by
 have hc:=hc n hn
 have hb:=fun q m=>hb q m n hn
 generalize TabK.mk (callK prog n) = T at hc hb ⊢
 have em:(Fin.map fun q=>V.bool (bm q)) = (Fin.map bm).map V.bool:=by rw [List.map_map]; rfl
 have go:∀ (k:List V→St→Prop),(∀ σ',σ <+: σ'→k ((Fin.map bm).map V.bool) σ')→kC prog T (.gen (.many [7,8]) (.val (.call 84 [(.item (.var 0) (.cst (.int 1))),(.var 1),(.var 2)])) [] (.elt (.call 85 [(.item (.var 0) (.cst (.int 2))),(.var 8),(.var 2)]))) [] [some (f2V h told body),some (.dict e1),some (setsV W),some (.str h),none,none,none,none,none,none,none] σ k:=fun k zk=>by
  conv=>whnf
  refine hc σ _ fun σ1 v p1 fa=>?_
  rw [List.map_map] at fa
  conv=>whnf
  refine oK_i _ fa.src ?_
  refine loopMap (α:=α) (qV ∘ c) (fun q=>.bool (bm q)) (σ1 <+: ·) hL (List.prefix_refl σ1) (fun σ' p=>(fa.pre p).still) (fun q hq=>⟨_,rfl,fun σ2 ds kk i b zz=>?_⟩) fun σ2 p2=>?_
  ·conv=>whnf
   refine hb q hq σ2 _ fun σ3 p3=>?_
   exact bK_i (le1 b) (zz σ3 (i.trans p3))
  ·rw [em]; exact zk σ2 (p1.trans p2)
 rcases hh with rfl | rfl
 ·refine go _ fun σ' p=>?_
  have w:=no_false (Fin.map bm)
  rw [List.all_map] at w
  exact oK_i _ w (z σ' p)
 ·refine go _ fun σ' p=>?_
  have w:=is_true (Fin.map bm)
  rw [List.any_map] at w
  exact oK_i _ w (z σ' p)
theorem rw_comp {α:Type} {Fin:List α} {c:α→Q2} {bm:α→Bool} (hc:Ch d W told e1 (Fin.map c)) (hb:∀ q∈Fin,Ho d W body (c q).2 (bm q)) (hL:Fin.length≤capL) :
  Rw (d + 1) W (f2V 922337696266917511281 told body) e1 (.list ((Fin.filter bm).map fun q=>V.tup (c q).1)):=Rw.of fun n hn σ K z=>by
 have hc:=hc n hn
 have hb:=fun q m=>hb q m n hn
 generalize TabK.mk (callK prog n) = T at hc hb ⊢
 conv=>whnf
 refine hc σ _ fun σ1 v p1 fa=>?_
 rw [List.map_map] at fa
 conv=>whnf
 refine oK_i _ fa.src ?_
 refine loopSel (α:=α) (qV ∘ c) (fun q=>.tup (c q).1) bm (σ1 <+: ·) hL (List.prefix_refl σ1) (fun σ' p=>(fa.pre p).still) (fun q hq=>⟨_,rfl,fun σ2 ds kk i b zz=>?_⟩) fun σ2 p2=>z σ2 (p1.trans p2)
 conv=>whnf
 refine hb q hq σ2 _ fun σ3 p3=>?_
 exact cond_i b (zz σ3 (i.trans p3))
end
end P3
end Mine.Internal
namespace Mine.Internal
namespace P3
theorem fl_fl {α β γ:Type} {f:α→List β} {g:β→List γ}:∀ l:List α,(l.flatMap f).flatMap g = l.flatMap fun a=>(f a).flatMap g
 | []=>rfl
 | a :: l=>by rw [List.flatMap_cons,List.flatMap_append,fl_fl l,List.flatMap_cons]
theorem fl_map {α β γ:Type} {f:α→β} {g:β→List γ}:∀ l:List α,(l.map f).flatMap g = l.flatMap fun a=>g (f a)
 | []=>rfl
 | a :: l=>by rw [List.map_cons,List.flatMap_cons,List.flatMap_cons,fl_map l]
theorem map_fl {α β γ:Type} {f:α→List β} {g:β→γ}:∀ l:List α,(l.flatMap f).map g = l.flatMap fun a=>(f a).map g
 | []=>rfl
 | a :: l=>by rw [List.flatMap_cons,List.map_append,List.flatMap_cons,map_fl l]
theorem fl_congr {α β:Type} {f g:α→List β}:∀ {l:List α},(∀ a∈l,f a = g a)→l.flatMap f = l.flatMap g
 | [],_=>rfl
 | a :: l,h=>by rw [List.flatMap_cons,List.flatMap_cons,h a (List.mem_cons_self ..),fl_congr fun b m=>h b (List.mem_cons_of_mem _ m)]
theorem fl_one {α β:Type} {f:α→List β} (a:α):[a].flatMap f = f a:=List.append_nil _
noncomputable def tupA (l:List Int):Nat→List (List Int)
 | 0=>[[]]
 | k + 1=>l.flatMap fun a=>(tupA l k).map (a :: ·)
theorem one_mapL:∀ l:List Int,(l.flatMap fun a=>[[a]]) = l.map fun a=>[]++[a]
 | []=>rfl
 | a :: l=>(congrArg ([a] :: ·) (one_mapL l):[a] :: l.flatMap (fun a=>[[a]]) = [a] :: l.map fun a=>[]++[a])
theorem tupA_snoc (l:List Int):∀ k,tupA l (k + 1) = (tupA l k).flatMap fun r=>l.map fun a=>r++[a]
 | 0=>by
  show (l.flatMap fun a=>[[a]]) = [[]].flatMap _
  rw [fl_one]
  exact one_mapL l
 | k + 1=>by
  show (l.flatMap fun a=>(tupA l (k + 1)).map (a :: ·)) = (l.flatMap fun a=>(tupA l k).map (a :: ·)).flatMap _
  rw [fl_fl]
  refine fl_congr fun a _=>?_
  rw [tupA_snoc l k,map_fl,fl_map]
  refine fl_congr fun r _=>?_
  rw [List.map_map]; rfl
theorem tups_A (l:List Int):∀ k,tups l k = tupA l k
 | 0=>rfl
 | k + 1=>by rw [tupA_snoc,← tups_A l k]; rfl
theorem chRun_fl:∀ (ts:List T3) (L:List Q2),chRun ts L = L.flatMap fun q=>chRun ts [q]
 | [],L=>by
  show L = L.flatMap fun q=>[q]
  induction L with
  | nil=>rfl
  | cons a l ih=>rw [List.flatMap_cons,← ih]; rfl
 | t :: ts,L=>by
  show chRun ts (chStep t L) = L.flatMap fun q=>chRun ts (chStep t [q])
  rw [chRun_fl ts (chStep t L),chStep,fl_fl]
  refine fl_congr fun q _=>?_
  rw [chRun_fl ts (chStep t [q]),chStep,fl_one]
theorem chRun_app:∀ (ts us:List T3) (L:List Q2),chRun (ts++us) L = chRun us (chRun ts L)
 | [],_,_=>rfl
 | t :: ts,us,L=>chRun_app ts us (chStep t L)
theorem GdC.app {d:Nat} {W:Wl}:∀ {ts us:List T3} {L:List Q2},GdC d W ts L→GdC d W us (chRun ts L)→GdC d W (ts++us) L
 | [],_,_,_,h=>h
 | t :: ts,us,L,g,h=>⟨g.1,g.2.1,GdC.app g.2.2 h⟩
structure LD where
 D:D5
 labs:List Nat
 X:V
 dm:Env→List Int
noncomputable def LD.ts (l:LD):List T3:=l.labs.map fun s=>(s,l.X,l.dm)
structure Qd where
 row:List V
 e1:Env
 e2:Env
 ok:Bool
noncomputable def Qd.c (q:Qd):Q2:=(q.row,q.e1)
noncomputable def exF (labs:List Nat) (e:Env) (r:List Int):Env:=ext e ((labs.zip r).map fun p=>(p.1,row1 p.2))
noncomputable def qRow (l:LD) (q:Qd) (r:List Int):Qd:=⟨q.row++intsV r,exF l.labs q.e1 r,wayEx l.D q.e2 r,q.ok && okR l.D.ap r⟩
noncomputable def qOne (l:LD) (q:Qd):List Qd:=(tupA (l.dm q.e1) l.labs.length).map (qRow l q)
noncomputable def qRun:List LD→List Qd→List Qd
 | [],L=>L
 | l :: ls,L=>qRun ls (L.flatMap (qOne l))
theorem ch_labs {X:V} {dm:Env→List Int}:∀ (labs:List Nat) (row:List V) (e1:Env),(∀ s∈labs,∀ v e,dm (dset (.str s) v e) = dm e) →
  chRun (labs.map fun s=>(s,X,dm)) [(row,e1)] = (tupA (dm e1) labs.length).map fun r=>(row++intsV r,exF labs e1 r)
 | [],row,e1,_=>by
  show [(row,e1)] = [(row++[],e1)]
  rw [List.append_nil]
 | s :: labs,row,e1,h=>by
  show chRun (labs.map fun s=>(s,X,dm)) (chStep (s,X,dm) [(row,e1)]) = List.map _ (List.flatMap _ _)
  rw [chRun_fl,chStep,fl_one,chOne,fl_map,map_fl]
  refine fl_congr fun a _=>?_
  rw [ch_labs labs _ _ fun s m=>h s (List.mem_cons_of_mem _ m),h s (List.mem_cons_self ..),List.map_map]
  refine List.map_congr_left fun r _=>?_
  show (row++[V.int a]++intsV r,_) = (row++(V.int a :: intsV r),_)
  rw [List.append_assoc]; rfl
theorem ch_one {l:LD} {L:List Qd} (h:∀ s∈l.labs,∀ v e,l.dm (dset (.str s) v e) = l.dm e):chRun l.ts (L.map Qd.c) = (L.flatMap (qOne l)).map Qd.c:=by
 rw [chRun_fl,fl_map,map_fl]
 refine fl_congr fun q _=>?_
 rw [qOne,List.map_map]
 exact ch_labs l.labs q.row q.e1 h
theorem flt_fl {α β:Type} {f:α→List β} {p:β→Bool}:∀ l:List α,(l.flatMap f).filter p = l.flatMap fun a=>(f a).filter p
 | []=>rfl
 | a :: l=>by rw [List.flatMap_cons,List.filter_append,List.flatMap_cons,flt_fl l]
theorem way_one {l:LD} {L:List Qd} (hl:l.labs.length = l.D.ns.length) (h:∀ q∈L,l.dm q.e1 = l.D.dm q.e2):wayStep l.D ((L.filter (·.ok)).map (·.e2)) = ((L.flatMap (qOne l)).filter (·.ok)).map (·.e2):=by
 rw [wayStep,fl_map,flt_fl,map_fl]
 induction L with
 | nil=>rfl
 | cons q L ih =>
  have ih:=ih fun q m=>h q (List.mem_cons_of_mem _ m)
  have e:((qOne l q).filter (·.ok)).map (·.e2) = if q.ok = true then wayOne l.D q.e2 else []:=by
   delta qOne wayOne
   rw [List.filter_map,List.map_map,hl,h q (List.mem_cons_self ..),← tups_A]
   cases ho:q.ok with
   | true=>rw [if_pos rfl]; refine congrArg (List.map (wayEx l.D q.e2)) (congrArg (List.filter · _) (funext fun r=>?_)); show (q.ok && okR l.D.ap r) = _; rw [ho]; rfl
   | false =>
    rw [if_neg Bool.false_ne_true]
    rw [List.filter_eq_nil_iff.mpr fun r _=>by show ¬ (q.ok && okR l.D.ap r) = true; rw [ho]; exact Bool.false_ne_true]; rfl
  rw [List.flatMap_cons,e]
  cases ho:q.ok with
  | true=>rw [List.filter_cons_of_pos ho,List.flatMap_cons,if_pos rfl,ih]
  | false=>rw [List.filter_cons_of_neg (by rw [ho]; exact Bool.false_ne_true),if_neg Bool.false_ne_true,ih]; rfl
end P3
end Mine.Internal
namespace Mine.Internal
namespace P3
noncomputable abbrev Gam:=Nat→Option Nat
noncomputable def setG (Γ:Gam) (k l:Nat):Gam:=fun j=>if j = k then some l else Γ j
noncomputable def exG (Γ:Gam) (ps:List (Nat × Nat)):Gam:=ps.foldl (fun Γ p=>setG Γ p.1 p.2) Γ
noncomputable abbrev atoms:List Int:=[0,1,2]
noncomputable abbrev sigs:List Nat:=[66,67,103]
structure Pr (n:Nat) (Γ:Gam) (e1 e2:Env):Prop where
 d1:Dk e1
 d2:Dk e2
 l1:e1.length≤n
 l2:e2.length≤n
 ep:∀ k l,Γ k = some l→∃ a∈atoms,dget (.str l) e1 = some (row1 a)∧dget (.str k) e2 = some (.list [.int a])
 no:∀ s∈sigs,dget (.str s) e2 = none
section
variable {n k l:Nat} {Γ:Gam} {e e1 e2:Env} {a:Int} {v:V}
theorem dget_same:dget (.str l) (dset (.str l) v e) = some v:=dget_dset.trans (if_pos rfl)
theorem dget_ne (h:k ≠ l):dget (.str k) (dset (.str l) v e) = dget (.str k) e:=dget_dset.trans (if_neg h)
theorem Pr.step (h:Pr n Γ e1 e2) (hk:k ∉ sigs) (hl:∀ j,Γ j ≠ some l) (ha:a∈atoms):Pr (n + 1) (setG Γ k l) (dset (.str l) (row1 a) e1) (dset (.str k) (.list [.int a]) e2) :=
 ⟨h.d1.set _ _,h.d2.set _ _,Nat.le_trans dset_len (Nat.succ_le_succ h.l1),Nat.le_trans dset_len (Nat.succ_le_succ h.l2),fun j l' e=>by
  delta setG at e
  by_cases hj:j = k
  ·rw [if_pos hj] at e
   cases Option.some.inj e
   exact ⟨a,ha,dget_same,hj ▸ dget_same⟩
  ·rw [if_neg hj] at e
   obtain ⟨b,hb,h1,h2⟩:=h.ep j l' e
   exact ⟨b,hb,(dget_ne (k:=l') (l:=l) fun q=>hl j (q ▸ e)).trans h1,(dget_ne hj).trans h2⟩,fun s hs=>(dget_ne (k:=s) (l:=k) fun q=>hk (q ▸ hs)).trans (h.no s hs)⟩
theorem Pr.row (ns:List Nat):∀ (labs:List Nat) (r:List Int) {n:Nat} {Γ:Gam} {e1 e2:Env},Pr n Γ e1 e2→labs.length = ns.length→r.length = ns.length→(∀ k∈ns,k ∉ sigs)→labs.Nodup→(∀ l∈labs,∀ j,Γ j ≠ some l)→(∀ a∈r,a∈atoms) →
  Pr (n + ns.length) (exG Γ (ns.zip labs)) (exF labs e1 r) (ext e2 ((ns.zip r).map fun p=>(p.1,.list [.int p.2]))):=by
 induction ns with
 | nil =>
  intro labs r n Γ e1 e2 h h1 h2 _ _ _ _
  cases List.length_eq_zero_iff.mp h1
  exact h
 | cons k ns ih =>
  intro labs r n Γ e1 e2 h h1 h2 h3 h4 h5 h6
  cases labs with
  | nil=>cases h1
  | cons l labs =>
   cases r with
   | nil=>cases h2
   | cons a r =>
    have nd:=List.nodup_cons.mp h4
    have w:=ih labs r (h.step (h3 k (List.mem_cons_self ..)) (h5 l (List.mem_cons_self ..)) (h6 a (List.mem_cons_self ..))) (Nat.succ.inj h1) (Nat.succ.inj h2) (fun k m=>h3 k (List.mem_cons_of_mem _ m)) nd.2 (fun l' m j e=>by
     unfold setG at e
     by_cases hj:j = k
     ·rw [if_pos hj] at e; exact nd.1 (Option.some.inj e ▸ m)
     ·rw [if_neg hj] at e; exact h5 l' (List.mem_cons_of_mem _ m) j e) fun a m=>h6 a (List.mem_cons_of_mem _ m)
    rw [List.length_cons,← Nat.add_assoc,Nat.add_right_comm]
    exact w
theorem exG_mem:∀ {ns labs:List Nat} {Γ:Gam} {j l:Nat},exG Γ (ns.zip labs) j = some l→l∈labs ∨ Γ j = some l
 | [],_,_,_,_,h=>.inr h
 | _ :: _,[],_,_,_,h=>.inr h
 | k :: ns,l0 :: labs,Γ,j,l,h=>by
  rcases exG_mem (ns:=ns) (labs:=labs) (Γ:=setG Γ k l0) h with h | h
  ·exact .inl (List.mem_cons_of_mem _ h)
  ·delta setG at h
   by_cases hj:j = k
   ·rw [if_pos hj] at h; exact .inl (Option.some.inj h ▸ List.mem_cons_self ..)
   ·rw [if_neg hj] at h; exact .inr h
theorem dget_exF:∀ {labs:List Nat} {r:List Int} {e:Env} {l:Nat},l ∉ labs→dget (.str l) (exF labs e r) = dget (.str l) e
 | [],_,_,_,_=>rfl
 | _ :: _,[],_,_,_=>rfl
 | l0 :: labs,a :: r,e,l,h=>(dget_exF (labs:=labs) (r:=r) (e:=dset (.str l0) (row1 a) e) fun m=>h (List.mem_cons_of_mem _ m)).trans (dget_ne fun q=>h (q ▸ List.mem_cons_self ..))
noncomputable def bnd (e:Env) (l:Nat):Prop:=∃ a∈atoms,dget (.str l) e = some (row1 a)
noncomputable def atA (e:Env) (l:Nat):Int:=((dget (.str l) e).bind fun v=>(asTup v).bind fun t=>t.head?.bind asInt).getD 0
theorem atA_of (h:dget (.str l) e = some (row1 a)):atA e l = a:=by delta atA; rw [h]; rfl
noncomputable def apB (e:Env) (p:Nat × Nat):Bool:=!decide (atA e p.1 = atA e p.2)
noncomputable abbrev apV (p:Nat × Nat):V:=notV (f2V cSame (varV p.1) (varV p.2))
theorem ho_ap {d:Nat} {W:Wl} {p:Nat × Nat} (h1:bnd e p.1) (h2:bnd e p.2):Ho (d + 3) W (apV p) e (apB e p):=by
 obtain ⟨a,_,h1⟩:=h1
 obtain ⟨b,_,h2⟩:=h2
 have w:=ho_not (ho_same (l:=[a]) (l':=[b]) (rw_var (d:=d) (W:=W) h1) (rw_var h2))
 rw [show decide ([a] = [b]) = decide (a = b) from decide_eq_decide.mpr ⟨fun h=>(List.cons.inj h).1,fun h=>h ▸ rfl⟩] at w
 delta apB
 rw [atA_of h1,atA_of h2]
 exact w
noncomputable def prs (labs:List Nat):List (Nat × Nat):=(List.range labs.length).flatMap fun k=>(labs.take k).map fun o=>(labs.getD k 0,o)
theorem uniq3:(atoms.all fun x=>(uniq [x] == 1) && atoms.all fun y=>((uniq [x,y] == 2) == !decide (y = x)) && atoms.all fun z=>(uniq [x,y,z] == 3) == (!decide (y = x) && (!decide (z = x) && !decide (z = y)))) = true:=by decide +kernel
theorem prs_mem:∀ {labs:List Nat},labs.length≤3→∀ p∈prs labs,p.1∈labs∧p.2∈labs
 | [],_,p,m=>nomatch m
 | [_],_,p,m=>nomatch m
 | [a,b],_,p,m=>by
  cases List.mem_singleton.mp (show p∈[(b,a)] from m)
  exact ⟨List.mem_cons_of_mem _ (List.mem_cons_self ..),List.mem_cons_self ..⟩
 | [a,b,c],_,p,m=>by
  have m:p∈[(b,a),(c,a),(c,b)]:=m
  simp only [List.mem_cons,List.not_mem_nil,or_false] at m
  rcases m with rfl | rfl | rfl <;> simp
 | _ :: _ :: _ :: _ :: _,h,_,_=>absurd h (by simp only [List.length_cons]; (first | lia | omega))
theorem labs_at {labs:List Nat}:∀ {r:List Int} {e:Env} {i l:Nat} {a:Int},labs.Nodup→labs[i]? = some l→r[i]? = some a→dget (.str l) (exF labs e r) = some (row1 a):=by
 induction labs with
 | nil=>intro r e i l a nd h1 h2; cases h1
 | cons l0 labs ih =>
  intro r e i l a nd h1 h2
  have nd:=List.nodup_cons.mp nd
  cases r with
  | nil=>cases h2
  | cons a0 r=>cases i with
   | zero =>
    cases Option.some.inj h1
    cases Option.some.inj h2
    exact (dget_exF (labs:=labs) (r:=r) nd.1).trans dget_same
   | succ i=>exact ih (r:=r) (e:=dset (.str l0) (row1 a0) e) nd.2 h1 h2
theorem bd_eq {a b:Nat}:(a == b) = decide (a = b):=by rw [Bool.eq_iff_iff,beq_iff_eq,decide_eq_true_iff]
theorem prs_ok {labs:List Nat} {r:List Int} (hl:labs.length≤3) (hr:r.length = labs.length) (nd:labs.Nodup) (h:∀ a∈r,a∈atoms):(prs labs).all (apB (exF labs e r)) = decide (uniq r = r.length):=by
 have and_l':∀ {a b:Bool},(a && b) = true→a = true:=fun h=>(Bool.and_eq_true_iff.mp h).1
 have and_r':∀ {a b:Bool},(a && b) = true→b = true:=fun h=>(Bool.and_eq_true_iff.mp h).2
 cases labs with
 | nil=>cases List.length_eq_zero_iff.mp hr; rfl
 | cons a labs =>
 cases r with
 | nil=>cases hr
 | cons x r =>
 have w:=List.all_eq_true.mp uniq3 x (h x (List.mem_cons_self ..))
 cases labs with
 | nil =>
  cases List.length_eq_zero_iff.mp (Nat.succ.inj hr)
  exact (decide_eq_true (eq_of_beq (and_l' w))).symm
 | cons b labs =>
 cases r with
 | nil=>cases hr
 | cons y r =>
 have w:=List.all_eq_true.mp (and_r' w) y (h y (List.mem_cons_of_mem _ (List.mem_cons_self ..)))
 cases labs with
 | nil =>
  cases List.length_eq_zero_iff.mp (Nat.succ.inj (Nat.succ.inj hr))
  show (apB _ (b,a) && true) = decide (uniq [x,y] = 2)
  unfold apB
  rw [atA_of (labs_at (i:=1) (l:=b) (a:=y) nd rfl rfl),atA_of (labs_at (i:=0) (l:=a) (a:=x) nd rfl rfl),Bool.and_true,← eq_of_beq (and_l' w)]
  exact bd_eq
 | cons c labs =>
 cases r with
 | nil=>cases hr
 | cons z r =>
 have w:=List.all_eq_true.mp (and_r' w) z (h z (List.mem_cons_of_mem _ (List.mem_cons_of_mem _ (List.mem_cons_self ..))))
 cases labs with
 | nil =>
  cases List.length_eq_zero_iff.mp (Nat.succ.inj (Nat.succ.inj (Nat.succ.inj hr)))
  show (apB _ (b,a) && (apB _ (c,a) && (apB _ (c,b) && true))) = decide (uniq [x,y,z] = 3)
  unfold apB
  rw [atA_of (labs_at (i:=1) (l:=b) (a:=y) nd rfl rfl),atA_of (labs_at (i:=0) (l:=a) (a:=x) nd rfl rfl),atA_of (labs_at (i:=2) (l:=c) (a:=z) nd rfl rfl),Bool.and_true,← eq_of_beq w]
  exact bd_eq
 | cons d labs=>exact absurd hl (Nat.not_le.mpr (Nat.le_add_left 4 labs.length))
structure Iv (n:Nat) (Γ:Gam) (U:List Nat) (aps:List (Nat × Nat)) (q:Qd):Prop where
 pr:Pr n Γ q.e1 q.e2
 rl:q.row.length≤n
 gu:∀ j l,Γ j = some l→l∈U
 au:∀ p∈aps,(p.1∈U∧p.2∈U)∧(bnd q.e1 p.1∧bnd q.e1 p.2)
 ok:q.ok = aps.all (apB q.e1)
theorem all_congr' {α:Type} {p q:α→Bool}:∀ {l:List α},(∀ a∈l,p a = q a)→l.all p = l.all q
 | [],_=>rfl
 | a :: l,h=>by rw [List.all_cons,List.all_cons,h a (List.mem_cons_self ..),all_congr' fun b m=>h b (List.mem_cons_of_mem _ m)]
theorem Iv.row {U:List Nat} {aps:List (Nat × Nat)} {q:Qd} {ld:LD} {r:List Int} (h:Iv n Γ U aps q) (hl:ld.labs.length = ld.D.ns.length) (h3:ld.D.ns.length≤3) (hn:∀ k∈ld.D.ns,k ∉ sigs) (nd:ld.labs.Nodup) (hf:∀ l∈ld.labs,l ∉ U)
  (hr:r.length = ld.D.ns.length) (ha:∀ a∈r,a∈atoms):Iv (n + ld.D.ns.length) (exG Γ (ld.D.ns.zip ld.labs)) (U++ld.labs) (aps++cond ld.D.ap (prs ld.labs) []) (qRow ld q r):=by
 have keep:∀ {l},l∈U→dget (.str l) (exF ld.labs q.e1 r) = dget (.str l) q.e1:=fun m=>dget_exF fun m2=>hf _ m2 m
 have lb:∀ {l},l∈ld.labs→bnd (exF ld.labs q.e1 r) l:=fun {l} m=>by
  obtain ⟨i,hi⟩:=List.getElem?_of_mem m
  have lt:i < r.length:=by rw [hr,← hl]; exact (List.getElem?_eq_some_iff.mp hi).1
  exact ⟨r[i],ha _ (List.getElem_mem lt),labs_at nd hi (List.getElem?_eq_getElem lt)⟩
 refine ⟨h.pr.row ld.D.ns ld.labs r hl hr hn nd (fun l m j e=>hf l m (h.gu j l e)) ha,?_,fun j l e=>?_,fun p m=>?_,?_⟩
 ·show (q.row++intsV r).length≤_
  rw [List.length_append,List.length_map,hr]
  exact Nat.add_le_add_right h.rl _
 ·exact List.mem_append.mpr ((exG_mem e).elim .inr fun e=>.inl (h.gu j l e))
 ·rcases List.mem_append.mp m with m | m
  ·obtain ⟨⟨u1,u2⟩,b1,b2⟩:=h.au p m
   exact ⟨⟨List.mem_append.mpr (.inl u1),List.mem_append.mpr (.inl u2)⟩,b1.imp fun a w=>⟨w.1,(keep u1).trans w.2⟩,b2.imp fun a w=>⟨w.1,(keep u2).trans w.2⟩⟩
  ·cases hap:ld.D.ap with
   | false=>rw [hap] at m; cases m
   | true =>
    rw [hap] at m
    have w:=prs_mem (hl ▸ h3) p m
    exact ⟨⟨List.mem_append.mpr (.inr w.1),List.mem_append.mpr (.inr w.2)⟩,lb w.1,lb w.2⟩
 ·show (q.ok && okR ld.D.ap r) = _
  rw [List.all_append,h.ok]
  have e1:aps.all (apB (qRow ld q r).e1) = aps.all (apB q.e1):=all_congr' fun p m=>by
   have u:=(h.au p m).1
   show (!decide (atA (exF ld.labs q.e1 r) p.1 = atA (exF ld.labs q.e1 r) p.2)) = (!decide (atA q.e1 p.1 = atA q.e1 p.2))
   delta atA
   rw [keep u.1,keep u.2]
  rw [e1]
  refine congrArg (aps.all (apB q.e1) && ·) ?_
  cases hap:ld.D.ap with
  | false=>rfl
  | true=>exact (prs_ok (e:=q.e1) (hl ▸ h3) (hr.trans hl.symm) nd ha).symm
end
end P3
end Mine.Internal
namespace Mine.Internal
namespace P3
structure Sc where
 n:Nat
 Γ:Gam
 U:List Nat
 aps:List (Nat × Nat)
noncomputable abbrev Sc.iv (S:Sc) (q:Qd):Prop:=Iv S.n S.Γ S.U S.aps q
noncomputable def Sc.add (S:Sc) (l:LD):Sc:=⟨S.n + l.D.ns.length,exG S.Γ (l.D.ns.zip l.labs),S.U++l.labs,S.aps++cond l.D.ap (prs l.labs) []⟩
structure LdOk (d:Nat) (W:Wl) (S:Sc) (l:LD) (Pe:Env→Prop):Prop where
 len:l.labs.length = l.D.ns.length
 le3:l.D.ns.length≤3
 ns:∀ k∈l.D.ns,k ∉ sigs
 nd:l.labs.Nodup
 new:∀ s∈l.labs,s ∉ S.U
 dm:∀ s∈l.labs,∀ v e,l.dm (dset (.str s) v e) = l.dm e
 pe:∀ s∈l.labs,∀ v e,Pe e→Pe (dset (.str s) v e)
 at1:∀ e,At1 (l.dm e)
 rw:∀ e,Pe e→Rw d W l.X e (.list (rows1 (l.dm e)))
 iv:∀ q,S.iv q→Pe q.e1∧(l.D.dm q.e2 = l.dm q.e1∧Mn d W l.D.dom q.e2 (.list (intsV (l.dm q.e1))))
noncomputable def Gl (d:Nat) (W:Wl):List LD→Sc→Prop
 | [],_=>True
 | l :: ls,S=>(∃ Pe,LdOk d W S l Pe)∧Gl d W ls (S.add l)
noncomputable def cnt:List LD→Nat
 | []=>0
 | l :: ls=>l.D.ns.length + cnt ls
noncomputable def runS (ls:List LD) (S:Sc):Sc:=ls.foldl Sc.add S
section
variable {d:Nat} {W:Wl} {S:Sc} {l:LD} {Pe:Env→Prop}
theorem tupA_mem {l:List Int} (h:At1 l) {k:Nat}:∀ r∈tupA l k,r.length = k∧∀ a∈r,a∈atoms:=by
 induction k with
 | zero=>intro r m; cases List.mem_singleton.mp m; exact ⟨rfl,fun _ m=>nomatch m⟩
 | succ k ih =>
  intro r m
  obtain ⟨a,ha,m⟩:=List.mem_flatMap.mp m
  obtain ⟨q,hq,rfl⟩:=List.mem_map.mp m
  have w:=ih q hq
  exact ⟨congrArg (· + 1) w.1,fun b m=>(List.mem_cons.mp m).elim (fun e=>e ▸ h.mem ha) (w.2 b)⟩
theorem gd_labs {X:V} {dm:Env→List Int} (ha:∀ e,At1 (dm e)) (hr:∀ e,Pe e→Rw d W X e (.list (rows1 (dm e)))):∀ (labs:List Nat) (L:List Q2) (m:Nat),(∀ s∈labs,∀ v e,Pe e→Pe (dset (.str s) v e))→(∀ q∈L,Dk q.2∧(q.1.length≤m∧(q.2.length≤m∧Pe q.2))) →
  m + labs.length≤1000→L.length * 3 ^ labs.length≤1000→GdC d W (labs.map fun s=>(s,X,dm)) L
 | [],_,_,_,_,_,_=>trivial
 | s :: labs,L,m,hp,h,hm,hz=>by
  have o:∀ q∈L,OkQ d W (s,X,dm) q:=fun q mq=>have w:=h q mq; ⟨w.1,Nat.le_trans w.2.1 (Nat.le_trans (Nat.le_add_right ..) hm),Nat.le_trans w.2.2.1 (Nat.le_trans (Nat.le_add_right ..) hm),ha _,hr _ w.2.2.2⟩
  have lz:L.length≤1000:=Nat.le_trans (Nat.le_mul_of_pos_right _ (Nat.pow_pos (by decide))) hz
  refine ⟨o,lz,gd_labs ha hr labs _ (m + 1) (fun s m=>hp s (List.mem_cons_of_mem _ m)) (fun q mq=>?_) (by rw [List.length_cons] at hm; (first | lia | omega)) ?_⟩
  ·obtain ⟨q0,m0,mq⟩:=List.mem_flatMap.mp mq
   obtain ⟨a,_,rfl⟩:=List.mem_map.mp mq
   have w:=h q0 m0
   exact ⟨w.1.set _ _,by rw [List.length_append]; exact Nat.succ_le_succ w.2.1,Nat.le_trans dset_len (Nat.succ_le_succ w.2.2.1),hp s (List.mem_cons_self ..) _ _ w.2.2.2⟩
  ·refine Nat.le_trans (Nat.mul_le_mul_right _ (fl_len fun q mq=>one_len (o q mq))) ?_
   rw [List.length_cons,Nat.pow_succ,Nat.mul_comm (3 ^ labs.length),← Nat.mul_assoc] at hz
   exact hz
theorem both:∀ (ls:List LD) (S:Sc) (L:List Qd),(∀ q∈L,S.iv q)→Gl d W ls S→L.length * 3 ^ cnt ls≤1000→S.n + cnt ls≤1000 →
  GdC d W (ls.flatMap LD.ts) (L.map Qd.c)∧(GdW d W (ls.map (·.D)) ((L.filter (·.ok)).map (·.e2))∧(chRun (ls.flatMap LD.ts) (L.map Qd.c) = (qRun ls L).map Qd.c∧(wayRun (ls.map (·.D)) ((L.filter (·.ok)).map (·.e2)) = ((qRun ls L).filter (·.ok)).map (·.e2)∧((∀ q∈qRun ls L,(runS ls S).iv q)∧(qRun ls L).length≤1000))))
 | [],S,L,h,g,hz,hn=>⟨trivial,trivial,rfl,rfl,h,Nat.le_trans (Nat.le_of_eq (Nat.mul_one _).symm) hz⟩
 | l :: ls,S,L,h,⟨⟨Pe,o⟩,g⟩,hz,hn=>by
  have hn:S.n + (l.D.ns.length + cnt ls)≤1000:=hn
  have hz:L.length * 3 ^ (l.D.ns.length + cnt ls)≤1000:=hz
  have hz1:L.length * 3 ^ l.D.ns.length≤1000:=Nat.le_trans (Nat.mul_le_mul_left _ (Nat.pow_le_pow_right (by decide) (Nat.le_add_right ..))) hz
  have hz0:L.length≤1000:=Nat.le_trans (Nat.le_mul_of_pos_right _ (Nat.pow_pos (by decide))) hz1
  have e1:=ch_one (L:=L) o.dm
  have e2:=way_one (L:=L) o.len fun q m=>(o.iv q (h q m)).2.1.symm
  have lq:(L.flatMap (qOne l)).length≤L.length * 3 ^ l.D.ns.length:=fl_len fun q m=>by
   delta qOne
   rw [List.length_map,o.len]
   exact tupA_len (o.at1 _).len _
  have w:=both ls (S.add l) (L.flatMap (qOne l)) (fun q m=>by
   obtain ⟨q0,m0,m⟩:=List.mem_flatMap.mp m
   obtain ⟨r,hr,rfl⟩:=List.mem_map.mp m
   have t:=tupA_mem (o.at1 q0.e1) r hr
   exact (h q0 m0).row o.len o.le3 o.ns o.nd o.new (t.1.trans o.len) t.2) g (by
   refine Nat.le_trans (Nat.mul_le_mul_right _ lq) ?_
   rw [Nat.mul_assoc,← Nat.pow_add]
   exact hz) (by show S.n + l.D.ns.length + cnt ls≤1000; (first | lia | omega))
  refine ⟨?_,?_,?_,?_,w.2.2.2.2⟩
  ·rw [List.flatMap_cons]
   refine GdC.app (gd_labs o.at1 o.rw l.labs _ S.n o.pe (fun q m=>?_) (by rw [o.len]; (first | lia | omega)) (by rw [List.length_map,o.len]; exact hz1)) (e1 ▸ w.1)
   obtain ⟨q0,m0,rfl⟩:=List.mem_map.mp m
   have i:=h q0 m0
   exact ⟨i.pr.d1,i.rl,i.pr.l1,(o.iv q0 i).1⟩
  ·refine ⟨fun e m=>?_,o.le3,?_,e2 ▸ w.2.1⟩
   ·obtain ⟨q0,m0,rfl⟩:=List.mem_map.mp m
    have i:=h q0 (List.mem_filter.mp m0).1
    have v:=o.iv q0 i
    exact ⟨i.pr.d2,Nat.le_trans i.pr.l2 (by (first | lia | omega)),v.2.1 ▸ o.at1 _,v.2.1 ▸ v.2.2⟩
   ·rw [List.length_map]; exact Nat.le_trans (List.length_filter_le ..) hz0
  ·rw [List.flatMap_cons,chRun_app,show chRun l.ts (L.map Qd.c) = _ from e1]; exact w.2.2.1
  ·show wayRun (ls.map (·.D)) (wayStep l.D _) = _
   rw [e2]; exact w.2.2.2.1
where
 tupA_len {l:List Int} (h:l.length≤3):∀ k,(tupA l k).length≤3 ^ k
  | 0=>Nat.le_refl 1
  | k + 1=>by
   refine Nat.le_trans (fl_len (c:=3 ^ k) fun a _=>by rw [List.length_map]; exact tupA_len h k) ?_
   rw [Nat.pow_succ,Nat.mul_comm]
   exact Nat.mul_le_mul_left _ h
end
end P3
end Mine.Internal
namespace Mine.Internal
namespace P3
noncomputable abbrev cEx:Nat:=4137613899626305218353401740394612
noncomputable def allOf:List V→V
 | [f]=>f
 | fs=>andV fs
noncomputable def fq (w:Nat) (told:V) (aps:List (Nat × Nat)) (f:V):V :=
 if w = cAll then f2V cAll told (match aps with | []=>f | _ :: _=>impV (allOf (aps.map apV)) f)
 else if w = cSome then f2V cEx told (allOf (aps.map apV++[f]))
 else if w = cNo then notV (f2V cEx told (allOf (aps.map apV++[f])))
 else .tup [.str w,f2V 922337696266917511281 told (allOf (aps.map apV++[f]))]
section
variable {d:Nat} {W:Wl} {e1:Env} {f:V} {b:Bool}
theorem ho_allOf:∀ {fs:List (V × Bool)},fs ≠ []→(∀ p∈fs,Ho d W p.1 e1 p.2)→fs.length≤capL→Ho (d + 1) W (allOf (fs.map (·.1))) e1 (fs.all (·.2))
 | [p],_,h,_=>by
  rw [List.all_cons,List.all_nil,Bool.and_true]
  exact (h p (List.mem_cons_self ..)).up (Nat.le_succ _)
 | p :: q :: fs,_,h,hl=>ho_and h hl
theorem ho_aps {aps:List (Nat × Nat)} (h:∀ p∈aps,bnd e1 p.1∧bnd e1 p.2) (ne:aps ≠ []) (hl:aps.length≤1000):Ho (d + 4) W (allOf (aps.map apV)) e1 (aps.all (apB e1)):=by
 have w:=ho_allOf (d:=d + 3) (W:=W) (e1:=e1) (fs:=aps.map fun p=>(apV p,apB e1 p)) (fun e=>ne (List.map_eq_nil_iff.mp e)) (fun p m=>by
  obtain ⟨q,hq,rfl⟩:=List.mem_map.mp m
  exact ho_ap (h q hq).1 (h q hq).2) (by rw [List.length_map]; exact Nat.le_trans hl (by decide))
 rw [List.map_map,List.all_map] at w
 exact w
theorem ho_all {aps:List (Nat × Nat)} (h:∀ p∈aps,bnd e1 p.1∧bnd e1 p.2) (hl:aps.length≤1000) (hf:Ho (d + 3) W f e1 b):Ho (d + 4) W (allOf (aps.map apV++[f])) e1 (aps.all (apB e1) && b):=by
 have w:=ho_allOf (d:=d + 3) (W:=W) (e1:=e1) (fs:=(aps.map fun p=>(apV p,apB e1 p))++[(f,b)]) (fun e=>nomatch (List.append_eq_nil_iff.mp e).2) (fun p m=>by
  rcases List.mem_append.mp m with m | m
  ·obtain ⟨q,hq,rfl⟩:=List.mem_map.mp m
   exact ho_ap (h q hq).1 (h q hq).2
  ·cases List.mem_singleton.mp m; exact hf) (by rw [List.length_append,List.length_map]; exact Nat.le_trans (Nat.add_le_add_right hl 1) (by decide))
 rw [List.map_append,List.map_map,List.all_append,List.all_map,List.all_cons,List.all_nil,Bool.and_true] at w
 exact w
theorem cnt_eq {Qs:List Qd} {bm:Qd→Bool}:(((Qs.filter (·.ok)).map bm).filter id).length = (Qs.filter fun q=>q.ok && bm q).length:=by
 rw [List.filter_map,List.length_map,List.filter_filter]
 refine congrArg (fun p=>(Qs.filter p).length) (funext fun q=>?_)
 exact Bool.and_comm ..
theorem any_len {α:Type} {p:α→Bool}:∀ l:List α,l.any p = decide (0 < (l.filter p).length)
 | []=>rfl
 | a :: l=>by
  rw [List.any_cons]
  cases e:p a with
  | true=>rw [List.filter_cons_of_pos e]; rfl
  | false=>rw [List.filter_cons_of_neg (by rw [e]; exact Bool.false_ne_true)]; exact any_len l
theorem all_imp {bm:Qd→Bool}:∀ Qs:List Qd,(((Qs.filter (·.ok)).map bm).all id) = Qs.all fun q=>bm q || !q.ok
 | []=>rfl
 | q :: Qs=>by
  rw [List.all_cons,← all_imp Qs]
  cases e:q.ok with
  | true=>rw [List.filter_cons_of_pos e,List.map_cons,List.all_cons,Bool.not_true,Bool.or_false]; rfl
  | false=>rw [List.filter_cons_of_neg (by rw [e]; exact Bool.false_ne_true),Bool.not_false,Bool.or_true,Bool.true_and]
theorem quant_ok {w:Nat} {ls:List LD} {S:Sc} {q:Qd} {nd:V} (hw:w∈cAll :: words) (hq:S.iv q) (hr:q.row = []) (hok:q.ok = true) (hl:Gl d W ls S) (hz:cnt ls≤5) (hn:S.n + cnt ls≤1000) (ha:(runS ls S).aps.length≤1000) (h1:3 ^ cnt ls≤1000)
  (hb:∀ p,(runS ls S).iv p→∃ b,Ho (d + 3) W f p.e1 b∧Mn (d + 1) W nd p.e2 (.bool b)) :
  ∃ b,Ho (d + 7) W (fq w (toldF (ls.flatMap LD.ts)) (runS ls S).aps f) q.e1 b∧Qn (d + 2) W w (toldN (ls.map (·.D))) nd q.e2 b:=by
 have B:=both ls S [q] (fun p m=>List.mem_singleton.mp m ▸ hq) hl (by rw [List.length_singleton,Nat.one_mul]; exact h1) hn
 have ef:([q].filter (·.ok)).map (·.e2) = [q.e2]:=by rw [List.filter_cons_of_pos hok]; rfl
 have ec:[q].map Qd.c = [([],q.e1)]:=by show [(q.row,q.e1)] = _; rw [hr]
 rw [ef,ec] at B
 obtain ⟨g1,g2,c1,c2,iv,lz⟩:=B
 have C:Ch (d + 1) W (toldF (ls.flatMap LD.ts)) q.e1 ((qRun ls [q]).map Qd.c):=c1 ▸ ch_ok g1
 have Y:Wy (d + 1) W (toldN (ls.map (·.D))) q.e2 (((qRun ls [q]).filter (·.ok)).map (·.e2)):=c2 ▸ wy_ok g2
 have lc:(qRun ls [q]).length≤capL:=Nat.le_trans lz (by decide)
 generalize qRun ls [q] = Qs at *
 generalize toldF (ls.flatMap LD.ts) = told at *
 generalize toldN (ls.map (·.D)) = toldn at *
 generalize hS:runS ls S = S' at *
 -- the body's value
 obtain ⟨bm,hbm⟩:∃ bm:Qd→Bool,∀ p,S'.iv p→Ho (d + 3) W f p.e1 (bm p)∧Mn (d + 1) W nd p.e2 (.bool (bm p)):=Classical.axiomOfChoice (r:=fun p b=>S'.iv p→Ho (d + 3) W f p.e1 b∧Mn (d + 1) W nd p.e2 (.bool b)) fun p=>(Classical.em (S'.iv p)).elim (fun h=>(hb p h).imp fun b w _=>w) fun h=>⟨false,fun h'=>absurd h' h⟩
 have hbm:∀ p∈Qs,Ho (d + 3) W f p.e1 (bm p)∧Mn (d + 1) W nd p.e2 (.bool (bm p)):=fun p m=>hbm p (iv p m)
 have qn:Qn (d + 2) W w toldn nd q.e2 (quant w ((Qs.filter (·.ok)).map bm)):=qn_ok (c:=fun p=>p.e2) (bm:=bm) hw Y (fun p m=>(hbm p (List.mem_filter.mp m).1).2) (Nat.le_trans (List.length_filter_le ..) lc)
 refine ⟨_,?_,qn⟩
 have bo:∀ p∈Qs,∀ a∈S'.aps,bnd p.e1 a.1∧bnd p.e1 a.2:=fun p m a ma=>((iv p m).au a ma).2
 have okE:∀ p∈Qs,p.ok = S'.aps.all (apB p.e1):=fun p m=>(iv p m).ok
 have C4:Ch (d + 4) W told q.e1 (Qs.map Qd.c):=fun n hn=>C n (Nat.le_trans (by (first | lia | omega)) hn)
 have both':∀ p∈Qs,Ho (d + 4) W (allOf (S'.aps.map apV++[f])) p.c.2 (p.ok && bm p):=fun p m=>okE p m ▸ ho_all (bo p m) ha (hbm p m).1
 have many:∀ {w},w ≠ cAll→quant w ((Qs.filter (·.ok)).map bm) = Mine.Internal.P3.many w (Qs.filter fun p=>p.ok && bm p).length:=fun {w} h=>by
  delta quant; rw [if_neg h,cnt_eq]
 simp only [words,List.mem_cons,List.not_mem_nil,or_false] at hw
 rcases hw with rfl | rfl | rfl | rfl | rfl
 ·delta quant fq
  rw [if_pos rfl,if_pos rfl,all_imp]
  clear both'
  generalize S'.aps = A at bo okE ha ⊢
  cases A with
  | nil =>
   have e:(Qs.all fun p=>bm p || !p.ok) = Qs.all bm:=all_congr' fun p m=>by rw [okE p m]; exact Bool.or_false _
   rw [e]
   exact (ho_fa (h:=cAll) (c:=Qd.c) (bm:=bm) (.inl rfl) C4 (fun p m=>(hbm p m).1.up (Nat.le_succ _)) lc).up (by (first | lia | omega))
  | cons a as =>
   refine (ho_fa (d:=d + 5) (h:=cAll) (c:=Qd.c) (bm:=fun p=>bm p || !p.ok) (.inl rfl) (fun n hn=>C n (Nat.le_trans (by (first | lia | omega)) hn)) (fun p m=>?_) lc).up (by (first | lia | omega))
   exact ho_imp (d:=d + 4) (okE p m ▸ ho_aps (d:=d) (bo p m) (fun e=>nomatch e) ha) ((hbm p m).1.up (by (first | lia | omega)))
 ·rw [many (by decide)]
  exact (any_len Qs ▸ ho_fa (h:=cEx) (c:=Qd.c) (bm:=fun p=>p.ok && bm p) (.inr rfl) C4 both' lc:Ho (d + 5) W (f2V cEx told _) q.e1 (decide (0 < (Qs.filter fun p=>p.ok && bm p).length))).up (by (first | lia | omega))
 ·rw [many (by decide)]
  have w:=ho_not (any_len Qs ▸ ho_fa (h:=cEx) (c:=Qd.c) (bm:=fun p=>p.ok && bm p) (.inr rfl) C4 both' lc:Ho (d + 5) W (f2V cEx told _) q.e1 (decide (0 < (Qs.filter fun p=>p.ok && bm p).length)))
  rw [show (!decide (0 < (Qs.filter fun p=>p.ok && bm p).length)) = decide ((Qs.filter fun p=>p.ok && bm p).length = 0) by cases (Qs.filter fun p=>p.ok && bm p).length <;> rfl] at w
  exact w.up (by (first | lia | omega))
 ·rw [many (by decide)]
  have w:=ho_un (w:=cLone) (by decide) (rw_comp (c:=Qd.c) C4 both' lc) (by rw [List.length_map]; exact Nat.le_trans (List.length_filter_le ..) lc)
  rw [List.length_map] at w
  exact w.up (by (first | lia | omega))
 ·rw [many (by decide)]
  have w:=ho_un (w:=cOne) (by decide) (rw_comp (c:=Qd.c) C4 both' lc) (by rw [List.length_map]; exact Nat.le_trans (List.length_filter_le ..) lc)
  rw [List.length_map] at w
  exact w.up (by (first | lia | omega))
end
end P3
end Mine.Internal
namespace Mine.Internal
namespace P3
noncomputable abbrev Tam:=Nat→Option V
noncomputable def setT (T:Tam) (k:Nat) (r:V):Tam:=fun j=>if j = k then some r else T j
noncomputable def Gam.t (Γ:Gam):Tam:=fun k=>(Γ k).map varV
structure Pt (m:Nat) (W:Wl) (T:Tam) (e1 e2:Env):Prop where
 d2:Dk e2
 l2:e2.length≤900
 va:∀ k r,T k = some r→∃ l,At1 l∧(dget (.str k) e2 = some (.list (intsV l))∧Rw m W r e1 (.list (rows1 l)))
 no:∀ s∈sigs,dget (.str s) e2 = none
section
variable {W:Wl} {T:Tam} {Γ:Gam} {n k s w:Nat} {e1 e2:Env} {nd r f nd' r':V}
theorem Pr.pt (h:Pr n Γ e1 e2) (hn:n≤900):Pt 1 W Γ.t e1 e2:=⟨h.d2,Nat.le_trans h.l2 hn,fun k r e=>by
 obtain ⟨l,el,rfl⟩:=Option.map_eq_some_iff.mp e
 obtain ⟨a,ha,h1,h2⟩:=h.ep k l el
 exact ⟨[a],.one ha,h2,rw_var (d:=0) h1⟩,h.no⟩
noncomputable def Ex (T:Tam) (nd r:V):Prop:=(∃ s∈[66,67],nd = nmV s∧r = relV (sgI s)) ∨ ((∃ k,nd = nmV k∧T k = some r) ∨ ∃ k r0,nd = dtV k∧(T k = some r0∧r = joinV r0))
theorem ex_ok {m:Nat} (h:Ex T nd r) (p:Pt (m + 1) W T e1 e2):∃ l,At1 l∧(Mn 3 W nd e2 (.list (intsV l))∧Rw (m + 2) W r e1 (.list (rows1 l))):=by
 rcases h with ⟨s,hs,rfl,rfl⟩ | ⟨k,rfl,e⟩ | ⟨k,r0,rfl,e,rfl⟩
 ·exact ⟨W.sg s,W.os s,(mn_sig (d:=0) (p.no s (List.mem_append.mpr (.inl hs):s∈[66,67]++[103])) hs).up (by decide),(rw_rel (d:=m + 1) hs)⟩
 ·obtain ⟨l,a,h1,h2⟩:=p.va k r e
  exact ⟨l,a,(mn_var (d:=0) h1).up (by decide),h2.up (Nat.le_succ _)⟩
 ·obtain ⟨l,a,h1,h2⟩:=p.va k r0 e
  exact ⟨dotA l W.f,At1.flt (List.Sublist.refl _),(mn_dot a (mn_var (d:=1) h1)),rw_join (d:=m) a h2⟩
noncomputable def Lt (T:Tam) (nd f:V):Prop:=(∃ a b r q,Ex T a r∧(Ex T b q∧(nd = binV cIn a b∧f = f2V cIn r q))) ∨ ((∃ a b r q,Ex T a r∧(Ex T b q∧(nd = binV 62 a b∧f = f2V cSame r q))) ∨
 ∃ w∈words,∃ a r,Ex T a r∧(nd = unV w a∧f = .tup [.str w,r]))
theorem lt_ok (h:Lt T nd f) (p:Pt 4 W T e1 e2):∃ b,Ho 8 W f e1 b∧Mn 5 W nd e2 (.bool b):=by
 rcases h with ⟨a,b,r,q,ha,hb,rfl,rfl⟩ | ⟨a,b,r,q,ha,hb,rfl,rfl⟩ | ⟨w,hw,a,r,ha,rfl,rfl⟩
 ·obtain ⟨l,a1,m1,r1⟩:=ex_ok ha p
  obtain ⟨k,a2,m2,r2⟩:=ex_ok hb p
  exact ⟨_,(ho_in r1 r2 a1).up (by decide),(mn_in m1 m2 a1).up (by decide)⟩
 ·obtain ⟨l,a1,m1,r1⟩:=ex_ok ha p
  obtain ⟨k,a2,m2,r2⟩:=ex_ok hb p
  exact ⟨_,(ho_same r1 r2).up (by decide),(mn_eq m1 m2).up (by decide)⟩
 ·obtain ⟨l,a1,m1,r1⟩:=ex_ok ha p
  have w:=ho_un (d:=6) hw (r1.up (by decide:5≤7)) (by rw [List.length_map]; exact cap3 a1.len)
  rw [List.length_map] at w
  exact ⟨_,w,(mn_un (d:=3) hw (m1.up (by decide)) a1)⟩
theorem Pt.up {m m':Nat} (p:Pt m W T e1 e2) (h:m≤m'):Pt m' W T e1 e2:=⟨p.d2,p.l2,fun k r e=>(p.va k r e).imp fun l w=>⟨w.1,w.2.1,w.2.2.up h⟩,p.no⟩
theorem let_ok (h1:Ex T nd r) (hk:k ∉ sigs) (h2:Lt (setT T k r) nd' f) (p:Pt 1 W T e1 e2) (hl:e2.length≤800):∃ b,Ho 8 W f e1 b∧Mn 6 W (letV k nd nd') e2 (.bool b):=by
 obtain ⟨l,a1,m1,r1⟩:=ex_ok (m:=0) h1 p
 have p':Pt 4 W (setT T k r) e1 (dset (.str k) (.list (intsV l)) e2):=⟨p.d2.set _ _,Nat.le_trans dset_len (Nat.le_trans (Nat.succ_le_succ hl) (by decide)),fun j q e=>by
  delta setT at e
  by_cases hj:j = k
  ·rw [if_pos hj] at e
   cases Option.some.inj e
   exact ⟨l,a1,hj ▸ dget_same,r1.up (by decide)⟩
  ·rw [if_neg hj] at e
   obtain ⟨l',a',h1,h2⟩:=p.va j q e
   exact ⟨l',a',(dget_ne hj).trans h1,h2.up (by decide)⟩,fun s hs=>(dget_ne (k:=s) (l:=k) fun q=>hk (q ▸ hs)).trans (p.no s hs)⟩
 obtain ⟨b,h1,h2⟩:=lt_ok h2 p'
 exact ⟨b,h1,mn_let (d:=5) (m1.up (by decide)) p.d2 (Nat.le_trans p.l2 (by decide)) h2⟩
end
end P3
end Mine.Internal
namespace Mine.Internal
namespace P3
structure Dsc where
 s:Nat
 late:Option (Nat × Nat)
noncomputable def Dsc.dom (D:Dsc):V:=match D.late with
 | none=>nmV D.s
 | some p=>binV 39 (nmV D.s) (dtV p.1)
noncomputable def Dsc.X (D:Dsc):V:=match D.late with
 | none=>relV (sgI D.s)
 | some p=>meetV (relV (sgI D.s)) (joinV (varV p.2))
noncomputable def Dsc.dm (D:Dsc) (W:Wl) (e:Env):List Int:=match D.late with
 | none=>W.sg D.s
 | some p=>meetA (W.sg D.s) (dotA [atA e p.2] W.f)
noncomputable def liA (e:Env) (k:Nat):List Int:=((dget (.str k) e).bind asListL).getD [] |>.filterMap asInt
noncomputable def Dsc.dm2 (D:Dsc) (W:Wl) (e:Env):List Int:=match D.late with
 | none=>W.sg D.s
 | some p=>meetA (W.sg D.s) (dotA (liA e p.1) W.f)
structure Dc where
 ap:Bool
 ns:List Nat
 mk':V
 labs:List Nat
 ds:Dsc
noncomputable def Dc.ld (c:Dc) (W:Wl):LD:=⟨⟨c.ap,c.ns,c.mk',c.ds.dom,c.ds.dm2 W⟩,c.labs,c.ds.X,c.ds.dm W⟩
noncomputable def Dc.v (c:Dc):V:=.tup [.int 0,.bool c.ap,.tup (c.ns.map V.str),c.mk',c.ds.dom]
noncomputable def Dc.fs (c:Dc):List V:=c.labs.map fun s=>.tup [.str s,c.ds.X]
noncomputable def Sc.addc (S:Sc) (c:Dc):Sc:=⟨S.n + c.ns.length,exG S.Γ (c.ns.zip c.labs),S.U++c.labs,S.aps++cond c.ap (prs c.labs) []⟩
structure DcOk (S:Sc) (c:Dc):Prop where
 len:c.labs.length = c.ns.length
 le3:c.ns.length≤3
 ns:∀ k∈c.ns,k ∉ sigs
 nd:c.labs.Nodup
 new:∀ s∈c.labs,s ∉ S.U
 sg:c.ds.s∈[66,67]
 la:∀ p,c.ds.late = some p→S.Γ p.1 = some p.2∧p.2∈S.U
noncomputable def Gc:List Dc→Sc→Prop
 | [],_=>True
 | c :: cs,S=>DcOk S c∧Gc cs (S.addc c)
noncomputable def runC (cs:List Dc) (S:Sc):Sc:=cs.foldl Sc.addc S
noncomputable def cntC:List Dc→Nat
 | []=>0
 | c :: cs=>c.ns.length + cntC cs
noncomputable def toldNc (cs:List Dc):V:=.tup (cs.map Dc.v)
noncomputable def toldFc (cs:List Dc):V:=.tup (cs.flatMap Dc.fs)
section
variable {W:Wl} {S:Sc} {c:Dc} {cs:List Dc} {d d':Nat} {nd f nd' r:V} {w k:Nat}
theorem ld_ok (h:DcOk S c):∃ Pe,LdOk (d + 3) W S (c.ld W) Pe:=by
 have sgs:∀ {n Γ e1 e2},Pr n Γ e1 e2→dget (.str c.ds.s) e2 = none:=fun p=>p.no _ (List.mem_append.mpr (.inl h.sg):c.ds.s∈[66,67]++[103])
 cases hl:c.ds.late with
 | none =>
  have e1:(c.ld W).dm = fun _=>W.sg c.ds.s:=funext fun e=>by show c.ds.dm W e = _; delta Dsc.dm; rw [hl]
  have e2:(c.ld W).D.dm = fun _=>W.sg c.ds.s:=funext fun e=>by show c.ds.dm2 W e = _; delta Dsc.dm2; rw [hl]
  have e3:(c.ld W).X = relV (sgI c.ds.s):=by show c.ds.X = _; delta Dsc.X; rw [hl]
  have e4:(c.ld W).D.dom = nmV c.ds.s:=by show c.ds.dom = _; delta Dsc.dom; rw [hl]
  exact ⟨fun _=>True,h.len,h.le3,h.ns,h.nd,h.new,fun s _ v e=>by rw [e1],fun _ _ _ _ _=>trivial,fun e=>by rw [e1]; exact W.os _,fun e _=>by rw [e1,e3]; exact rw_rel h.sg,
   fun q i=>⟨trivial,by rw [e1,e2],by rw [e1,e4]; exact mn_sig (sgs i.pr) h.sg⟩⟩
 | some p =>
  obtain ⟨g,u⟩:=h.la p hl
  have e1:(c.ld W).dm = fun e=>meetA (W.sg c.ds.s) (dotA [atA e p.2] W.f):=funext fun e=>by show c.ds.dm W e = _; delta Dsc.dm; rw [hl]
  have e2:(c.ld W).D.dm = fun e=>meetA (W.sg c.ds.s) (dotA (liA e p.1) W.f):=funext fun e=>by show c.ds.dm2 W e = _; delta Dsc.dm2; rw [hl]
  have e3:(c.ld W).X = meetV (relV (sgI c.ds.s)) (joinV (varV p.2)):=by show c.ds.X = _; delta Dsc.X; rw [hl]
  have e4:(c.ld W).D.dom = binV 39 (nmV c.ds.s) (dtV p.1):=by show c.ds.dom = _; delta Dsc.dom; rw [hl]
  have ne:∀ s∈c.labs,p.2 ≠ s:=fun s m e=>h.new s m (e ▸ u)
  refine ⟨fun e=>bnd e p.2,h.len,h.le3,h.ns,h.nd,h.new,fun s m v e=>by rw [e1]; show meetA _ (dotA [atA _ _] _) = _; delta atA; rw [dget_ne (ne s m)],fun s m v e b=>b.imp fun a w=>⟨w.1,(dget_ne (ne s m)).trans w.2⟩,fun e=>by rw [e1]; exact (W.os _).flt,fun e ⟨a,ha,hd⟩=>?_,fun q i=>?_⟩
  ·rw [e1,e3,show (fun e=>meetA (W.sg c.ds.s) (dotA [atA e p.2] W.f)) e = meetA (W.sg c.ds.s) (dotA [a] W.f) by show meetA _ (dotA [atA e p.2] _) = _; rw [atA_of hd]]
   exact rw_meet (rw_rel h.sg) (rw_join (d:=d) (.one ha) (rw_var hd)) (W.os _)
  ·obtain ⟨a,ha,h1,h2⟩:=i.pr.ep _ _ g
   have ea:atA q.e1 p.2 = a:=atA_of h1
   have eb:liA q.e2 p.1 = [a]:=by delta liA; rw [h2]; rfl
   refine ⟨⟨a,ha,h1⟩,by rw [e1,e2]; show meetA _ (dotA (liA q.e2 p.1) _) = meetA _ (dotA [atA q.e1 p.2] _); rw [ea,eb],?_⟩
   rw [e1,e4]
   show Mn _ _ _ _ (.list (intsV (meetA _ (dotA [atA q.e1 p.2] _))))
   rw [ea]
   exact mn_meet (mn_sig (sgs i.pr) h.sg) (mn_dot (.one ha) (mn_var (d:=d) h2)) (W.os _)
theorem gl_ok:∀ (cs:List Dc) (S:Sc),Gc cs S→Gl (d + 3) W (cs.map (·.ld W)) S
 | [],_,_=>trivial
 | c :: cs,S,h=>⟨ld_ok h.1,gl_ok cs (S.addc c) h.2⟩
theorem run_eq:∀ (cs:List Dc) (S:Sc),runS (cs.map (·.ld W)) S = runC cs S
 | [],_=>rfl
 | c :: cs,S=>run_eq cs (S.addc c)
theorem cnt_eq':∀ cs:List Dc,cnt (cs.map (·.ld W)) = cntC cs
 | []=>rfl
 | c :: cs=>congrArg (c.ns.length + ·) (cnt_eq' cs)
theorem tf_eq:∀ cs:List Dc,((cs.map (·.ld W)).flatMap LD.ts).map tV = cs.flatMap Dc.fs
 | []=>rfl
 | c :: cs=>by
  rw [List.map_cons,List.flatMap_cons,List.map_append,tf_eq cs,List.flatMap_cons]
  refine congrArg (·++_) ?_
  delta LD.ts Dc.fs
  rw [List.map_map]; rfl
theorem tn_eq:toldN ((cs.map (·.ld W)).map (·.D)) = toldNc cs:=by
 delta toldN toldNc
 rw [List.map_map,List.map_map]; rfl
noncomputable def TrS (d d':Nat) (S:Sc) (nd f:V):Prop:=∀ (W:Wl) (q:Qd),S.iv q→∃ b,Ho d W f q.e1 b∧Mn d' W nd q.e2 (.bool b)
theorem tr_up {m m':Nat} (h:TrS d d' S nd f) (e:d≤m) (e':d'≤m'):TrS m m' S nd f:=fun W q i=>(h W q i).imp fun b w=>⟨w.1.up e,w.2.up e'⟩
theorem tr_leaf (h:Lt S.Γ.t nd f) (hn:S.n≤800):TrS 8 5 S nd f:=fun W q i=>lt_ok h ((i.pr.pt (Nat.le_trans hn (by decide))).up (by decide))
theorem tr_not (h:TrS d d' S nd f):TrS (d + 1) (d' + 1) S (unV 34 nd) (notV f):=fun W q i=>(h W q i).elim fun b w=>⟨!b,ho_not w.1,mn_not w.2⟩
theorem tr_let (h1:Ex S.Γ.t nd r) (hk:k ∉ sigs) (h2:Lt (setT S.Γ.t k r) nd' f) (hn:S.n≤800):TrS 8 6 S (letV k nd nd') f:=fun W q i=>let_ok h1 hk h2 (i.pr.pt (Nat.le_trans hn (by decide))) (Nat.le_trans i.pr.l2 hn)
noncomputable def Sc.bare (S:Sc):Sc:=⟨S.n,S.Γ,S.U,[]⟩
theorem tr_qn {d0:Nat} (hw:w∈cAll :: words) (h:TrS (d0 + 6) (d0 + 4) (runC cs S.bare) nd f) (g:Gc cs S.bare) (hc:cntC cs≤5) (hn:S.n + cntC cs≤800) (ha:(runC cs S.bare).aps.length≤1000) (W:Wl) (q:Qd) (i:S.iv q) :
  ∃ b,Ho (d0 + 10) W (fq w (toldFc cs) (runC cs S.bare).aps f) q.e1 b∧Qn (d0 + 5) W w (toldNc cs) nd q.e2 b:=by
 have i0:S.bare.iv ⟨[],q.e1,q.e2,true⟩:=⟨i.pr,Nat.zero_le _,i.gu,fun p m=>(nomatch m),rfl⟩
 have w3:3 ^ cntC cs≤3 ^ 5:=Nat.pow_le_pow_right (by decide) hc
 have v:=quant_ok (d:=d0 + 3) (W:=W) (f:=f) (w:=w) (ls:=cs.map (·.ld W)) (S:=S.bare) (q:=⟨[],q.e1,q.e2,true⟩) (nd:=nd) hw i0 rfl rfl (gl_ok cs S.bare g) (by rw [cnt_eq']; exact hc) (by rw [cnt_eq']; exact Nat.le_trans hn (by decide)) (by rw [run_eq]; exact ha) (by rw [cnt_eq']; exact Nat.le_trans w3 (by decide)) (fun p ip=>h W p (run_eq (W:=W) cs S.bare ▸ ip))
 rw [run_eq,tn_eq,show toldF ((cs.map (·.ld W)).flatMap LD.ts) = toldFc cs from congrArg V.tup (tf_eq cs)] at v
 exact v
theorem tr_qu {d0:Nat} (hw:w∈cAll :: words) (h:TrS (d0 + 6) (d0 + 4) (runC cs S.bare) nd f) (g:Gc cs S.bare) (hc:cntC cs≤5) (hn:S.n + cntC cs≤800) (ha:(runC cs S.bare).aps.length≤1000) :
  TrS (d0 + 10) (d0 + 6) S (quV w (toldNc cs) nd) (fq w (toldFc cs) (runC cs S.bare).aps f):=fun W q i=>(tr_qn hw h g hc hn ha W q i).imp fun b w=>⟨w.1,mn_qu w.2⟩
end
end P3
end Mine.Internal
namespace Mine.Internal
open PySem
namespace P3
noncomputable def own:V:=.tup [.int 0,.bool false,.tup [.str 103],.str 510173609197685,nmV 66]
noncomputable def sigT (nm par:Nat) (fl:List V):V:=.tup [.str 510173617586280,.int 0,.tup [.str nm],.bool false,.str 0,.str par,.tup [],.tup fl,.tup []]
noncomputable def itemsV:List V:=[sigT 66 0 [own],sigT 67 66 []]
noncomputable def sigO (p:Nat):SObj:=.inst 2 [(8677204859181125939181893442046368153716,.loc (p + 1)),(4705521291157225747889372490891380,.loc (p + 2)),(4543261936956796822649674720608357,.loc (p + 3)),(9527910938742439441923968210238380703845,.loc (p + 4)),(87879469192763632568941775319736026401969400547484486336628,.loc (p + 6))]
noncomputable def nuV:Env:=[(.str 66,.int 0),(.str 67,.int 1),(.str 290271168299111,.int 2)]
noncomputable def opF (p:Nat) (ct sp ht pk:Int):List (Nat × V):=[(91018014822433855916448552147567129127201744206719258460276,.loc p),(2089024793972003303873052788,.none),(2050339269201387993285263476,.list itemsV),(9442840468706836533258501435379962347636,.dict nuV),(1934282215274345678596210804,.loc (p + 9)),(1934282344401593776985866357,.int ct),(2243767363446240513821245557,.int sp),(4259307989734766077997039554134133,.int ht),(1042241488765539319916,.int pk)]
noncomputable def sgsO (p:Nat):St:=[sigO p,.dict [(.str 66,sigT 66 0 [own]),(.str 67,sigT 67 66 [])],.list [.str 66,.str 67],.list [],.list [.str 66,.str 67],.list [],.list [.tup [.str 103,.str 66,.str 510173609197685,nmV 66,.int 0,.int (-1)]],.dead]
noncomputable def stt (π:St) (ct sp ht pk:Int) (τ:St):St:=π++(sgsO π.length++(.inst 1 (opF π.length ct sp ht pk) :: .dict [] :: τ))
noncomputable def Shp (π:St):Prop:=(∃ a b c,π = [a,b,c]) ∨ ∃ a b c d e,π = [a,b,c,d,e]
noncomputable def newX:X:=.new 1 [(.new 2 [(.var 8)]),(.cst .none),(.var 8),(.dict [(.cst (.str 66)),(.cst (.int 0)),(.cst (.str 67)),(.cst (.int 1)),(.cst (.str 290271168299111)),(.cst (.int 2))])]
theorem init_eq:∀ {π:St},Shp π→∀ (n:Nat) (a0 a1 a2 a3 a4 a5 a6 a7:Option V) (r:REnv) (K:V→St→Prop),kE prog ⟨callK prog (n + 8)⟩ newX (a0 :: a1 :: a2 :: a3 :: a4 :: a5 :: a6 :: a7 :: some (.list itemsV) :: r) π K = K (.loc (π.length + 8)) (stt π 0 0 0 0 []):=by
 rintro _ (⟨a,b,c,rfl⟩ | ⟨a,b,c,d,e,rfl⟩)
 ·exact fun n a0 a1 a2 a3 a4 a5 a6 a7 r K=>by kernel_rfl!
 ·exact fun n a0 a1 a2 a3 a4 a5 a6 a7 r K=>by kernel_rfl!
end P3
end Mine.Internal
namespace Mine.Internal
open PySem
namespace P3
noncomputable abbrev fHt:Nat:=4259307989734766077997039554134133
theorem eqn {k n f:Nat} {args:List V} {σ:St} {K:V→St→Prop} {p:Prop} (h:∀ n,callK prog (n + k) f args σ K = p) (hn:k≤n) (hp:p):callK prog n f args σ K:=by
 obtain ⟨m,rfl⟩:=Nat.exists_eq_add_of_le' hn
 rw [h m]; exact hp
section
variable {π τ:St} {ct sp ht pk x:Int} {f m s n:Nat} {v:V} {K:V→St→Prop}
theorem op_at:(stt π ct sp ht pk τ)[π.length + 8]? = some (.inst 1 (opF π.length ct sp ht pk)):=by
 delta stt
 rw [List.getElem?_append_right (Nat.le_add_right ..),Nat.add_sub_cancel_left]; rfl
theorem attr_i (h:getA (opF π.length ct sp ht pk) f = some v):attrE (.loc (π.length + 8)) f (stt π ct sp ht pk τ) = some v:=by
 show fldO f (stt π ct sp ht pk τ)[π.length + 8]? = _
 rw [op_at]; exact h
theorem set_i {ct' sp' ht' pk':Int} (h:setA (opF π.length ct sp ht pk) f v = opF π.length ct' sp' ht' pk'):setFld (.loc (π.length + 8)) f v (stt π ct sp ht pk τ) = some (stt π ct' sp' ht' pk' τ):=by
 show setFldO f v (π.length + 8) (stt π ct sp ht pk τ) (stt π ct sp ht pk τ)[π.length + 8]? = _
 rw [op_at]
 show some ((stt π ct sp ht pk τ).set (π.length + 8) (.inst 1 (setA (opF π.length ct sp ht pk) f v))) = _
 rw [h]
 delta stt
 rw [List.set_append_right _ _ (Nat.le_add_right ..),Nat.add_sub_cancel_left]; rfl
theorem meth_i (h:(getA (opF π.length ct sp ht pk) m).isSome = false) (hm:prog.meth 1 m = some f):findMeth prog (.loc (π.length + 8)) m (stt π ct sp ht pk τ) = some (π.length + 8,f):=by
 show methO prog (π.length + 8) m (stt π ct sp ht pk τ)[π.length + 8]? = _
 rw [op_at]
 show (if (getA (opF π.length ct sp ht pk) m).isSome = true then none else (prog.meth 1 m).map fun f=>(π.length + 8,f)) = _
 rw [h,hm]; rfl
theorem spend_x {a b:Int} (h1:sp + a≤20000) (h2:ht + b≤100) (hk:K .none (stt π ct (sp + a) ht (if pk < ht + b then ht + b else pk) τ)):kSs prog ⟨callK prog n⟩ f_Opener_spend.body (enter f_Opener_spend [.loc (π.length + 8),.int a,.int b]) (stt π ct sp ht pk τ) (outK K):=by
 generalize TabK.mk (callK prog n) = T
 conv=>whnf
 refine oK_i _ (attr_i rfl) ?_
 conv=>whnf
 refine oK_i _ (set_i (ct':=ct) (sp':=sp + a) (ht':=ht) (pk':=pk) rfl) ?_
 conv=>whnf
 refine oK_i _ (attr_i rfl) ?_
 conv=>whnf
 refine oK_i _ (attr_i rfl) ?_
 conv=>whnf
 refine oK_i _ (set_i (ct':=ct) (sp':=sp + a) (ht':=ht) (pk':=if pk < ht + b then ht + b else pk) rfl) ?_
 conv=>whnf
 refine oK_i _ (attr_i rfl) ?_
 conv=>whnf
 refine iK_f (decide_eq_false (Int.not_lt.mpr h1)) ?_
 conv=>whnf
 refine oK_i _ (attr_i rfl) ?_
 conv=>whnf
 refine iK_f (decide_eq_false (Int.not_lt.mpr h2)) ?_
 exact hk
theorem spend_ok {a b:Int} (hn:1≤n) (h1:sp + a≤20000) (h2:ht + b≤100) (hk:K .none (stt π ct (sp + a) ht (if pk < ht + b then ht + b else pk) τ)):callK prog n 16 [.loc (π.length + 8),.int a,.int b] (stt π ct sp ht pk τ) K :=
 call_i (d:=f_Opener_spend) hn rfl rfl (spend_x h1 h2 hk)
theorem plc_eq:∀ {π:St},Shp π→∀ s∈sigs,∀ n ct sp ht pk τ K,callK prog (n + 4) 8 [.loc (π.length + 8),.str s] (stt π ct sp ht pk τ) K = K (.int (-1)) (stt π ct sp ht pk τ):=by
 rintro _ (⟨a,b,c,rfl⟩ | ⟨a,b,c,d,e,rfl⟩)
 all_goals repeat (first | exact List.forall_mem_nil _ | refine List.forall_mem_cons.mpr ⟨fun n ct sp ht pk τ K=>by kernel_rfl!,?_⟩)
noncomputable def nmI (s:Nat):Int:=if s = 66 then 0 else if s = 67 then 1 else 2
theorem nam_eq:∀ {π:St},Shp π→∀ s∈sigs,∀ n ct sp ht pk τ K,callK prog (n + 4) 9 [.loc (π.length + 8),.str s,.int 0] (stt π ct sp ht pk τ) K = K (relV (nmI s)) (stt π ct sp ht pk τ):=by
 rintro _ (⟨a,b,c,rfl⟩ | ⟨a,b,c,d,e,rfl⟩)
 all_goals repeat (first | exact List.forall_mem_nil _ | refine List.forall_mem_cons.mpr ⟨fun n ct sp ht pk τ K=>by kernel_rfl!,?_⟩)
theorem art_eq:∀ {π:St},Shp π→∀ s∈[66,67],∀ n ct sp ht pk τ K,callK prog (n + 5) 13 [.loc (π.length + 8),relV (sgI s)] (stt π ct sp ht pk τ) K = K (.int 1) (stt π ct sp ht pk τ):=by
 rintro _ (⟨a,b,c,rfl⟩ | ⟨a,b,c,d,e,rfl⟩)
 all_goals repeat (first | exact List.forall_mem_nil _ | refine List.forall_mem_cons.mpr ⟨fun n ct sp ht pk τ K=>by kernel_rfl!,?_⟩)
theorem arm_eq:∀ {π:St},Shp π→∀ s∈[66,67],∀ r n ct sp ht pk τ K,callK prog (n + 6) 13 [.loc (π.length + 8),meetV (relV (sgI s)) r] (stt π ct sp ht pk τ) K = K (.int 1) (stt π ct sp ht pk τ):=by
 rintro _ (⟨a,b,c,rfl⟩ | ⟨a,b,c,d,e,rfl⟩)
 all_goals repeat (first | exact List.forall_mem_nil _ | refine List.forall_mem_cons.mpr ⟨fun r n ct sp ht pk τ K=>by kernel_rfl!,?_⟩)
end
end P3
end Mine.Internal
namespace Mine.Internal
open PySem
namespace P3
noncomputable def notCall:V:=.tup [.str 0,.tup []]
noncomputable abbrev cSet:Nat:=510173609197685
noncomputable def Ev (π τ:St) (ev:V) (D:Env):Prop:=∃ i,ev = .loc (π.length + 10 + i)∧τ[i]? = some (.dict D)
section
variable {π τ τ':St} {ct sp ht pk x:Int} {f m s n k d:Nat} {v r nd ev a b:V} {K:V→St→Prop} {D:Env} {T:TabK}
theorem tau_at {i:Nat}:(stt π ct sp ht pk τ)[π.length + 10 + i]? = τ[i]?:=by
 delta stt
 rw [Nat.add_assoc,List.getElem?_append_right (Nat.le_add_right ..),Nat.add_sub_cancel_left,Nat.add_comm]
 rfl
theorem Ev.pre (h:Ev π τ ev D) (p:τ <+: τ'):Ev π τ' ev D:=h.imp fun i w=>⟨w.1,pre_get p w.2⟩
theorem Ev.at (h:Ev π τ ev D):∃ j,ev = .loc j∧(stt π ct sp ht pk τ)[j]? = some (.dict D):=h.elim fun i w=>⟨_,w.1,tau_at.trans w.2⟩
theorem in_dict_at {σ:St} {n:Nat} {d:Env} {k:V} (h:σ[n]? = some (.dict d)):inE σ k (.loc n) = inD k d:=by
 have e1:asList σ (.loc n) = none:=by show locL σ[n]? = _; rw [h]; rfl
 have e2:asDict σ (.loc n) = some d:=by show locD σ[n]? = _; rw [h]; rfl
 delta inE; rw [e1,e2]; rfl
theorem Ev.in_ (h:Ev π τ ev D):inE (stt π ct sp ht pk τ) (.str k) ev = some (dget (.str k) D).isSome:=by
 obtain ⟨j,rfl,e⟩:=h.at (ct:=ct) (sp:=sp) (ht:=ht) (pk:=pk)
 rw [in_dict_at e]; rfl
theorem Ev.item (h:Ev π τ ev D) (hk:dget (.str k) D = some v):itemE (stt π ct sp ht pk τ) ev (.str k) = some v:=by
 obtain ⟨j,rfl,e⟩:=h.at (ct:=ct) (sp:=sp) (ht:=ht) (pk:=pk)
 show (locD (stt π ct sp ht pk τ)[j]?).bind (fun d=>dget (.str k) d) = _
 rw [e]; exact hk
noncomputable def NoSig (D:Env):Prop:=∀ s∈sigs,dget (.str s) D = none
noncomputable def BgT (T:TabK) (π:St) (D:Env) (nd:V):Prop:=∀ (ct sp ht pk:Int) (τ:St) (ev:V) (K:V→St→Prop),Ev π τ ev D→K notCall (stt π ct sp ht pk τ)→T.call 23 [.loc (π.length + 8),nd,ev] (stt π ct sp ht pk τ) K
noncomputable def BgB (T:TabK) (π:St) (D:Env) (nd:V):Prop:=∀ (ct sp ht pk:Int) (τ:St) (ev:V) (K:V→St→Prop),Ev π τ ev D→K notCall (stt π ct sp ht pk τ)→kSs prog T f_Opener_begun.body (enter f_Opener_begun [.loc (π.length + 8),nd,ev]) (stt π ct sp ht pk τ) (outK K)
noncomputable def Bg (d:Nat) (π:St) (D:Env) (nd:V):Prop:=∀ n,d≤n→BgT ⟨callK prog n⟩ π D nd
theorem Bg.of (h:∀ n,d≤n→BgB ⟨callK prog n⟩ π D nd):Bg (d + 1) π D nd:=fun n hn ct sp ht pk τ ev K e k=>call_i (d:=f_Opener_begun) (up1 hn) rfl rfl (h (n - 1) (dn1 hn) ct sp ht pk τ ev K e k)
theorem bg_sig (sh:Shp π) (hs:s∈sigs) (hD:NoSig D):Bg 5 π D (nmV s):=Bg.of fun n hn ct sp ht pk τ ev K e hk=>by
 have h8:∀ K:V→St→Prop,K (.int (-1)) (stt π ct sp ht pk τ)→TabK.call ⟨callK prog n⟩ 8 [.loc (π.length + 8),.str s] (stt π ct sp ht pk τ) K:=fun K hk=>eqn (plc_eq sh s hs · ct sp ht pk τ K) hn hk
 generalize TabK.mk (callK prog n) = T at h8 ⊢
 conv=>whnf
 refine oK_i (!false) (congrArg (Option.map (!·)) (e.in_.trans (congrArg (fun o=>some (Option.isSome o)) (hD s hs)))) ?_
 conv=>whnf
 refine oK_i _ (meth_i rfl rfl) ?_
 conv=>whnf
 refine h8 _ ?_
 exact hk
theorem bg_dot (h:Bg d π D b):Bg (d + 1) π D (binV 47 a b):=Bg.of fun n hn ct sp ht pk τ ev K e hk=>by
 have h:=h n hn
 generalize TabK.mk (callK prog n) = T at h ⊢
 conv=>whnf
 refine oK_i _ (meth_i rfl rfl) ?_
 conv=>whnf
 refine h ct sp ht pk τ ev _ e ?_
 exact hk
theorem bg_meet:Bg 1 π D (binV 39 a b):=Bg.of fun n hn ct sp ht pk τ ev K e hk=>by
 generalize TabK.mk (callK prog n) = T
 exact hk
noncomputable def OfT (T:TabK) (π:St) (D:Env) (nd:V):Prop:=∀ (ct sp ht pk:Int) (τ:St) (ev:V) (K:V→St→Prop),Ev π τ ev D→K notCall (stt π ct sp ht pk τ)→T.call 24 [.loc (π.length + 8),nd,ev] (stt π ct sp ht pk τ) K
theorem Bg.ofc (h:Bg d π D nd) (hn:d + 1≤n):OfT ⟨callK prog n⟩ π D nd:=fun ct sp ht pk τ ev K e hk=>call_i (d:=f_Opener_call_of) (up1 hn) rfl rfl (by
 have h:=h (n - 1) (dn1 hn)
 generalize TabK.mk (callK prog (n - 1)) = T at h ⊢
 conv=>whnf
 refine oK_i _ (meth_i rfl rfl) ?_
 conv=>whnf
 refine h ct sp ht pk τ ev _ e ?_
 exact hk)
end
end P3
end Mine.Internal
namespace Mine.Internal
open PySem
namespace P3
noncomputable def Cst (π τ:St) (D:Env) (k:Nat) (a b:Int):Prop:=∃ c0 C,(dget (.str 0) D).getD (.dict []) = c0∧((c0 = .dict C ∨ Ev π τ c0 C)∧(dget (.str k) C).getD (.tup [.int 1,.int 1]) = .tup [.int a,.int b])
noncomputable def RSh (r:V):Prop:=(∃ i,r = relV i) ∨ ((∃ l,r = varV l) ∨ ∃ q,r = joinV q)
section
variable {π τ τ':St} {ct sp ht pk x:Int} {f m s n k d z:Nat} {v r nd ev a b q:V} {K:V→St→Prop} {D:Env} {T:TabK} {ca cb:Int}
theorem Ev.dict (h:Ev π τ ev D):asDict (stt π ct sp ht pk τ) ev = some D:=by
 obtain ⟨j,rfl,e⟩:=h.at (ct:=ct) (sp:=sp) (ht:=ht) (pk:=pk)
 show locD (stt π ct sp ht pk τ)[j]? = _
 rw [e]; rfl
theorem used_x (h16:∀ K:V→St→Prop,K .none (stt π ct (sp + ca) ht (if pk < ht + cb then ht + cb else pk) τ)→T.call 16 [.loc (π.length + 8),.int ca,.int cb] (stt π ct sp ht pk τ) K) (c:Cst π τ D k ca cb) (e:Ev π τ ev D) (hk:dget (.str k) D = some r)
  (z:K r (stt π ct (sp + ca) ht (if pk < ht + cb then ht + cb else pk) τ)):kSs prog T f_Opener_used.body (enter f_Opener_used [.loc (π.length + 8),.str k,ev]) (stt π ct sp ht pk τ) (outK K):=by
 obtain ⟨c0,C,h0,h1,h2⟩:=c
 have hC:asDict (stt π ct sp ht pk τ) c0 = some C:=h1.elim (fun e=>e ▸ rfl) fun e=>e.dict
 conv=>whnf
 refine bK_i (by rw [e.dict]; rfl) ?_
 conv=>whnf
 refine oK_i _ e.dict ?_
 conv=>whnf
 rw [h0]
 refine bK_i (by rw [hC]; rfl) ?_
 conv=>whnf
 refine oK_i _ hC ?_
 conv=>whnf
 rw [h2]
 conv=>whnf
 refine oK_i _ (meth_i rfl rfl) ?_
 conv=>whnf
 refine h16 _ ?_
 conv=>whnf
 exact oK_i _ (e.item hk) z
theorem used_ok (hn:2≤n) (c:Cst π τ D k ca cb) (e:Ev π τ ev D) (hk:dget (.str k) D = some r) (h1:sp + ca≤20000) (h2:ht + cb≤100) (z:K r (stt π ct (sp + ca) ht (if pk < ht + cb then ht + cb else pk) τ)):callK prog n 18 [.loc (π.length + 8),.str k,ev] (stt π ct sp ht pk τ) K :=
 call_i (d:=f_Opener_used) (up1 hn) rfl rfl (used_x (fun K hk=>spend_ok (dn1 hn) h1 h2 hk) c e hk z)
theorem wanted_ok (hn:1≤n) (h:RSh r) {σ:St} (z:K r σ) {p:V} {sp:V}:callK prog n 37 [p,r,.str cSet,sp] σ K :=
 call_i (d:=f_Opener_wanted) hn rfl rfl (by
  generalize TabK.mk (callK prog (n - 1)) = T
  rcases h with ⟨i,rfl⟩ | ⟨l,rfl⟩ | ⟨q,rfl⟩ <;> exact z)
noncomputable def OxT (T:TabK) (π τ:St) (D:Env) (d z:Nat) (nd r:V):Prop:=∀ (ct sp ht pk:Int) (ev:V) (K:V→St→Prop),Ev π τ ev D→0≤sp→sp + z≤20000→ht + d≤100→(∀ sp' pk',sp≤sp'∧sp'≤sp + z→pk≤pk'∧(pk'≤pk ∨ pk'≤ht + d)→K r (stt π ct sp' ht pk' τ))→T.call 32 [.loc (π.length + 8),nd,ev] (stt π ct sp ht pk τ) K
noncomputable def OxB (T:TabK) (π τ:St) (D:Env) (d z:Nat) (nd r:V):Prop:=∀ (ct sp ht pk:Int) (ev:V) (K:V→St→Prop),Ev π τ ev D→0≤sp→sp + z≤20000→ht + d≤100→(∀ sp' pk',sp≤sp'∧sp'≤sp + z→pk≤pk'∧(pk'≤pk ∨ pk'≤ht + d)→K r (stt π ct sp' ht pk' τ))→kSs prog T f_Opener_expr_of.body (enter f_Opener_expr_of [.loc (π.length + 8),nd,ev]) (stt π ct sp ht pk τ) (outK K)
noncomputable def Ox (m:Nat) (π τ:St) (D:Env) (d z:Nat) (nd r:V):Prop:=∀ n,m≤n→OxT ⟨callK prog n⟩ π τ D d z nd r
theorem pk_step {pk pk' a b b':Int} (h:(if pk < a then a else pk)≤pk'∧(pk'≤(if pk < a then a else pk) ∨ pk'≤b)) (hab:a≤b') (e:b = b'):pk≤pk'∧(pk'≤pk ∨ pk'≤b'):=by
 subst e
 by_cases c:pk < a
 ·rw [if_pos c] at h
  exact ⟨Int.le_trans (Int.le_of_lt c) h.1,.inr (h.2.elim (fun q=>Int.le_trans q hab) id)⟩
 ·rw [if_neg c] at h
  exact h
theorem expr_x (h16:∀ K:V→St→Prop,K .none (stt π ct (sp + 1) (ht + 1) (if pk < ht + 1 + 0 then ht + 1 + 0 else pk) τ)→T.call 16 [.loc (π.length + 8),.int 1,.int 0] (stt π ct sp (ht + 1) pk τ) K)
  (h33:∀ pk (K:V→St→Prop),pk≤pk→(∀ sp' pk',sp + 1≤sp'∧sp'≤sp + 1 + z→pk≤pk'∧(pk'≤pk ∨ pk'≤ht + 1 + d)→K r (stt π ct sp' (ht + 1) pk' τ))→T.call 33 [.loc (π.length + 8),nd,ev] (stt π ct (sp + 1) (ht + 1) pk τ) K)
  (zz:∀ sp' pk',sp≤sp'∧sp'≤sp + (z + 1:Nat)→pk≤pk'∧(pk'≤pk ∨ pk'≤ht + (d + 1:Nat))→K r (stt π ct sp' ht pk' τ)):kSs prog T f_Opener_expr.body (enter f_Opener_expr [.loc (π.length + 8),nd,ev]) (stt π ct sp ht pk τ) (outK K):=by
 conv=>whnf
 refine oK_i _ (attr_i rfl) ?_
 conv=>whnf
 refine oK_i _ (set_i (ct':=ct) (sp':=sp) (ht':=ht + 1) (pk':=pk) rfl) ?_
 conv=>whnf
 refine oK_i _ (meth_i rfl rfl) ?_
 conv=>whnf
 refine h16 _ ?_
 conv=>whnf
 refine oK_i _ (meth_i rfl rfl) ?_
 conv=>whnf
 refine h33 _ _ (Int.le_refl _) fun sp' pk' h1 h2=>?_
 conv=>whnf
 refine oK_i _ (attr_i rfl) ?_
 conv=>whnf
 refine oK_i _ (set_i (ct':=ct) (sp':=sp') (ht':=ht) (pk':=pk') (by show setA (opF π.length ct sp' (ht + 1) pk') fHt (V.int (ht + 1 - 1)) = _; rw [Int.add_sub_cancel]; rfl)) ?_
 exact zz sp' pk' ⟨Int.le_trans (Int.le_of_lt (Int.lt_succ sp)) h1.1,Int.le_trans h1.2 (Int.le_of_eq (by rw [Int.add_assoc,Int.add_comm 1]; rfl))⟩ (pk_step h2 (Int.le_trans (Int.le_of_eq (Int.add_zero _)) (Int.add_le_add_left (Int.ofNat_le.mpr (Nat.le_add_left 1 d)) ht)) (by rw [Int.add_assoc,Int.add_comm 1]; rfl))
theorem Ox.of (h:∀ n,m≤n→OxB ⟨callK prog n⟩ π τ D d z nd r):Ox (m + 2) π τ D (d + 1) (z + 1) nd r:=fun n hn ct sp ht pk ev K e h0 h1 h2 k=>by
 have h1:sp + ((z:Int) + 1)≤20000:=h1
 have h2:ht + ((d:Int) + 1)≤100:=h2
 exact call_i (d:=f_Opener_expr) (up1 hn) rfl rfl (expr_x (z:=z) (d:=d) (fun K hk=>spend_ok (Nat.le_trans (Nat.le_add_left 1 m) (dn1 hn)) (by (first | lia | omega)) (by (first | lia | omega)) hk)
  (fun pk K _ hk=>call_i (d:=f_Opener_expr_of) (up1 (dn1 hn)) rfl rfl (h (n - 1 - 1) (dn1 (dn1 hn)) ct (sp + 1) (ht + 1) pk ev K e (by (first | lia | omega)) (by (first | lia | omega)) (by (first | lia | omega)) hk)) k)
end
end P3
end Mine.Internal
namespace Mine.Internal
open PySem
namespace P3
noncomputable def sgns:List (V × V):=((prog.glob 7).bind asDictV).getD []
section
variable {π τ τ':St} {ct sp ht pk x:Int} {f m s n k d z za zb op h:Nat} {v r r' nd ev a b q:V} {K:V→St→Prop} {D:Env} {T:TabK} {ca cb:Int}
theorem Ox.up {m' d' z':Nat} (h:Ox m π τ D d z nd r) (e:m≤m') (e1:d≤d') (e2:z≤z'):Ox m' π τ D d' z' nd r:=fun n hn ct sp ht pk ev K e h0 h1 h2 k =>
 h n (Nat.le_trans ‹_› hn) ct sp ht pk ev K e h0 (by (first | lia | omega)) (by (first | lia | omega)) fun sp' pk' a b=>k sp' pk' ⟨a.1,by (first | lia | omega)⟩ ⟨b.1,by (first | lia | omega)⟩
theorem ox_sigB (hs:s∈sigs) (hD:NoSig D) (h24:OfT T π D (nmV s)) (h9:∀ (ct sp ht pk:Int) (K:V→St→Prop),K (relV (nmI s)) (stt π ct sp ht pk τ)→T.call 9 [.loc (π.length + 8),.str s,.int 0] (stt π ct sp ht pk τ) K):OxB T π τ D 0 0 (nmV s) (relV (nmI s)):=fun ct sp ht pk ev K e h0 h1 h2 k=>by
 conv=>whnf
 refine oK_i false (e.in_.trans (congrArg (fun o=>some (Option.isSome o)) (hD s hs))) ?_
 conv=>whnf
 refine oK_i _ (meth_i rfl rfl) ?_
 conv=>whnf
 refine h24 ct sp ht pk τ ev _ e ?_
 conv=>whnf
 refine oK_i _ (meth_i rfl rfl) ?_
 conv=>whnf
 exact h9 ct sp ht pk _ (k sp pk ⟨Int.le_refl _,by (first | lia | omega)⟩ ⟨Int.le_refl _,.inl (Int.le_refl _)⟩)
theorem ox_sig (sh:Shp π) (hs:s∈sigs) (hD:NoSig D):Ox 8 π τ D 1 1 (nmV s) (relV (nmI s)):=Ox.of (m:=6) fun n hn =>
 ox_sigB hs hD ((bg_sig sh hs hD).ofc hn) fun ct sp ht pk K hk=>eqn (nam_eq sh s hs · ct sp ht pk τ K) (Nat.le_trans (by decide) hn) hk
theorem ox_varB (h18:∀ (ct sp ht pk:Int) (ev:V) (K:V→St→Prop),Ev π τ ev D→sp + ca≤20000→ht + cb≤100→K r (stt π ct (sp + ca) ht (if pk < ht + cb then ht + cb else pk) τ)→T.call 18 [.loc (π.length + 8),.str k,ev] (stt π ct sp ht pk τ) K)
  (h37:∀ (σ:St) (K:V→St→Prop),K r σ→T.call 37 [.loc (π.length + 8),r,.str cSet,.int 0] σ K) (hk:dget (.str k) D = some r) (ha:0≤ca∧ca≤z) (hb:cb≤d):OxB T π τ D d z (nmV k) r:=fun ct sp ht pk ev K e h0 h1 h2 kk=>by
 conv=>whnf
 refine oK_i true (e.in_.trans (congrArg (fun o=>some (Option.isSome o)) hk)) ?_
 conv=>whnf
 refine oK_i _ (meth_i rfl rfl) ?_
 conv=>whnf
 refine oK_i _ (meth_i rfl rfl) ?_
 conv=>whnf
 refine h18 ct sp ht pk ev _ e (by (first | lia | omega)) (by (first | lia | omega)) ?_
 conv=>whnf
 refine h37 _ _ ?_
 refine kk _ _ ⟨by (first | lia | omega),by (first | lia | omega)⟩ ?_
 split <;> (first | lia | omega)
theorem ox_var (c:Cst π τ D k ca cb) (hr:RSh r) (hk:dget (.str k) D = some r) (ha:0≤ca∧ca≤z) (hb:cb≤d):Ox 4 π τ D (d + 1) (z + 1) (nmV k) r:=Ox.of (m:=2) fun n hn =>
 ox_varB (fun ct sp ht pk ev K e h1 h2 hk'=>used_ok hn c e hk h1 h2 hk') (fun σ K hk=>wanted_ok (Nat.le_trans (by decide) hn) hr hk) hk ha hb
theorem ox_binB (hg:dget (.str op) sgns = some (.str h)) (h24:OfT T π D (binV op a b)) (ha:OxT T π τ D d za a r) (hb:OxT T π τ D d zb b r'):OxB T π τ D d (za + zb) (binV op a b) (.tup [.str h,r,r']):=fun ct sp ht pk ev K e h0 h1 h2 k=>by
 have h1:sp + ((za:Int) + zb)≤20000:=h1
 conv=>whnf
 refine oK_i _ (meth_i rfl rfl) ?_
 conv=>whnf
 refine h24 ct sp ht pk τ ev _ e ?_
 conv=>whnf
 refine iK_f (congrArg (fun o=>!(Option.isSome o)) hg) ?_
 conv=>whnf
 refine oK_i _ hg ?_
 conv=>whnf
 refine oK_i _ (meth_i rfl rfl) ?_
 conv=>whnf
 refine ha ct sp ht pk ev _ e h0 (by (first | lia | omega)) h2 fun sp1 pk1 b1 p1=>?_
 conv=>whnf
 refine oK_i _ (meth_i rfl rfl) ?_
 conv=>whnf
 refine hb ct sp1 ht pk1 ev _ e (by (first | lia | omega)) (by (first | lia | omega)) h2 fun sp2 pk2 b2 p2=>?_
 exact k sp2 pk2 ⟨by (first | lia | omega),by (first | lia | omega)⟩ ⟨by (first | lia | omega),by (first | lia | omega)⟩
theorem ox_bin {m':Nat} (hg:dget (.str op) sgns = some (.str h)) (hB:Bg m π D (binV op a b)) (ha:Ox m' π τ D d za a r) (hb:Ox m' π τ D d zb b r') (hm:m + 1≤m'):Ox (m' + 2) π τ D (d + 1) (za + zb + 1) (binV op a b) (.tup [.str h,r,r']):=Ox.of fun n hn =>
 ox_binB hg (hB.ofc (Nat.le_trans hm hn)) (ha n hn) (hb n hn)
theorem ox_dot (sh:Shp π) (hD:NoSig D) (c:Cst π τ D k ca cb) (hr:RSh r) (hk:dget (.str k) D = some r) (ha:0≤ca∧ca≤z) (hb:cb≤d):Ox 10 π τ D (d + 2) (z + 3) (dtV k) (joinV r) :=
 (ox_bin (d:=d + 1) (za:=z + 1) (zb:=1) (op:=47) (h:=986901300524892553327) rfl (bg_dot (bg_sig sh (s:=103) (by decide) hD)) ((ox_var c hr hk ha hb).up (by decide) (Nat.le_refl _) (Nat.le_refl _)) ((ox_sig sh (s:=103) (by decide) hD).up (Nat.le_refl _) (Nat.le_add_left ..) (Nat.le_refl _)) (by decide):Ox (8 + 2) π τ D (d + 2) (z + 3) (dtV k) (joinV r))
end
end P3
end Mine.Internal
namespace Mine.Internal
open PySem
namespace P3
section
variable {π τ τ':St} {ct ct' sp ht pk x:Int} {f m s n k d z za zb op h w:Nat} {v r r' nd ev a b q fm:V} {K:V→St→Prop} {D:Env} {T:TabK} {ca cb:Int}
noncomputable def FoT (T:TabK) (π τ:St) (D:Env) (nd:V):Prop:=∀ (ct sp ht pk:Int) (ev:V) (K:V→St→Prop),Ev π τ ev D→K (.str cSet) (stt π ct sp ht pk τ)→T.call 19 [.loc (π.length + 8),nd,ev] (stt π ct sp ht pk τ) K
noncomputable def FoB (T:TabK) (π τ:St) (D:Env) (nd:V):Prop:=∀ (ct sp ht pk:Int) (ev:V) (K:V→St→Prop),Ev π τ ev D→K (.str cSet) (stt π ct sp ht pk τ)→kSs prog T f_Opener_form.body (enter f_Opener_form [.loc (π.length + 8),nd,ev]) (stt π ct sp ht pk τ) (outK K)
noncomputable def Fo (m:Nat) (π τ:St) (D:Env) (nd:V):Prop:=∀ n,m≤n→FoT ⟨callK prog n⟩ π τ D nd
theorem Fo.of (h:∀ n,m≤n→FoB ⟨callK prog n⟩ π τ D nd):Fo (m + 1) π τ D nd:=fun n hn ct sp ht pk ev K e k=>call_i (d:=f_Opener_form) (up1 hn) rfl rfl (h (n - 1) (dn1 hn) ct sp ht pk ev K e k)
theorem Fo.up {m':Nat} (h:Fo m π τ D nd) (e:m≤m'):Fo m' π τ D nd:=fun n hn=>h n (Nat.le_trans e hn)
theorem fo_sigB (hs:s∈sigs) (hD:NoSig D) (h24:OfT T π D (nmV s)):FoB T π τ D (nmV s):=fun ct sp ht pk ev K e hk=>by
 conv=>whnf
 refine oK_i false (e.in_.trans (congrArg (fun o=>some (Option.isSome o)) (hD s hs))) ?_
 conv=>whnf
 refine oK_i _ (meth_i rfl rfl) ?_
 conv=>whnf
 refine h24 ct sp ht pk τ ev _ e ?_
 exact hk
theorem fo_sig (sh:Shp π) (hs:s∈sigs) (hD:NoSig D):Fo 7 π τ D (nmV s):=Fo.of (m:=6) fun n hn=>fo_sigB hs hD ((bg_sig sh hs hD).ofc hn)
theorem fo_var (hr:RSh r) (hk:dget (.str k) D = some r):Fo 1 π τ D (nmV k):=Fo.of (m:=0) fun n hn ct sp ht pk ev K e kk=>by
 generalize TabK.mk (callK prog n) = T
 conv=>whnf
 refine oK_i true (e.in_.trans (congrArg (fun o=>some (Option.isSome o)) hk)) ?_
 conv=>whnf
 refine oK_i _ (e.item hk) ?_
 rcases hr with ⟨i,rfl⟩ | ⟨l,rfl⟩ | ⟨q,rfl⟩ <;> exact kk
theorem fo_dotB (h24:OfT T π D (binV 47 a b)):FoB T π τ D (binV 47 a b):=fun ct sp ht pk ev K e hk=>by
 conv=>whnf
 refine oK_i _ (meth_i rfl rfl) ?_
 conv=>whnf
 refine h24 ct sp ht pk τ ev _ e ?_
 exact hk
theorem fo_dot (h:Bg m π D (binV 47 a b)):Fo (m + 2) π τ D (binV 47 a b):=Fo.of fun n hn=>fo_dotB (h.ofc hn)
noncomputable def TxT (T:TabK) (π τ:St) (D:Env) (ct ct':Int) (d z:Nat) (nd f:V):Prop:=∀ (sp ht pk:Int) (ev:V) (K:V→St→Prop),Ev π τ ev D→0≤sp→0≤ht→sp + z≤20000→ht + d≤100→(∀ sp' pk' τ',sp≤sp'∧sp'≤sp + z→τ <+: τ'→K f (stt π ct' sp' ht pk' τ'))→T.call 26 [.loc (π.length + 8),nd,ev] (stt π ct sp ht pk τ) K
noncomputable def TxB (T:TabK) (π τ:St) (D:Env) (ct ct':Int) (d z:Nat) (nd f:V):Prop:=∀ (sp ht pk:Int) (ev:V) (K:V→St→Prop),Ev π τ ev D→0≤sp→0≤ht→sp + z≤20000→ht + d≤100→(∀ sp' pk' τ',sp≤sp'∧sp'≤sp + z→τ <+: τ'→K f (stt π ct' sp' ht pk' τ'))→kSs prog T f_Opener_truth_of.body (enter f_Opener_truth_of [.loc (π.length + 8),nd,ev]) (stt π ct sp ht pk τ) (outK K)
noncomputable def Tx (m:Nat) (π τ:St) (D:Env) (ct ct':Int) (d z:Nat) (nd f:V):Prop:=∀ n,m≤n→TxT ⟨callK prog n⟩ π τ D ct ct' d z nd f
theorem truth_x (h16:∀ K:V→St→Prop,K .none (stt π ct (sp + 1) (ht + 1) (if pk < ht + 1 + 0 then ht + 1 + 0 else pk) τ)→T.call 16 [.loc (π.length + 8),.int 1,.int 0] (stt π ct sp (ht + 1) pk τ) K)
  (h27:∀ pk (K:V→St→Prop),(∀ sp' pk' τ',sp + 1≤sp'∧sp'≤sp + 1 + z→τ <+: τ'→K fm (stt π ct' sp' (ht + 1) pk' τ'))→T.call 27 [.loc (π.length + 8),nd,ev] (stt π ct (sp + 1) (ht + 1) pk τ) K)
  (zz:∀ sp' pk' τ',sp≤sp'∧sp'≤sp + (z + 1:Nat)→τ <+: τ'→K fm (stt π ct' sp' ht pk' τ')):kSs prog T f_Opener_truth.body (enter f_Opener_truth [.loc (π.length + 8),nd,ev]) (stt π ct sp ht pk τ) (outK K):=by
 conv=>whnf
 refine oK_i _ (attr_i rfl) ?_
 conv=>whnf
 refine oK_i _ (set_i (ct':=ct) (sp':=sp) (ht':=ht + 1) (pk':=pk) rfl) ?_
 conv=>whnf
 refine oK_i _ (meth_i rfl rfl) ?_
 conv=>whnf
 refine h16 _ ?_
 conv=>whnf
 refine oK_i _ (meth_i rfl rfl) ?_
 conv=>whnf
 refine h27 _ _ fun sp' pk' τ' h1 p=>?_
 conv=>whnf
 refine oK_i _ (attr_i rfl) ?_
 conv=>whnf
 refine oK_i _ (set_i (ct':=ct') (sp':=sp') (ht':=ht) (pk':=pk') (by show setA (opF π.length ct' sp' (ht + 1) pk') fHt (V.int (ht + 1 - 1)) = _; rw [Int.add_sub_cancel]; rfl)) ?_
 exact zz sp' pk' τ' ⟨by (first | lia | omega),by (first | lia | omega)⟩ p
theorem Tx.of (h:∀ n,m≤n→TxB ⟨callK prog n⟩ π τ D ct ct' d z nd fm):Tx (m + 2) π τ D ct ct' (d + 1) (z + 1) nd fm:=fun n hn sp ht pk ev K e h0 h00 h1 h2 k=>by
 have h1:sp + ((z:Int) + 1)≤20000:=h1
 have h2:ht + ((d:Int) + 1)≤100:=h2
 exact call_i (d:=f_Opener_truth) (up1 hn) rfl rfl (truth_x (z:=z) (fun K hk=>spend_ok (Nat.le_trans (Nat.le_add_left 1 m) (dn1 hn)) (by (first | lia | omega)) (by (first | lia | omega)) hk)
  (fun pk K hk=>call_i (d:=f_Opener_truth_of) (up1 (dn1 hn)) rfl rfl (h (n - 1 - 1) (dn1 (dn1 hn)) (sp + 1) (ht + 1) pk ev K e (by (first | lia | omega)) (by (first | lia | omega)) (by (first | lia | omega)) (by (first | lia | omega)) hk)) k)
theorem tx_un (hw:w∈words) (h:Ox m π τ D d z a r):Tx (m + 2) π τ D ct ct (d + 1) (z + 1) (unV w a) (.tup [.str w,r]):=Tx.of fun n hn sp ht pk ev K e h0 h00 h1 h2 k=>by
 have h:=h n hn
 generalize TabK.mk (callK prog n) = T at h ⊢
 have go:kE prog T (.tup [(.item (.var 1) (.cst (.int 2))),(.meth (.var 0) 940784479923051954291 [(.item (.var 1) (.cst (.int 3))),(.var 2)])]) [some (.loc (π.length + 8)),some (unV w a),some ev,some (.str 247464047),none,none,none,none,none,none,none] (stt π ct sp ht pk τ) K:=by
  conv=>whnf
  refine oK_i _ (meth_i rfl rfl) ?_
  conv=>whnf
  refine h ct sp ht pk ev _ e h0 h1 h2 fun sp1 pk1 b1 p1=>?_
  exact k sp1 pk1 τ b1 (List.prefix_refl τ)
 simp only [words,List.mem_cons,List.not_mem_nil,or_false] at hw
 rcases hw with rfl | rfl | rfl | rfl <;> exact go
end
end P3
end Mine.Internal
namespace Mine.Internal
open PySem
namespace P3
section
variable {π τ τ':St} {ct ct' sp ht pk x:Int} {f m s n k d z za zb op h w:Nat} {v r r' nd ev a b q fm:V} {K:V→St→Prop} {D:Env} {T:TabK} {ca cb:Int}
theorem all_of1 (hn:1≤n) {σ:St} (z:K v σ):callK prog n 1 [.list [v]] σ K:=call_i (d:=f_all_of) hn rfl rfl z
theorem not_marked {h:Nat} (hn:1≤n) (hh:h ≠ 1895596745844028559822159992) {l:List V} (hl:l.length≤1000) {σ:St} {p:V} (z:K (.bool false) σ):callK prog n 41 [p,.tup (.str h :: l)] σ K :=
 call_i (d:=f_Opener_is_marked) hn rfl rfl (by
  generalize TabK.mk (callK prog (n - 1)) = T
  have e:itemE σ (.tup (.str h :: l)) (.int 0) = some (.str h):=by
   show (idx (V.str h :: l).length 0).bind (fun j=>(V.str h :: l)[j]?) = _
   have e:idx (V.str h :: l).length 0 = some 0:=by
    delta idx
    rw [if_pos (by decide),if_pos ⟨by rw [List.length_cons]; (first | lia | omega),by decide⟩]; rfl
   rw [e]; rfl
  conv=>whnf
  refine oK_i _ e ?_
  conv=>whnf
  refine iK_t (b:=!decide (h = 1895596745844028559822159992)) (by rw [decide_eq_false hh]; rfl) ?_
  exact z)
theorem cm_eqB (hf:FoT T π τ D a) (ha:OxT T π τ D d za a r) (hb:OxT T π τ D d zb b r') {ht:Int} (e:Ev π τ ev D) (h0:0≤sp) (h1:sp + (za + zb:Nat)≤20000) (h2:ht + d≤100) (k:∀ sp' pk',sp≤sp'∧sp'≤sp + (za + zb:Nat)→K (f2V cSame r r') (stt π ct sp' ht pk' τ)) :
  kSs prog T f_Opener_compared.body (enter f_Opener_compared [.loc (π.length + 8),binV 62 a b,ev]) (stt π ct sp ht pk τ) (outK K):=by
 have h1:sp + ((za:Int) + zb)≤20000:=h1
 conv=>whnf
 refine oK_i _ (meth_i rfl rfl) ?_
 conv=>whnf
 refine hf ct sp ht pk ev _ e ?_
 conv=>whnf
 refine oK_i _ (meth_i rfl rfl) ?_
 conv=>whnf
 refine ha ct sp ht pk ev _ e h0 (by (first | lia | omega)) h2 fun sp1 pk1 b1 p1=>?_
 conv=>whnf
 refine oK_i _ (meth_i rfl rfl) ?_
 conv=>whnf
 refine hb ct sp1 ht pk1 ev _ e (by (first | lia | omega)) (by (first | lia | omega)) h2 fun sp2 pk2 b2 p2=>?_
 exact k sp2 pk2 ⟨by (first | lia | omega),by (first | lia | omega)⟩
theorem bd_x (hb:OxT T π τ D d z b r') (h41:∀ (σ:St) (K:V→St→Prop),K (.bool false) σ→T.call 41 [.loc (π.length + 8),b] σ K) (h1':∀ (v:V) (σ:St) (K:V→St→Prop),K v σ→T.call 1 [.list [v]] σ K) {ht:Int} (e:Ev π τ ev D) (h0:0≤sp) (h1:sp + z≤20000) (h2:ht + d≤100)
  (k:∀ sp' pk',sp≤sp'∧sp'≤sp + z→K (f2V cIn r r') (stt π ct sp' ht pk' τ)):kSs prog T f_Opener_bounded.body (enter f_Opener_bounded [.loc (π.length + 8),r,b,ev]) (stt π ct sp ht pk τ) (outK K):=by
 conv=>whnf
 refine oK_i _ (meth_i rfl rfl) ?_
 conv=>whnf
 refine hb ct sp ht pk ev _ e h0 h1 h2 fun sp1 pk1 b1 p1=>?_
 conv=>whnf
 refine oK_i _ (meth_i rfl rfl) ?_
 conv=>whnf
 refine h41 _ _ ?_
 conv=>whnf
 refine h1' _ _ _ ?_
 exact k sp1 pk1 b1
theorem cm_inB (ha:OxT T π τ D d za a r) (h42:∀ (ct sp ht pk:Int) (ev:V) (K:V→St→Prop),Ev π τ ev D→0≤sp→sp + zb≤20000→ht + d≤100→(∀ sp' pk',sp≤sp'∧sp'≤sp + zb→K (f2V cIn r r') (stt π ct sp' ht pk' τ))→T.call 42 [.loc (π.length + 8),r,b,ev] (stt π ct sp ht pk τ) K)
  {ht:Int} (e:Ev π τ ev D) (h0:0≤sp) (h1:sp + (za + zb:Nat)≤20000) (h2:ht + d≤100) (k:∀ sp' pk',sp≤sp'∧sp'≤sp + (za + zb:Nat)→K (f2V cIn r r') (stt π ct sp' ht pk' τ)) :
  kSs prog T f_Opener_compared.body (enter f_Opener_compared [.loc (π.length + 8),binV cIn a b,ev]) (stt π ct sp ht pk τ) (outK K):=by
 have h1:sp + ((za:Int) + zb)≤20000:=h1
 conv=>whnf
 refine oK_i _ (meth_i rfl rfl) ?_
 conv=>whnf
 refine oK_i _ (meth_i rfl rfl) ?_
 conv=>whnf
 refine ha ct sp ht pk ev _ e h0 (by (first | lia | omega)) h2 fun sp1 pk1 b1 p1=>?_
 conv=>whnf
 refine h42 ct sp1 ht pk1 ev _ e (by (first | lia | omega)) (by (first | lia | omega)) h2 fun sp2 pk2 b2=>?_
 exact k sp2 pk2 ⟨by (first | lia | omega),by (first | lia | omega)⟩
end
end P3
end Mine.Internal
namespace Mine.Internal
open PySem
namespace P3
section
variable {π τ τ':St} {ct ct' sp ht pk x:Int} {f m s n k d z za zb op h w:Nat} {v r r' nd ev a b q fm:V} {K:V→St→Prop} {D:Env} {T:TabK} {ca cb:Int}
noncomputable def NoArr (b:V):Prop:=∃ (h:Nat) (l:List V),b = .tup (.str h :: l)∧(h ≠ 1895596745844028559822159992∧l.length≤1000)
theorem tx_cmp {op:Nat} (hop:op = 62 ∨ op = cIn) (h29:∀ n,m≤n→∀ (ct sp ht pk:Int) (ev:V) (K:V→St→Prop),Ev π τ ev D→0≤sp→sp + z≤20000→ht + d≤100→(∀ sp' pk',sp≤sp'∧sp'≤sp + z→K fm (stt π ct sp' ht pk' τ))→callK prog n 29 [.loc (π.length + 8),binV op a b,ev] (stt π ct sp ht pk τ) K):Tx (m + 2) π τ D ct ct (d + 1) (z + 1) (binV op a b) fm:=Tx.of fun n hn sp ht pk ev K e h0 h00 h1 h2 k=>by
 have h:∀ (ct sp ht pk:Int) (ev:V) (K:V→St→Prop),Ev π τ ev D→0≤sp→sp + z≤20000→ht + d≤100→(∀ sp' pk',sp≤sp'∧sp'≤sp + z→K fm (stt π ct sp' ht pk' τ))→TabK.call ⟨callK prog n⟩ 29 [.loc (π.length + 8),binV op a b,ev] (stt π ct sp ht pk τ) K:=h29 n hn
 generalize TabK.mk (callK prog n) = T at h ⊢
 rcases hop with rfl | rfl
 ·conv=>whnf
  refine oK_i _ (meth_i rfl rfl) ?_
  conv=>whnf
  exact h ct sp ht pk ev _ e h0 h1 h2 fun sp' pk' b'=>k sp' pk' τ b' (List.prefix_refl τ)
 ·conv=>whnf
  refine oK_i _ (meth_i rfl rfl) ?_
  conv=>whnf
  exact h ct sp ht pk ev _ e h0 h1 h2 fun sp' pk' b'=>k sp' pk' τ b' (List.prefix_refl τ)
theorem tx_eq (hf:Fo m π τ D a) (ha:Ox m π τ D d za a r) (hb:Ox m π τ D d zb b r'):Tx (m + 3) π τ D ct ct (d + 1) (za + zb + 1) (binV 62 a b) (f2V cSame r r') :=
 tx_cmp (m:=m + 1) (.inl rfl) fun n hn ct sp ht pk ev K e h0 h1 h2 k=>call_i (d:=f_Opener_compared) (up1 hn) rfl rfl (cm_eqB (hf (n - 1) (dn1 hn)) (ha (n - 1) (dn1 hn)) (hb (n - 1) (dn1 hn)) e h0 h1 h2 k)
theorem tx_in (ha:Ox (m + 1) π τ D d za a r) (hb:Ox (m + 1) π τ D d zb b r') (nb:NoArr b):Tx (m + 5) π τ D ct ct (d + 1) (za + zb + 1) (binV cIn a b) (f2V cIn r r') :=
 tx_cmp (m:=m + 3) (.inr rfl) fun n hn ct sp ht pk ev K e h0 h1 h2 k=>call_i (d:=f_Opener_compared) (up1 hn) rfl rfl (cm_inB (ha (n - 1) (Nat.le_trans (Nat.le_succ _) (dn1 hn))) (fun ct sp ht pk ev K e h0 h1 h2 k=>call_i (d:=f_Opener_bounded) (up1 (dn1 hn)) rfl rfl (bd_x (hb (n - 1 - 1) (dn1 (dn1 hn))) (fun σ K z=>by
  obtain ⟨h,l,rfl,hh,hl⟩:=nb
  exact not_marked (up1 (dn1 (dn1 hn))) hh hl z) (fun v σ K z=>all_of1 (up1 (dn1 (dn1 hn))) z) e h0 h1 h2 k)) e h0 h1 h2 k)
theorem tx_not (h:Tx m π τ D ct ct' d z a fm):Tx (m + 2) π τ D ct ct' (d + 1) (z + 1) (unV 34 a) (notV fm):=Tx.of fun n hn sp ht pk ev K e h0 h00 h1 h2 k=>by
 have h:=h n hn
 generalize TabK.mk (callK prog n) = T at h ⊢
 conv=>whnf
 refine oK_i _ (meth_i rfl rfl) ?_
 conv=>whnf
 refine h sp ht pk ev _ e h0 h00 h1 h2 fun sp1 pk1 τ1 b1 p1=>?_
 exact k sp1 pk1 τ1 b1 p1
end
end P3
end Mine.Internal
namespace Mine.Internal
open PySem
namespace P3
section
variable {π τ τ':St} {ct ct' sp ht pk x:Int} {f m s n k d z za zb op h w:Nat} {v r r' nd ev a b q fm:V} {K:V→St→Prop} {D:Env} {T:TabK} {ca cb:Int}
theorem val_x (hf:FoT T π τ D nd) (ho:OxT T π τ D d z nd r) (e:Ev π τ ev D) (h0:0≤sp) (h1:sp + z≤20000) (h2:ht + d≤100) (k:∀ sp' pk',sp≤sp'∧sp'≤sp + z→pk≤pk'∧(pk'≤pk ∨ pk'≤ht + d)→K r (stt π ct sp' ht pk' τ)) :
  kSs prog T f_Opener_value.body (enter f_Opener_value [.loc (π.length + 8),nd,ev]) (stt π ct sp ht pk τ) (outK K):=by
 conv=>whnf
 refine oK_i _ (meth_i rfl rfl) ?_
 conv=>whnf
 refine hf ct sp ht pk ev _ e ?_
 conv=>whnf
 refine oK_i _ (meth_i rfl rfl) ?_
 conv=>whnf
 exact ho ct sp ht pk ev _ e h0 h1 h2 k
theorem msr_x (h21:∀ pk (K:V→St→Prop),(∀ sp' pk',sp≤sp'∧sp'≤sp + z→pk≤pk'∧(pk'≤pk ∨ pk'≤ht + d)→K r (stt π ct sp' ht pk' τ))→T.call 21 [.loc (π.length + 8),nd,ev] (stt π ct sp ht pk τ) K)
  (k:∀ sp' pk' (ca cb:Int),sp≤sp'∧sp'≤sp + z→(0≤ca∧ca≤z)∧(0≤cb∧cb≤d)→K (.tup [r,.tup [.int ca,.int cb]]) (stt π ct sp' ht pk' τ)) :
  kSs prog T f_Opener_measured.body (enter f_Opener_measured [.loc (π.length + 8),nd,ev]) (stt π ct sp ht pk τ) (outK K):=by
 conv=>whnf
 refine oK_i _ (attr_i rfl) ?_
 conv=>whnf
 refine oK_i _ (attr_i rfl) ?_
 conv=>whnf
 refine oK_i _ (attr_i rfl) ?_
 conv=>whnf
 refine oK_i _ (set_i (ct':=ct) (sp':=sp) (ht':=ht) (pk':=ht) rfl) ?_
 conv=>whnf
 refine oK_i _ (meth_i rfl rfl) ?_
 conv=>whnf
 refine h21 ht _ fun sp' pk' h1 h2=>?_
 conv=>whnf
 refine oK_i _ (attr_i rfl) ?_
 conv=>whnf
 refine oK_i _ (attr_i rfl) ?_
 conv=>whnf
 refine oK_i _ (attr_i rfl) ?_
 conv=>whnf
 refine oK_i _ (attr_i rfl) ?_
 conv=>whnf
 refine oK_i _ (set_i (ct':=ct) (sp':=sp') (ht':=ht) (pk':=if pk < pk' then pk' else pk) rfl) ?_
 exact k sp' _ (sp' - sp) (pk' - ht) h1 ⟨⟨by (first | lia | omega),by (first | lia | omega)⟩,by (first | lia | omega),by (first | lia | omega)⟩
theorem msr_ok (hn:m + 2≤n) (hf:Fo m π τ D nd) (ho:Ox m π τ D d z nd r) (e:Ev π τ ev D) (h0:0≤sp) (h1:sp + z≤20000) (h2:ht + d≤100)
  (k:∀ sp' pk' (ca cb:Int),sp≤sp'∧sp'≤sp + z→(0≤ca∧ca≤z)∧(0≤cb∧cb≤d)→K (.tup [r,.tup [.int ca,.int cb]]) (stt π ct sp' ht pk' τ)):callK prog n 17 [.loc (π.length + 8),nd,ev] (stt π ct sp ht pk τ) K :=
 call_i (d:=f_Opener_measured) (up1 hn) rfl rfl (msr_x (fun pk K k=>call_i (d:=f_Opener_value) (up1 (dn1 hn)) rfl rfl (val_x (hf (n - 1 - 1) (dn1 (dn1 hn))) (ho (n - 1 - 1) (dn1 (dn1 hn))) e h0 h1 h2 k)) k)
end
end P3
end Mine.Internal
namespace Mine.Internal
open PySem
namespace P3
section
variable {π τ τ':St} {ct ct' sp ht pk x:Int} {f m s n k d z j:Nat} {v r nd ev:V} {K:V→St→Prop} {D C:Env} {T:TabK} {o:SObj}
theorem stt_len:(stt π ct sp ht pk τ).length = π.length + 10 + τ.length:=by
 delta stt
 rw [List.length_append,List.length_append,List.length_cons,List.length_cons,show (sgsO π.length).length = 8 from rfl]
 (first | lia | omega)
theorem stt_push:stt π ct sp ht pk τ++[o] = stt π ct sp ht pk (τ++[o]):=by
 delta stt
 rw [List.append_assoc,List.append_assoc]; rfl
theorem tau_set:(stt π ct sp ht pk τ).set (π.length + 10 + j) o = stt π ct sp ht pk (τ.set j o):=by
 delta stt
 rw [Nat.add_assoc,List.set_append_right _ _ (Nat.le_add_right ..),Nat.add_sub_cancel_left,Nat.add_comm]
 rfl
theorem sto_i (h:τ[j]? = some (.dict D)) (hl:D.length≤capL):setObj (.loc (π.length + 10 + j)) (.str k) v (stt π ct sp ht pk τ) = some (stt π ct sp ht pk (τ.set j (.dict (dset (.str k) v D)))):=by
 show setObjO (.str k) v (π.length + 10 + j) (stt π ct sp ht pk τ) (stt π ct sp ht pk τ)[π.length + 10 + j]? = _
 rw [tau_at,h]
 show (if (keyOk (.str k) && decide (D.length≤capL)) = true then some ((stt π ct sp ht pk τ).set (π.length + 10 + j) (.dict (dset (.str k) v D))) else _) = _
 rw [decide_eq_true hl,tau_set]; rfl
end
end P3
end Mine.Internal
namespace Mine.Internal
open PySem
namespace P3
section
variable {π τ τ':St} {ct ct' sp ht pk x:Int} {f m s n k d z j:Nat} {v r nd bd ev:V} {K:V→St→Prop} {D C:Env} {T:TabK} {o:SObj}
noncomputable def letD (τ:St) (p:Nat) (D:Env) (k:Nat) (r:V):Env:=dset (.str k) r (dset (.str 0) (.loc (p + 10 + (τ.length + 1))) D)
theorem let_x (h17:∀ (τ1:St) (K:V→St→Prop),τ <+: τ1→Ev π τ1 ev D→(∀ sp' pk' (ca cb:Int),sp≤sp'∧sp'≤sp + z→(0≤ca∧ca≤z)∧(0≤cb∧cb≤d)→K (.tup [r,.tup [.int ca,.int cb]]) (stt π ct sp' ht pk' τ1))→T.call 17 [.loc (π.length + 8),nd,ev] (stt π ct sp ht pk τ1) K)
  (e:Ev π τ ev D) (hl:D.length≤1000) (h0:(dget (.str 0) D).getD (.dict []) = .dict []) (hk:k ≠ 0)
  (zz:∀ sp' pk' (ca cb:Int),sp≤sp'∧sp'≤sp + z→(0≤ca∧ca≤z)∧(0≤cb∧cb≤d)→K (.loc (π.length + 10 + τ.length)) (stt π ct sp' ht pk' (τ++[.dict (letD τ π.length D k r),.dict [(.str k,.tup [.int ca,.int cb])]]))) :
  kSs prog T f_Opener_let_env.body (enter f_Opener_let_env [.loc (π.length + 8),letV k nd bd,ev]) (stt π ct sp ht pk τ) (outK K):=by
 have dl:∀ {τ},Ev π τ ev D→biE (stt π ct sp ht pk τ) .dict [ev] = some (.dict D):=fun {τ} e=>by
  obtain ⟨j,rfl,h⟩:=e.at (ct:=ct) (sp:=sp) (ht:=ht) (pk:=pk)
  show (asDict _ (V.loc j)).bind _ = _
  show (locD (stt π ct sp ht pk τ)[j]?).bind _ = _
  rw [h]
  exact if_pos (Nat.le_trans hl (by decide))
 conv=>whnf
 refine oK_i _ (dl e) ?_
 conv=>whnf
 rw [stt_push,stt_len]
 have e1:=e.pre (List.prefix_append τ [SObj.dict D])
 refine bK_i (by rw [e1.dict]; rfl) ?_
 conv=>whnf
 refine oK_i _ e1.dict ?_
 conv=>whnf
 rw [h0]
 conv=>whnf
 rw [stt_push,stt_len,List.append_assoc,List.length_append]
 have g0:(τ++([SObj.dict D]++[SObj.dict []]))[τ.length]? = some (.dict D):=by rw [List.getElem?_append_right (Nat.le_refl _),Nat.sub_self]; rfl
 have s0:(τ++([SObj.dict D]++[SObj.dict []])).set τ.length (.dict (dset (.str 0) (.loc (π.length + 10 + (τ.length + 1))) D)) = τ++[SObj.dict (dset (.str 0) (.loc (π.length + 10 + (τ.length + 1))) D),.dict []]:=by rw [List.set_append_right _ _ (Nat.le_refl _),Nat.sub_self]; rfl
 conv=>whnf
 refine oK_i _ ((sto_i g0 (Nat.le_trans hl (by decide))).trans (congrArg (fun t=>some (stt π ct sp ht pk t)) s0)) ?_
 conv=>whnf
 refine oK_i _ (meth_i rfl rfl) ?_
 conv=>whnf
 refine h17 _ _ (List.prefix_append ..) (e.pre (List.prefix_append ..)) fun sp' pk' ca cb h1 h2=>?_
 have g1:(τ++[SObj.dict (dset (.str 0) (.loc (π.length + 10 + (τ.length + 1))) D),SObj.dict []])[τ.length]? = some (.dict (dset (.str 0) (.loc (π.length + 10 + (τ.length + 1))) D)):=by rw [List.getElem?_append_right (Nat.le_refl _),Nat.sub_self]; rfl
 have s1:(τ++[SObj.dict (dset (.str 0) (.loc (π.length + 10 + (τ.length + 1))) D),SObj.dict []]).set τ.length (.dict (letD τ π.length D k r)) = τ++[SObj.dict (letD τ π.length D k r),.dict []]:=by rw [List.set_append_right _ _ (Nat.le_refl _),Nat.sub_self]; rfl
 conv=>whnf
 refine oK_i _ ((sto_i g1 (Nat.le_trans dset_len (Nat.le_trans (Nat.succ_le_succ hl) (by decide)))).trans (congrArg (fun t=>some (stt π ct sp' ht pk' t)) s1)) ?_
 have g2:Ev π (τ++[SObj.dict (letD τ π.length D k r),SObj.dict []]) (.loc (π.length + 10 + τ.length)) (letD τ π.length D k r):=⟨τ.length,rfl,by rw [List.getElem?_append_right (Nat.le_refl _),Nat.sub_self]; rfl⟩
 have g3:dget (.str 0) (letD τ π.length D k r) = some (.loc (π.length + 10 + (τ.length + 1))):=(dget_ne (Ne.symm hk)).trans dget_same
 have g4:(τ++[SObj.dict (letD τ π.length D k r),SObj.dict []])[τ.length + 1]? = some (.dict []):=by rw [List.getElem?_append_right (Nat.le_succ _),show τ.length.succ - τ.length = 1 from Nat.add_sub_cancel_left (n:=τ.length) (m:=1)]; rfl
 have s4:(τ++[SObj.dict (letD τ π.length D k r),SObj.dict []]).set (τ.length + 1) (.dict [(.str k,.tup [.int ca,.int cb])]) = τ++[SObj.dict (letD τ π.length D k r),.dict [(.str k,.tup [.int ca,.int cb])]]:=by rw [List.set_append_right _ _ (Nat.le_succ _),show τ.length.succ - τ.length = 1 from Nat.add_sub_cancel_left (n:=τ.length) (m:=1)]; rfl
 conv=>whnf
 refine oK_i _ (g2.item g3) ?_
 conv=>whnf
 refine oK_i _ ((sto_i g4 (Nat.zero_le _)).trans (congrArg (fun t=>some (stt π ct sp' ht pk' t)) s4)) ?_
 exact zz sp' pk' ca cb h1 h2
end
end P3
end Mine.Internal
namespace Mine.Internal
open PySem
namespace P3
section
variable {π τ τ':St} {ct ct' sp ht pk x:Int} {f m s n k d z j zb db:Nat} {v r nd bd ev fm:V} {K:V→St→Prop} {D C:Env} {T:TabK} {o:SObj}
theorem lt_x (h22:∀ (K:V→St→Prop),(∀ sp' pk' (ca cb:Int),sp≤sp'∧sp'≤sp + z→(0≤ca∧ca≤z)∧(0≤cb∧cb≤d)→K (.loc (π.length + 10 + τ.length)) (stt π ct sp' ht pk' (τ++[.dict (letD τ π.length D k r),.dict [(.str k,.tup [.int ca,.int cb])]])))→T.call 22 [.loc (π.length + 8),letV k nd bd,ev] (stt π ct sp ht pk τ) K)
  (h26:∀ (ca cb:Int),(0≤ca∧ca≤z)∧(0≤cb∧cb≤d)→TxT T π (τ++[.dict (letD τ π.length D k r),.dict [(.str k,.tup [.int ca,.int cb])]]) (letD τ π.length D k r) ct ct' db zb bd fm) (h0:0≤sp) (h00:0≤ht) (h1:sp + (z + zb:Nat)≤20000) (h2:ht + db≤100)
  (zz:∀ sp' pk' τ',sp≤sp'∧sp'≤sp + (z + zb:Nat)→τ <+: τ'→K fm (stt π ct' sp' ht pk' τ')):kSs prog T f_Opener_truth_of.body (enter f_Opener_truth_of [.loc (π.length + 8),letV k nd bd,ev]) (stt π ct sp ht pk τ) (outK K):=by
 have h1:sp + ((z:Int) + zb)≤20000:=h1
 conv=>whnf
 refine oK_i _ (meth_i rfl rfl) ?_
 conv=>whnf
 refine oK_i _ (meth_i rfl rfl) ?_
 conv=>whnf
 refine h22 _ fun sp1 pk1 ca cb b1 c1=>?_
 conv=>whnf
 refine h26 ca cb c1 sp1 ht pk1 _ _ ⟨τ.length,rfl,by rw [List.getElem?_append_right (Nat.le_refl _),Nat.sub_self]; rfl⟩ (by (first | lia | omega)) h00 (by (first | lia | omega)) h2 fun sp2 pk2 τ2 b2 p2=>?_
 exact zz sp2 pk2 τ2 ⟨by (first | lia | omega),by (first | lia | omega)⟩ ((List.prefix_append ..).trans p2)
end
end P3
end Mine.Internal
namespace Mine.Internal
open PySem
namespace P3
section
variable {π τ τ':St} {ct ct' sp ht pk x:Int} {f m s n k d z j zb db:Nat} {v r nd bd ev fm:V} {K:V→St→Prop} {D C:Env} {T:TabK} {o:SObj}
theorem tx_let (hfo:∀ τ',τ <+: τ'→Fo m π τ' D nd) (hoo:∀ τ',τ <+: τ'→Ox m π τ' D d z nd r) (hl:D.length≤1000) (h0:(dget (.str 0) D).getD (.dict []) = .dict []) (hk:k ≠ 0) (hd:d≤db)
  (hb:∀ (ca cb:Int),(0≤ca∧ca≤z)∧(0≤cb∧cb≤d)→Tx (m + 3) π (τ++[.dict (letD τ π.length D k r),.dict [(.str k,.tup [.int ca,.int cb])]]) (letD τ π.length D k r) ct ct' db zb bd fm) :
  Tx (m + 5) π τ D ct ct' (db + 1) (z + zb + 1) (letV k nd bd) fm:=Tx.of fun n hn sp ht pk ev K e a0 a00 a1 a2 kk =>
 lt_x (d:=d) (z:=z) (r:=r) (fun K hK=>call_i (d:=f_Opener_let_env) (up1 hn) rfl rfl (let_x (d:=d) (z:=z) (fun τ1 K p1 e1 hK=>msr_ok (n:=n - 1) (m:=m) (by (first | lia | omega)) (hfo τ1 p1) (hoo τ1 p1) e1 a0 (by (first | lia | omega)) (by (first | lia | omega)) hK) e hl h0 hk hK)) (fun ca cb c=>hb ca cb c n hn) a0 a00 a1 a2 kk
end
end P3
end Mine.Internal
namespace Mine.Internal
open PySem
namespace P3
structure Eg (π τ:St) (T:Tam) (D:Env) (z d:Nat):Prop where
 get:∀ k r,T k = some r→dget (.str k) D = some r∧(RSh r∧∃ ca cb:Int,Cst π τ D k ca cb∧((0≤ca∧ca≤z)∧cb≤d))
 no:NoSig D
structure Eo (Γ:Gam) (D:Env):Prop where
 get:∀ k l,Γ k = some l→dget (.str k) D = some (varV l)
 no:NoSig D
 z:(dget (.str 0) D).getD (.dict []) = .dict []
 nz:∀ l,Γ 0 ≠ some l
section
variable {π τ τ':St} {ct ct' sp ht pk x ca cb:Int} {f:V} {m n k d d' z z':Nat} {v r nd nd' ev fm:V} {K:V→St→Prop} {D:Env} {T:Tam} {Γ:Gam}
theorem nmI_sgI {s:Nat} (h:s∈[66,67]):relV (sgI s) = relV (nmI s):=by
 rcases List.mem_cons.mp h with rfl | h
 ·rfl
 ·cases List.mem_singleton.mp h; rfl
theorem Tx.up {m':Nat} (h:Tx m π τ D ct ct' d z nd fm) (e:m≤m') (e1:d≤d') (e2:z≤z'):Tx m' π τ D ct ct' d' z' nd fm:=fun n hn sp ht pk ev K e0 h0 h00 h1 h2 k =>
 h n (Nat.le_trans e hn) sp ht pk ev K e0 h0 h00 (by (first | lia | omega)) (by (first | lia | omega)) fun sp' pk' τ' a p=>k sp' pk' τ' ⟨a.1,by (first | lia | omega)⟩ p
theorem ex_x (sh:Shp π) (g:Eg π τ T D z d) (h:Ex T nd r):Ox 10 π τ D (d + 2) (z + 3) nd r∧(Fo 8 π τ D nd∧(NoArr nd∧RSh r)):=by
 rcases h with ⟨s,hs,rfl,rfl⟩ | ⟨k,rfl,e⟩ | ⟨k,r0,rfl,e,rfl⟩
 ·have hs':s∈sigs:=(List.mem_append.mpr (.inl hs):s∈[66,67]++[103])
  rw [nmI_sgI hs]
  exact ⟨(ox_sig sh hs' g.no).up (by decide) (Nat.le_add_left ..) (Nat.le_trans (by decide) (Nat.le_add_left 3 z)),(fo_sig sh hs' g.no).up (by decide),⟨_,_,rfl,by decide,(by decide:2≤1000)⟩,.inl ⟨_,rfl⟩⟩
 ·obtain ⟨hk,hr,ca,cb,c,ha,hb⟩:=g.get k r e
  exact ⟨(ox_var c hr hk ha hb).up (by decide) (Nat.le_succ _) (Nat.add_le_add_left (by decide) z),(fo_var hr hk).up (by decide),⟨_,_,rfl,by decide,(by decide:2≤1000)⟩,hr⟩
 ·obtain ⟨hk,hr,ca,cb,c,ha,hb⟩:=g.get k r0 e
  exact ⟨ox_dot sh g.no c hr hk ha hb,(fo_dot (bg_dot (bg_sig sh (s:=103) (by decide) g.no))).up (by decide),⟨_,_,rfl,by decide,(by decide:4≤1000)⟩,.inr (.inr ⟨_,rfl⟩)⟩
theorem lf_x (sh:Shp π) (g:Eg π τ T D z d) (h:Lt T nd f):Tx 14 π τ D ct ct (d + 3) (z + 3 + (z + 3) + 1) nd f:=by
 rcases h with ⟨a,b,r,q,ha,hb,rfl,rfl⟩ | ⟨a,b,r,q,ha,hb,rfl,rfl⟩ | ⟨w,hw,a,r,ha,rfl,rfl⟩
 ·have xa:=ex_x sh g ha
  have xb:=ex_x sh g hb
  exact tx_in (m:=9) xa.1 xb.1 xb.2.2.1
 ·have xa:=ex_x sh g ha
  have xb:=ex_x sh g hb
  exact (tx_eq (m:=10) (xa.2.1.up (by decide)) xa.1 xb.1).up (by decide) (Nat.le_refl _) (Nat.le_refl _)
 ·exact (tx_un hw (ex_x sh g ha).1).up (by decide) (Nat.le_refl _) (by (first | lia | omega))
theorem Eo.eg (g:Eo Γ D):Eg π τ Γ.t D 1 1:=⟨fun k r e=>by
 obtain ⟨l,el,rfl⟩:=Option.map_eq_some_iff.mp e
 exact ⟨g.get k l el,.inr (.inl ⟨l,rfl⟩),1,1,⟨.dict [],[],g.z,.inl rfl,rfl⟩,⟨by decide,by decide⟩,by decide⟩,g.no⟩
theorem Eo.let_ (g:Eo Γ D) (hr:RSh r) (hk:k ∉ sigs) (h0:k ≠ 0) (ha:0≤ca∧ca≤z) (hb:cb≤d) (h1:1≤z) (h2:1≤d):Eg π (τ++[.dict (letD τ π.length D k r),.dict [(.str k,.tup [.int ca,.int cb])]]) (setT Γ.t k r) (letD τ π.length D k r) z d:=by
 have hE:Ev π (τ++[.dict (letD τ π.length D k r),.dict [(.str k,.tup [.int ca,.int cb])]]) (.loc (π.length + 10 + (τ.length + 1))) [(.str k,.tup [.int ca,.int cb])]:=⟨τ.length + 1,rfl,by rw [List.getElem?_append_right (Nat.le_succ _),show τ.length.succ - τ.length = 1 from Nat.add_sub_cancel_left (n:=τ.length) (m:=1)]; rfl⟩
 have g3:(dget (.str 0) (letD τ π.length D k r)).getD (.dict []) = .loc (π.length + 10 + (τ.length + 1)):=congrArg (Option.getD · _) ((dget_ne (Ne.symm h0)).trans dget_same)
 refine ⟨fun j q e=>?_,fun s hs=>(dget_ne (k:=s) (l:=k) fun q=>hk (q ▸ hs)).trans ((dget_ne (k:=s) (l:=0) fun q=>absurd (q ▸ hs) (by decide)).trans (g.no s hs))⟩
 unfold setT at e
 by_cases hj:j = k
 ·rw [if_pos hj] at e
  cases Option.some.inj e
  exact ⟨hj ▸ dget_same,hr,ca,cb,⟨_,_,g3,.inr hE,by rw [hj]; exact congrArg (Option.getD · _) (dget_same (e:=[]))⟩,ha,hb⟩
 ·rw [if_neg hj] at e
  obtain ⟨l,el,rfl⟩:=Option.map_eq_some_iff.mp e
  have j0:j ≠ 0:=fun q=>g.nz l (q ▸ el)
  exact ⟨(dget_ne hj).trans ((dget_ne j0).trans (g.get j l el)),.inr (.inl ⟨l,rfl⟩),1,1,⟨_,_,g3,.inr hE,congrArg (Option.getD · (V.tup [.int 1,.int 1])) (dget_ne (e:=[]) hj)⟩,⟨by decide,by (first | lia | omega)⟩,by (first | lia | omega)⟩
theorem lt_tx (sh:Shp π) (g:Eo Γ D) (hl:D.length≤1000) (h1:Ex Γ.t nd r) (hk:k ∉ sigs) (h0:k ≠ 0) (h2:Lt (setT Γ.t k r) nd' f):Tx 16 π τ D ct ct 7 20 (letV k nd nd') f :=
 tx_let (m:=11) (d:=3) (z:=4) (db:=6) (zb:=15) (fun τ' _=>(ex_x sh g.eg h1).2.1.up (by decide)) (fun τ' _=>(ex_x sh g.eg h1).1.up (by decide) (Nat.le_refl _) (Nat.le_refl _)) hl g.z h0 (by decide)
  fun ca cb c=>lf_x (z:=4) (d:=3) sh (g.let_ (ex_x (τ:=τ) sh g.eg h1).2.2.2 hk h0 c.1 c.2.2 (by decide) (by decide)) h2
end
end P3
end Mine.Internal
namespace Mine.Internal
open PySem
namespace P3
noncomputable abbrev xyz:List Nat:=[121,122,123]
noncomputable def lab (k c:Nat):Nat:=catS (catS (catS 0 k) 40) (encL (digs c))
noncomputable def labs:Nat→List Nat→List Nat
 | _,[]=>[]
 | c,k :: r=>lab k (c + 1) :: labs (c + 1) r
section
variable {π τ τ':St} {ct ct' sp ht pk x ca cb:Int} {c m n k d z:Nat} {v r nd nd' ev fm:V} {K:V→St→Prop} {D:Env} {T:Tam} {Γ:Gam} {a b o:SObj} {l:List V}
theorem fr_eq:∀ {π:St},Shp π→∀ k∈xyz,∀ c∈[0,1,2,3,4],∀ n sp ht pk τ K,callK prog (n + 1) 4 [.loc (π.length + 8),.str k] (stt π (c:Nat) sp ht pk τ) K = K (.str (lab k (c + 1))) (stt π (c + 1:Nat) sp ht pk τ):=by
 rintro _ (⟨a,b,c,rfl⟩ | ⟨a,b,c,d,e,rfl⟩)
 all_goals refine List.forall_mem_cons.mpr ⟨?_,List.forall_mem_cons.mpr ⟨?_,List.forall_mem_cons.mpr ⟨?_,List.forall_mem_nil _⟩⟩⟩
 all_goals refine List.forall_mem_cons.mpr ⟨?_,List.forall_mem_cons.mpr ⟨?_,List.forall_mem_cons.mpr ⟨?_,List.forall_mem_cons.mpr ⟨?_,List.forall_mem_cons.mpr ⟨?_,List.forall_mem_nil _⟩⟩⟩⟩⟩
 all_goals exact fun n sp ht pk τ K=>by kernel_rfl!
theorem fr_ok (sh:Shp π) (hn:1≤n) (hk:k∈xyz) (hc:c∈[0,1,2,3,4]) (z:K (.str (lab k (c + 1))) (stt π (c + 1:Nat) sp ht pk τ)):callK prog n 4 [.loc (π.length + 8),.str k] (stt π c sp ht pk τ) K:=eqn (fr_eq sh k hk c hc · sp ht pk τ K) hn z
theorem labs_len:∀ (ns:List Nat) (c:Nat),(labs c ns).length = ns.length
 | [],_=>rfl
 | _ :: ns,c=>congrArg (· + 1) (labs_len ns (c + 1))
theorem g0:(τ++[a,b,o])[τ.length]? = some a:=by rw [List.getElem?_append_right (Nat.le_refl _),Nat.sub_self]; rfl
theorem g1:(τ++[a,b,o])[τ.length + 1]? = some b:=by rw [List.getElem?_append_right (Nat.le_add_right ..),Nat.add_sub_cancel_left]; rfl
theorem g2:(τ++[a,b,o])[τ.length + 2]? = some o:=by rw [List.getElem?_append_right (Nat.le_add_right ..),Nat.add_sub_cancel_left]; rfl
theorem s0 {x:SObj}:(τ++[a,b,o]).set τ.length x = τ++[x,b,o]:=by rw [List.set_append_right _ _ (Nat.le_refl _),Nat.sub_self]; rfl
theorem s1 {x:SObj}:(τ++[a,b,o]).set (τ.length + 1) x = τ++[a,x,o]:=by rw [List.set_append_right _ _ (Nat.le_add_right ..),Nat.add_sub_cancel_left]; rfl
theorem s2 {x:SObj}:(τ++[a,b,o]).set (τ.length + 2) x = τ++[a,b,x]:=by rw [List.set_append_right _ _ (Nat.le_add_right ..),Nat.add_sub_cancel_left]; rfl
theorem app0 (hl:(l++[v]).length≤capL):mthE .app (.loc (π.length + 10 + τ.length)) v (stt π ct sp ht pk (τ++[.list l,b,o])) = some (stt π ct sp ht pk (τ++[.list (l++[v]),b,o])) :=
 (app_i (tau_at.trans g0) hl).trans (congrArg some (tau_set.trans (congrArg (stt π ct sp ht pk) s0)))
theorem ext2 {ks:List V} (hl:(l++ks).length≤capL):mthE .ext (.loc (π.length + 10 + (τ.length + 2))) (.list ks) (stt π ct sp ht pk (τ++[a,b,.list l])) = some (stt π ct sp ht pk (τ++[a,b,.list (l++ks)])) :=
 (ext_i (tau_at.trans g2) hl).trans (congrArg some (tau_set.trans (congrArg (stt π ct sp ht pk) s2)))
theorem upd1 {ps:List (Nat × V)} (hl:D.length + ps.length≤capL):mthE .upd (.loc (π.length + 10 + (τ.length + 1))) (.list (prsL ps)) (stt π ct sp ht pk (τ++[a,.dict D,o])) = some (stt π ct sp ht pk (τ++[a,.dict (ext D ps),o])):=by
 show mthO _ _ (π.length + 10 + (τ.length + 1)) .upd (stt π ct sp ht pk (τ++[a,.dict D,o]))[π.length + 10 + (τ.length + 1)]? = _
 rw [tau_at,g1]
 show (if D.length + (prsL ps).length≤capL then (updD D (prsL ps)).map (fun d=>(stt π ct sp ht pk (τ++[a,.dict D,o])).set (π.length + 10 + (τ.length + 1)) (.dict d)) else _) = _
 rw [if_pos (show D.length + (prsL ps).length≤capL by delta prsL; rw [List.length_map]; exact hl),updD_prs]
 show some ((stt π ct sp ht pk (τ++[a,.dict D,o])).set (π.length + 10 + (τ.length + 1)) (.dict (ext D ps))) = _
 rw [tau_set,s1]
theorem sto1 (hl:D.length≤capL):setObj (.loc (π.length + 10 + (τ.length + 1))) (.str k) v (stt π ct sp ht pk (τ++[a,.dict D,o])) = some (stt π ct sp ht pk (τ++[a,.dict (dset (.str k) v D),o])) :=
 (sto_i g1 hl).trans (congrArg (fun t=>some (stt π ct sp ht pk t)) s1)
theorem con0:isCon .app (.loc (π.length + 10 + τ.length)) (stt π ct sp ht pk (τ++[.list l,b,o])) = true:=con_i rfl (tau_at.trans g0)
theorem con2:isCon .ext (.loc (π.length + 10 + (τ.length + 2))) (stt π ct sp ht pk (τ++[a,b,.list l])) = true:=con_i rfl (tau_at.trans g2)
theorem con1:isCon .upd (.loc (π.length + 10 + (τ.length + 1))) (stt π ct sp ht pk (τ++[a,.dict D,o])) = true:=by
 show conO .upd (stt π ct sp ht pk (τ++[a,.dict D,o]))[π.length + 10 + (τ.length + 1)]? = _
 rw [tau_at,g1]; rfl
theorem ev1:Ev π (τ++[a,.dict D,o]) (.loc (π.length + 10 + (τ.length + 1))) D:=⟨_,rfl,g1⟩
theorem dm_x {ds:Dsc} (sh:Shp π) (g:Eo Γ D) (hs:ds.s∈[66,67]) (hl:∀ p,ds.late = some p→Γ p.1 = some p.2):Ox 12 π τ D 4 6 ds.dom ds.X∧∀ n,6≤n→∀ ct sp ht pk τ (K:V→St→Prop),K (.int 1) (stt π ct sp ht pk τ)→callK prog n 13 [.loc (π.length + 8),ds.X] (stt π ct sp ht pk τ) K:=by
 have hs':ds.s∈sigs:=(List.mem_append.mpr (.inl hs):ds.s∈[66,67]++[103])
 have xs:Ox 8 π τ D 1 1 (nmV ds.s) (relV (sgI ds.s)):=nmI_sgI hs ▸ ox_sig sh hs' g.no
 delta Dsc.dom Dsc.X
 cases e:ds.late with
 | none=>exact ⟨xs.up (by decide) (by decide) (by decide),fun n hn ct sp ht pk τ K hk=>eqn (art_eq sh ds.s hs · ct sp ht pk τ K) (Nat.le_trans (by decide) hn) hk⟩
 | some p =>
  obtain ⟨hk,hr,ca,cb,c,ha,hb⟩:=(g.eg (π:=π) (τ:=τ)).get p.1 (varV p.2) (congrArg (Option.map varV) (hl p e))
  exact ⟨ox_bin (m':=10) (d:=3) (za:=1) (zb:=4) (op:=39) (h:=1014571372654983381109) rfl bg_meet (xs.up (by decide) (by decide) (Nat.le_refl _)) (ox_dot (d:=1) (z:=1) sh g.no c hr hk ha hb) (by decide),fun n hn ct sp ht pk τ K hk=>eqn (arm_eq sh ds.s hs _ · ct sp ht pk τ K) hn hk⟩
end
end P3
end Mine.Internal
namespace Mine.Internal
open PySem
theorem kLoopC_eq {st:St→Bool} {bnd:V→Option REnv} {ifs:REnv→St→(Bool→St→Prop)→Prop} {body:List V→REnv→St→(List V→St→Prop)→Prop} {l l' ds:List V} {σ:St} {k:List V→St→Prop} (e:l = l') (h:kLoopC st bnd ifs body l' ds σ k):kLoopC st bnd ifs body l ds σ k:=e ▸ h
theorem kLoopC_nil {st:St→Bool} {bnd:V→Option REnv} {ifs:REnv→St→(Bool→St→Prop)→Prop} {body:List V→REnv→St→(List V→St→Prop)→Prop} {ds:List V} {σ:St} {k:List V→St→Prop} (e:st σ = true) (h:k ds σ):kLoopC st bnd ifs body [] ds σ k:=by
 delta kLoopC; exact bK_i e h
theorem kLoopS_eq {st:St→Bool} {bnd:V→REnv→Option REnv} {body:REnv→St→(Out→Prop)→Prop} {l l':List V} {ρ:REnv} {σ:St} {k:Out→Prop} (e:l = l') (h:kLoopS st bnd body l' ρ σ k):kLoopS st bnd body l ρ σ k:=e ▸ h
namespace P3
noncomputable def dFor:S:=.for_ (.many [12,13]) (.enum (.var 11)) [.mth .app (.var 3) (.tup [(.var 13),(.var 10)]),
    .mth .ext (.var 4) (.comp (.gen (.one 15) (.val (.sl (.var 11) (.cst .none) (.var 12))) [(.var 6)] (.elt (.tup [(.cst (.str 488183397613685)),(.tup [(.cst (.str 1069911587283942768742)),(.tup [(.cst (.str 523367740342387)),(.var 13)]),(.tup [(.cst (.str 523367740342387)),(.var 15)])])]))))]
noncomputable def dPost:List S:=[.mth .upd (.var 2) (.comp (.gen (.many [16,17]) (.zip (.var 7) (.var 11)) [] (.elt (.tup [(.var 16),(.tup [(.cst (.str 523367740342387)),(.var 17)])])))),
   .asg (.item (.var 2) (.cst (.str 0))) (.bi .dict [(.comp (.gen (.many [18,19]) (.items (.get (.var 2) [(.cst (.str 0)),(.dict [])])) [(.glob 999)] (.elt (.glob 999))))])]
noncomputable def dPre:S:=.ite (.cmp .notIn (.var 8) (.tup [(.cst (.str 0)),(.cst (.str 492581442027622))])) [.raise] []
noncomputable def dAsg:S:=.asgTs true [10,11] [(.meth (.var 0) 940784479923051954291 [(.var 9),(.var 2)]),(.comp (.gen (.one 14) (.val (.var 7)) [] (.elt (.meth (.var 0) 1992310811413141719202398313 [(.var 14)]))))]
noncomputable def dAri:S:=.ite (.cmp .ne (.meth (.var 0) 1895596745843988977414045818 [(.var 10)]) (.cst (.int 1))) [.raise] []
noncomputable def dcR (p q:Nat) (dv:V) (x:List (Option V)):REnv:=some (.loc (p + 8)) :: some dv :: some (.loc (p + 10 + (q + 1))) :: some (.loc (p + 10 + q)) :: some (.loc (p + 10 + (q + 2))) :: x
noncomputable def enV (q:Nat × Nat):V:=.tup [.int q.1,.str q.2]
noncomputable def apC (ap:Bool) (lb:List Nat) (q:Nat × Nat):List V:=((lb.take q.1).filter fun _=>ap).map fun o=>apV (q.2,o)
theorem en_v:∀ lb:List Nat,lb.length≤3→(((List.range (lb.map V.str).length).zip (lb.map V.str)).map fun (q:Nat × V)=>V.tup [.int q.1,q.2]) = ((List.range lb.length).zip lb).map enV
 | [],_=>rfl
 | [_],_=>rfl
 | [_,_],_=>rfl
 | [_,_,_],_=>rfl
 | _ :: _ :: _ :: _ :: _,h=>absurd h (by simp only [List.length_cons]; (first | lia | omega))
theorem en_f {X:V}:∀ lb:List Nat,lb.length≤3→(((List.range lb.length).zip lb).map fun (q:Nat × Nat)=>V.tup [.str q.2,X]) = lb.map fun s=>V.tup [.str s,X]
 | [],_=>rfl
 | [_],_=>rfl
 | [_,_],_=>rfl
 | [_,_,_],_=>rfl
 | _ :: _ :: _ :: _ :: _,h=>absurd h (by simp only [List.length_cons]; (first | lia | omega))
theorem en_a {ap:Bool}:∀ lb:List Nat,lb.length≤3→((List.range lb.length).zip lb).flatMap (apC ap lb) = (cond ap (prs lb) []).map apV
 | [],_=>by cases ap <;> rfl
 | [_],_=>by cases ap <;> rfl
 | [_,_],_=>by cases ap <;> rfl
 | [_,_,_],_=>by cases ap <;> rfl
 | _ :: _ :: _ :: _ :: _,h=>absurd h (by simp only [List.length_cons]; (first | lia | omega))
theorem en_l:∀ lb:List Nat,lb.length≤3→∀ q∈(List.range lb.length).zip lb,q.1≤lb.length:=fun lb _ q m=>Nat.le_of_lt (List.mem_range.mp (List.of_mem_zip m).1)
theorem zip_v:∀ ns lb:List Nat,(((ns.map V.str).zip (lb.map V.str)).map fun (x:V × V)=>V.tup [x.1,x.2]) = (ns.zip lb).map fun (q:Nat × Nat)=>V.tup [.str q.1,.str q.2]
 | [],_=>rfl
 | _ :: _,[]=>rfl
 | k :: ns,l :: lb=>congrArg (V.tup [.str k,.str l] :: ·) (zip_v ns lb)
theorem clip_nat {n k:Nat} (h:k≤n):clip n (k:Int) = k:=by
 show (max 0 (min (if (k:Int) < 0 then (k:Int) + n else k) n)).toNat = k
 rw [if_neg (Int.not_lt.mpr (Int.natCast_nonneg k)),Int.min_eq_left (Int.ofNat_le.mpr h),Int.max_eq_right (Int.natCast_nonneg k)]; rfl
theorem sl_i {lb:List Nat} {k:Nat} (h:k≤lb.length) (hl:lb.length≤1000):sliceE (.list (lb.map V.str)) .none (.int (k:Nat)) = some (.list ((lb.take k).map V.str)):=by
 show (if (lb.map V.str).length≤capL then some (V.list (cut (lb.map V.str) none (some (k:Int)))) else none) = _
 rw [List.length_map,if_pos (Nat.le_trans hl (by decide))]
 show some (V.list (((lb.map V.str).take (clip (lb.map V.str).length (k:Int))).drop 0)) = _
 have e:clip (lb.map V.str).length (k:Int) = k:=clip_nat (by rw [List.length_map]; exact h)
 rw [e,List.drop_zero,List.map_take]
section
variable {π τ τ':St} {ct sp ht pk x:Int} {c m n d z p q:Nat} {v r nd ev X dv mk sv:V} {D:Env} {T:TabK} {Γ:Gam} {a b o:SObj} {l f0 a0:List V} {lb ns:List Nat} {ap:Bool} {k:Out→Prop} {x10 x11 x12 x13 x14 x15 x16 x17 x18 x19:Option V}
noncomputable abbrev dcR' (π τ:St) (dv sv:V) (ap:Bool) (ns:List Nat) (mk nd:V) (x10 x11 x12 x13 x14 x15 x16 x17 x18 x19:Option V):REnv:=dcR π.length τ.length dv [some sv,some (.bool ap),some (.tup (ns.map V.str)),some mk,some nd,x10,x11,x12,x13,x14,x15,x16,x17,x18,x19]
theorem apc_len {q:Nat × Nat} (h:lb.length≤3):(apC ap lb q).length≤3:=by
 delta apC; rw [List.length_map]
 exact Nat.le_trans (List.length_filter_le ..) (Nat.le_trans (List.length_take_le' ..) h)
theorem d_fall (hl:lb.length≤3) (rest:List (Nat × Nat)):∀ (f1 a1:List V) (x12 x13:Option V),(∀ q∈rest,q.1≤lb.length)→f1.length + rest.length≤2000→a1.length + rest.length * 3≤2000 →
  (∀ x12 x13,k (.next (dcR' π τ dv sv ap ns mk nd (some X) (some (.list (lb.map V.str))) x12 x13 x14 x15 x16 x17 x18 x19) (stt π ct sp ht pk (τ++[.list (f1++rest.map fun (q:Nat × Nat)=>V.tup [.str q.2,X]),o,.list (a1++rest.flatMap (apC ap lb))])))) →
  kLoopS (stillB none []) (fun v ρ=>bindTg ρ (.many [12,13]) v) (fun ρ σ k=>kSs prog T [.mth .app (.var 3) (.tup [(.var 13),(.var 10)]),
    .mth .ext (.var 4) (.comp (.gen (.one 15) (.val (.sl (.var 11) (.cst .none) (.var 12))) [(.var 6)] (.elt (.tup [(.cst (.str 488183397613685)),(.tup [(.cst (.str 1069911587283942768742)),(.tup [(.cst (.str 523367740342387)),(.var 13)]),(.tup [(.cst (.str 523367740342387)),(.var 15)])])]))))] ρ σ k) (rest.map enV)
   (dcR' π τ dv sv ap ns mk nd (some X) (some (.list (lb.map V.str))) x12 x13 x14 x15 x16 x17 x18 x19) (stt π ct sp ht pk (τ++[.list f1,o,.list a1])) k:=by
 induction rest with
 | nil =>
  intro f1 a1 x12 x13 _ _ _ z
  have z:=z x12 x13
  rw [List.map_nil,List.flatMap_nil,List.append_nil,List.append_nil] at z
  exact bK_i rfl z
 | cons q rest ih =>
  intro f1 a1 x12 x13 le lf la z
  rw [List.length_cons,← Nat.add_assoc,Nat.add_right_comm] at lf
  rw [List.length_cons,Nat.succ_mul,Nat.add_comm _ 3,← Nat.add_assoc] at la
  have hq:=le q (List.mem_cons_self ..)
  have l3:=apc_len (ap:=ap) (q:=q) hl
  refine bK_i rfl (oK_i _ rfl ?_)
  conv=>whnf
  refine bK_i con0 ?_
  conv=>whnf
  refine oK_i _ (app0 (by rw [List.length_append]; exact Nat.le_trans (Nat.le_add_right ..) (Nat.le_trans lf (by decide)))) ?_
  conv=>whnf
  refine bK_i con2 ?_
  conv=>whnf
  refine oK_i _ (sl_i hq (Nat.le_trans hl (by decide))) ?_
  conv=>whnf
  refine loopSelS (α:=Nat) V.str (fun o=>apV (q.2,o)) (fun _=>ap) (Nat.le_trans (List.length_take_le ..) (Nat.le_trans (Nat.le_trans hq hl) (by decide))) rfl (fun i _=>⟨_,rfl,fun ds kk b zz=>?_⟩) ?_
  ·conv=>whnf
   exact cond_i b zz
  ·conv=>whnf
   have la2:(a1++apC ap lb q).length + rest.length * 3≤2000:=Nat.le_trans (Nat.add_le_add_right (by rw [List.length_append]; exact Nat.add_le_add_left l3 _) _) la
   refine oK_i _ (ext2 (Nat.le_trans (Nat.le_add_right ..) (Nat.le_trans la2 (by decide)))) ?_
   refine ih (f1++[V.tup [.str q.2,X]]) (a1++apC ap lb q) _ _ (fun q m=>le q (List.mem_cons_of_mem _ m)) (by rw [List.length_append]; exact lf) la2 fun y12 y13=>?_
   rw [List.append_assoc,List.append_assoc]
   exact z y12 y13
theorem d_for (hl:lb.length≤3) (lf:f0.length≤1000) (la:a0.length≤1000)
  (z:∀ x12 x13,k (.next (dcR' π τ dv sv ap ns mk nd (some X) (some (.list (lb.map V.str))) x12 x13 x14 x15 x16 x17 x18 x19) (stt π ct sp ht pk (τ++[.list (f0++lb.map fun s=>V.tup [.str s,X]),o,.list (a0++(cond ap (prs lb) []).map apV)])))) :
  kS prog T dFor (dcR' π τ dv sv ap ns mk nd (some X) (some (.list (lb.map V.str))) x12 x13 x14 x15 x16 x17 x18 x19) (stt π ct sp ht pk (τ++[.list f0,o,.list a0])) k:=by
 refine kLoopS_eq (en_v lb hl) ?_
 have lz:((List.range lb.length).zip lb).length≤3:=by rw [List.length_zip,List.length_range,Nat.min_self]; exact hl
 refine d_fall hl _ f0 a0 x12 x13 (en_l lb hl) (Nat.le_trans (Nat.add_le_add lf lz) (by decide)) (Nat.le_trans (Nat.add_le_add la (Nat.mul_le_mul_right 3 lz)) (by decide)) fun y12 y13=>?_
 rw [en_f lb hl,en_a lb hl]
 exact z y12 y13
end
end P3
end Mine.Internal
namespace Mine.Internal
open PySem
namespace P3
theorem ext_step {ps:List (Nat × Nat)}:∀ {Γ:Gam} {D:Env},(∀ p∈ps,p.1∈xyz)→Eo Γ D→Eo (exG Γ ps) (ext D (ps.map fun q=>(q.1,varV q.2))):=by
 induction ps with
 | nil=>exact fun _ h=>h
 | cons p ps ih =>
  intro Γ D hp h
  have hk:p.1∈xyz:=hp p (List.mem_cons_self ..)
  have k0:p.1 ≠ 0:=fun e=>absurd (e ▸ hk) (by decide)
  have ks:p.1 ∉ sigs:=fun m=>absurd hk (by simp only [List.mem_cons,List.not_mem_nil,or_false] at m; rcases m with m | m | m <;> (rw [m]; decide))
  refine ih (Γ:=setG Γ p.1 p.2) (D:=dset (.str p.1) (varV p.2) D) (fun p m=>hp p (List.mem_cons_of_mem _ m)) ⟨fun j l' e=>?_,fun s hs=>(dget_ne (k:=s) (l:=p.1) fun q=>ks (q ▸ hs)).trans (h.no s hs),(congrArg (Option.getD · _) (dget_ne (Ne.symm k0))).trans h.z,fun l' e=>?_⟩
  ·unfold setG at e
   by_cases hj:j = p.1
   ·rw [if_pos hj] at e; cases Option.some.inj e; exact hj ▸ dget_same
   ·rw [if_neg hj] at e; exact (dget_ne hj).trans (h.get j l' e)
  ·unfold setG at e
   rw [if_neg (Ne.symm k0)] at e
   exact h.nz l' e
theorem zip_mem {ns lb:List Nat} (h:∀ k∈ns,k∈xyz):∀ p∈ns.zip lb,p.1∈xyz:=fun p m=>h p.1 (List.of_mem_zip m).1
noncomputable def nxD (D:Env) (ns lb:List Nat):Env:=dset (.str 0) (.dict []) (ext D ((ns.zip lb).map fun q=>(q.1,varV q.2)))
theorem Eo.nx {Γ:Gam} {D:Env} {ns lb:List Nat} (h:Eo Γ D) (hn:∀ k∈ns,k∈xyz):Eo (exG Γ (ns.zip lb)) (nxD D ns lb):=by
 have g:=ext_step (zip_mem (lb:=lb) hn) h
 exact ⟨fun k l e=>(dget_ne (k:=k) (l:=0) fun q=>g.nz l (by rw [← q]; exact e)).trans (g.get k l e),fun s hs=>(dget_ne (k:=s) (l:=0) fun q=>absurd (q ▸ hs) (by decide)).trans (g.no s hs),congrArg (Option.getD · _) dget_same,g.nz⟩
theorem nx_len {D:Env} {ns lb:List Nat} (h:ns.length≤3):(nxD D ns lb).length≤D.length + 4:=by
 refine Nat.le_trans dset_len (Nat.succ_le_succ (Nat.le_trans ext_len (Nat.add_le_add_left ?_ _)))
 rw [List.length_map,List.length_zip]; exact Nat.le_trans (Nat.min_le_left ..) h
section
variable {π τ τ':St} {ct sp ht pk x:Int} {c m n d z p q:Nat} {v r nd ev X dv mk sv:V} {D:Env} {T:TabK} {Γ:Gam} {a b o:SObj} {l f0 a0:List V} {lb ns:List Nat} {ap:Bool} {k:Out→Prop} {x10 x11 x12 x13 x14 x15 x16 x17 x18 x19:Option V} {R:List S}
theorem d_post (hl:lb.length = ns.length) (h3:ns.length≤3) (hn:∀ k∈ns,k∈xyz) (g:Eo Γ D) (lD:D.length≤1000)
  (z:∀ x16 x17 x18 x19,k (.next (dcR' π τ dv sv ap ns mk nd x10 (some (.list (lb.map V.str))) x12 x13 x14 x15 x16 x17 x18 x19) (stt π ct sp ht pk (τ++[a,.dict (nxD D ns lb),o])))) :
  kSs prog T dPost (dcR' π τ dv sv ap ns mk nd x10 (some (.list (lb.map V.str))) x12 x13 x14 x15 x16 x17 x18 x19) (stt π ct sp ht pk (τ++[a,.dict D,o])) k:=by
 have zl:(ns.zip lb).length≤3:=by rw [List.length_zip]; exact Nat.le_trans (Nat.min_le_left ..) h3
 conv=>whnf
 refine bK_i con1 ?_
 conv=>whnf
 refine bK_i (decide_eq_true (by rw [List.length_map,List.length_map]; exact hl)) ?_
 refine kLoopC_eq (zip_v ns lb) ?_
 refine loopMapS (α:=Nat × Nat) (fun q=>V.tup [.str q.1,.str q.2]) (fun q=>V.tup [.str q.1,varV q.2]) (Nat.le_trans zl (by decide)) rfl (fun i _=>⟨_,rfl,fun ds kk b zz=>?_⟩) ?_
 ·exact bK_i (le1 b) zz
 ·have e:((ns.zip lb).map fun (q:Nat × Nat)=>V.tup [.str q.1,varV q.2]) = prsL ((ns.zip lb).map fun q=>(q.1,varV q.2)):=by delta prsL; rw [List.map_map]; rfl
  rw [e]
  have el:((ns.zip lb).map fun (q:Nat × Nat)=>(q.1,varV q.2)).length≤3:=by rw [List.length_map]; exact zl
  have g':=ext_step (zip_mem (lb:=lb) hn) g
  conv=>whnf
  refine oK_i _ (upd1 (Nat.le_trans (Nat.add_le_add lD el) (by decide))) ?_
  conv=>whnf
  refine bK_i (by rw [ev1.dict]; rfl) ?_
  conv=>whnf
  refine oK_i _ ev1.dict ?_
  conv=>whnf
  rw [g'.z]
  refine oK_i _ rfl ?_
  refine kLoopC_nil rfl ?_
  conv=>whnf
  refine oK_i _ (sto1 (Nat.le_trans ext_len (Nat.le_trans (Nat.add_le_add lD el) (by decide)))) ?_
  exact z _ _ _ _
theorem fr_all {x10 x11 x12 x13 x15 x16 x17 x18 x19:Option V} {kk:List V→St→Prop} (rest:List Nat)
  (h4:∀ k∈rest,∀ c∈[0,1,2,3,4],∀ sp ht pk τ (K:V→St→Prop),K (.str (lab k (c + 1))) (stt π (c + 1:Nat) sp ht pk τ)→T.call 4 [.loc (π.length + 8),.str k] (stt π c sp ht pk τ) K):∀ (c:Nat) (ds:List V),c + rest.length≤5→ds.length≤c→kk (ds++(labs c rest).map V.str) (stt π (c + rest.length:Nat) sp ht pk τ') →
  kLoopC0 (stillB none []) (bindTg (dcR' π τ dv sv ap ns mk nd x10 x11 x12 x13 none x15 x16 x17 x18 x19) (.one 14)) (fun ρ σ k=>kIfs prog T [] ρ σ k) (fun ds ρ σ k=>kC prog T (.elt (.meth (.var 0) 1992310811413141719202398313 [(.var 14)])) ds ρ σ k) (rest.map V.str) ds (stt π c sp ht pk τ') kk:=by
 induction rest with
 | nil=>exact fun c ds _ _ z=>bK_i rfl (ap0 (p:=fun l=>kk l _) z)
 | cons i rest ih =>
  intro c ds hc hd z
  rw [List.length_cons,← Nat.add_assoc,Nat.add_right_comm] at hc z
  have hc5:c + 1≤5:=Nat.le_trans (Nat.le_add_right ..) hc
  refine bK_i rfl (oK_i _ rfl ?_)
  conv=>whnf
  refine oK_i _ (meth_i rfl rfl) ?_
  conv=>whnf
  refine h4 i (List.mem_cons_self ..) c (List.mem_range.mpr hc5:c∈List.range 5) _ _ _ _ _ ?_
  conv=>whnf
  refine bK_i (decide_eq_true (Nat.le_trans hd (Nat.le_trans (Nat.le_of_succ_le hc5) (by decide)))) ?_
  refine ih (fun k m=>h4 k (List.mem_cons_of_mem _ m)) (c + 1) (ds++[.str (lab i (c + 1))]) hc (by rw [List.length_append]; exact Nat.succ_le_succ hd) ?_
  rw [List.append_assoc]
  exact z
theorem d_pre (hm:pyIn mk [.str 0,.str 492581442027622] = some true) (hx:OxT T π (τ++[.list f0,.dict D,.list a0]) D 4 6 nd X) (h4:∀ k∈ns,∀ c∈[0,1,2,3,4],∀ sp ht pk τ (K:V→St→Prop),K (.str (lab k (c + 1))) (stt π (c + 1:Nat) sp ht pk τ)→T.call 4 [.loc (π.length + 8),.str k] (stt π c sp ht pk τ) K)
  (h13:∀ ct sp ht pk τ (K:V→St→Prop),K (.int 1) (stt π ct sp ht pk τ)→T.call 13 [.loc (π.length + 8),X] (stt π ct sp ht pk τ) K) (hc:c + ns.length≤5) (b0:0≤sp) (b1:sp + 6≤20000) (b2:ht + 4≤100)
  (z:∀ sp' pk' x14,sp≤sp'∧sp'≤sp + 6→kSs prog T R (dcR' π τ dv sv ap ns mk nd (some X) (some (.list ((labs c ns).map V.str))) x12 x13 x14 x15 x16 x17 x18 x19) (stt π (c + ns.length:Nat) sp' ht pk' (τ++[.list f0,.dict D,.list a0])) k) :
  kSs prog T (dPre :: dAsg :: dAri :: R) (dcR' π τ dv sv ap ns mk nd x10 x11 x12 x13 x14 x15 x16 x17 x18 x19) (stt π c sp ht pk (τ++[.list f0,.dict D,.list a0])) k:=by
 conv=>whnf
 refine oK_i (!true) (congrArg (Option.map (!·)) hm) ?_
 conv=>whnf
 refine oK_i _ (meth_i rfl rfl) ?_
 conv=>whnf
 refine hx c sp ht pk _ _ ev1 b0 b1 b2 fun sp' pk' q1 q2=>?_
 conv=>whnf
 delta kLoopC
 refine fr_all (τ:=τ) (dv:=dv) ns h4 c [] hc (Nat.zero_le _) ?_
 conv=>whnf
 refine oK_i _ (meth_i rfl rfl) ?_
 conv=>whnf
 refine h13 _ _ _ _ _ _ ?_
 exact z sp' pk' _ q1
end
end P3
end Mine.Internal
namespace Mine.Internal
open PySem
namespace P3
noncomputable def dIni:S:=.asgTs true [3,2,4] [(.mut (.list [])),(.mut (.bi .dict [(.var 2)])),(.mut (.list []))]
noncomputable def dOut:S:=.for_ (.many [5,6,7,8,9]) (.val (.var 1)) (dPre :: dAsg :: dAri :: dFor :: dPost)
noncomputable def dRet:S:=.ret (.tup [(.bi .tuple [(.var 3)]),(.var 2),(.var 4)])
noncomputable def Lb:Nat→List Dc→Prop
 | _,[]=>True
 | ct,c :: cs=>(c.labs = labs ct c.ns∧(pyIn c.mk' [.str 0,.str cOne] = some true∧∀ k∈c.ns,k∈xyz))∧Lb (ct + c.ns.length) cs
theorem gc_len {cs:List Dc}:∀ {S:Sc},Gc cs S→(cs.flatMap Dc.fs).length = cntC cs:=by
 induction cs with
 | nil=>exact fun _=>rfl
 | cons c cs ih =>
  intro S h
  rw [List.flatMap_cons,List.length_append,ih h.2]
  show (c.labs.map _).length + cntC cs = c.ns.length + cntC cs
  rw [List.length_map,h.1.len]
theorem prs_len {lb:List Nat} (h:lb.length≤3):(prs lb).length≤9:=by
 refine Nat.le_trans (fl_len (c:=3) fun i _=>?_) (show (List.range lb.length).length * 3≤9 by rw [List.length_range]; (first | lia | omega))
 rw [List.length_map]; exact Nat.le_trans (List.length_take_le' ..) h
theorem aps_len {cs:List Dc}:∀ {S:Sc},Gc cs S→(runC cs S).aps.length≤S.aps.length + 9 * cs.length:=by
 induction cs with
 | nil=>exact fun _=>Nat.le_refl _
 | cons c cs ih =>
  intro S g
  have w:(cond c.ap (prs c.labs) []).length≤9:=by
   cases c.ap with
   | false=>exact Nat.zero_le _
   | true=>exact prs_len (g.1.len ▸ g.1.le3)
  have v:(S.addc c).aps.length = S.aps.length + (cond c.ap (prs c.labs) []).length:=List.length_append
  rw [List.length_cons,Nat.mul_succ,Nat.add_comm _ 9,← Nat.add_assoc]
  exact Nat.le_trans (ih (S:=S.addc c) g.2) (Nat.add_le_add_right (v ▸ Nat.add_le_add_left w _) _)
section
variable {π τ τ':St} {ct sp ht pk x:Int} {c m n d z p q:Nat} {v r nd ev X dv mk sv:V} {D D0:Env} {T:TabK} {Γ:Gam} {k:Out→Prop} {K:V→St→Prop} {R:List S} {cs:List Dc} {S0:Sc}
theorem d_ini (hd:∀ τ',τ <+: τ'→biE (stt π ct sp ht pk τ') .dict [ev] = some (.dict D0))
  (z:kSs prog T R (dcR π.length τ.length dv [none,none,none,none,none,none,none,none,none,none,none,none,none,none,none]) (stt π ct sp ht pk (τ++[.list [],.dict D0,.list []])) k) :
  kSs prog T (dIni :: R) (enter f_Opener_decls_of [.loc (π.length + 8),dv,ev]) (stt π ct sp ht pk τ) k:=by
 conv=>whnf
 rw [stt_push,stt_len]
 refine oK_i _ (hd _ (List.prefix_append ..)) ?_
 conv=>whnf
 rw [stt_push,stt_len,stt_push,stt_len,List.append_assoc,List.append_assoc,List.length_append,List.length_append]
 exact z
noncomputable abbrev xs15 (x:Nat→Option V):List (Option V):=[x 5,x 6,x 7,x 8,x 9,x 10,x 11,x 12,x 13,x 14,x 15,x 16,x 17,x 18,x 19]
theorem d_all {bs:V} (cs:List Dc) (b2:ht + 4≤100) (hx:∀ τ D Γ (ds:Dsc),Eo Γ D→ds.s∈[66,67]→(∀ p,ds.late = some p→Γ p.1 = some p.2)→OxT T π τ D 4 6 ds.dom ds.X∧∀ ct sp ht pk τ (K:V→St→Prop),K (.int 1) (stt π ct sp ht pk τ)→T.call 13 [.loc (π.length + 8),ds.X] (stt π ct sp ht pk τ) K)
  (h4:∀ k∈xyz,∀ c∈[0,1,2,3,4],∀ sp ht pk τ (K:V→St→Prop),K (.str (lab k (c + 1))) (stt π (c + 1:Nat) sp ht pk τ)→T.call 4 [.loc (π.length + 8),.str k] (stt π c sp ht pk τ) K) :
  ∀ (S:Sc) (c:Nat) (sp pk:Int) (D:Env) (f1:List V) (x:Nat→Option V),Eo S.Γ D→Gc cs S→Lb c cs→c + cntC cs≤5→f1.length≤c→0≤sp→sp + 6 * cs.length≤20000→D.length + 4 * cs.length≤500→S.aps.length + 9 * cs.length≤500 →
   (∀ (x:Nat→Option V) (sp' pk':Int) (D':Env),sp≤sp'∧sp'≤sp + 6 * cs.length→Eo (runC cs S).Γ D'→D'.length≤D.length + 4 * cs.length→k (.next (dcR π.length τ.length bs (xs15 x)) (stt π (c + cntC cs:Nat) sp' ht pk' (τ++[.list (f1++cs.flatMap Dc.fs),.dict D',.list ((runC cs S).aps.map apV)])))) →
   kLoopS (stillB none []) (fun v ρ=>bindTg ρ (.many [5,6,7,8,9]) v) (fun ρ σ k=>kSs prog T (dPre :: dAsg :: dAri :: dFor :: dPost) ρ σ k) (cs.map Dc.v) (dcR π.length τ.length bs (xs15 x)) (stt π c sp ht pk (τ++[.list f1,.dict D,.list (S.aps.map apV)])) k:=by
 intro S c sp pk D f1 x gE gc lb hc hf b0 b1 lD lA z
 induction cs generalizing S c sp pk D f1 x with
 | nil=>exact bK_i rfl (List.append_nil f1 ▸ z x sp pk D ⟨Int.le_refl _,Int.le_of_eq (Int.add_zero sp).symm⟩ gE (Nat.le_refl _))
 | cons cc cs ih =>
  obtain ⟨ok,gR⟩:=gc
  obtain ⟨⟨l1,l2,l3⟩,lR⟩:=lb
  have hc:c + (cc.ns.length + cntC cs)≤5:=hc
  have b1:sp + 6 * ((cs.length:Int) + 1)≤20000:=b1
  rw [List.length_cons,Nat.mul_succ] at lD lA
  have l3s:cc.labs.length≤3:=ok.len ▸ ok.le3
  have X:=hx (τ++[.list f1,.dict D,.list (S.aps.map apV)]) D S.Γ cc.ds gE ok.sg fun p e=>(ok.la p e).1
  have h5:c + cc.ns.length≤5:=Nat.le_trans (Nat.add_le_add_left (Nat.le_add_right ..) _) hc
  refine bK_i rfl (oK_i _ rfl ?_)
  refine d_pre (π:=π) (τ:=τ) (dv:=bs) (sv:=.int 0) (ap:=cc.ap) (ns:=cc.ns) (mk:=cc.mk') (nd:=cc.ds.dom) (X:=cc.ds.X) (R:=dFor :: dPost) l2 X.1 (fun k m=>h4 k (l3 k m)) X.2 h5 b0 (by (first | lia | omega)) b2 fun sp1 pk1 x14 q1=>?_
  rw [← l1]
  refine d_for (π:=π) (τ:=τ) l3s (Nat.le_trans hf (Nat.le_trans (Nat.le_add_right ..) (Nat.le_trans hc (by decide)))) (by rw [List.length_map]; exact Nat.le_trans (Nat.le_add_right ..) (Nat.le_trans lA (by decide))) fun x12 x13=>?_
  refine d_post (π:=π) (τ:=τ) ok.len ok.le3 l3 gE (Nat.le_trans (Nat.le_add_right ..) (Nat.le_trans lD (by decide))) fun x16 x17 x18 x19=>?_
  have ll:=nx_len (D:=D) (ns:=cc.ns) (lb:=cc.labs) ok.le3
  have la:(S.addc cc).aps.length≤S.aps.length + 9:=by
   show (S.aps++cond cc.ap (prs cc.labs) []).length≤_
   rw [List.length_append]
   refine Nat.add_le_add_left ?_ _
   cases cc.ap with
   | false=>exact Nat.zero_le _
   | true=>exact prs_len l3s
  have e:S.aps.map apV++(cond cc.ap (prs cc.labs) []).map apV = (S.addc cc).aps.map apV:=(List.map_append ..).symm
  rw [e]
  refine ih (S.addc cc) (c + cc.ns.length) sp1 pk1 (nxD D cc.ns cc.labs) (f1++cc.fs) (fun i=>([none,none,none,none,none,some (.int 0),some (.bool cc.ap),some (.tup (cc.ns.map V.str)),some cc.mk',some cc.ds.dom,some cc.ds.X,some (.list (cc.labs.map V.str)),x12,x13,x14,x 15,x16,x17,x18,x19]:REnv).getD i none) (gE.nx l3) gR lR (Nat.add_assoc .. ▸ hc) ?_ (by (first | lia | omega)) (by (first | lia | omega)) (by (first | lia | omega)) (by (first | lia | omega)) fun x' sp' pk' D' q e1 e2=>?_
  ·rw [List.length_append]
   exact Nat.add_le_add hf (by delta Dc.fs; rw [List.length_map,ok.len]; exact Nat.le_refl _)
  ·rw [List.append_assoc,Nat.add_assoc]
   refine z x' sp' pk' D' ⟨by (first | lia | omega),?_⟩ e1 (by rw [List.length_cons]; (first | lia | omega))
   show sp'≤sp + 6 * ((cs.length:Int) + 1)
   (first | lia | omega)
theorem dcl_x {c0 bD:Nat} (hd:∀ τ',τ <+: τ'→biE (stt π c0 sp ht pk τ') .dict [ev] = some (.dict D0)) (g:Eo S0.Γ D0) (ha:S0.aps = []) (gc:Gc cs S0) (lb:Lb c0 cs) (hc:c0 + cntC cs≤5) (hl:cs.length≤5) (lD:D0.length≤bD) (hbD:bD≤300) (b0:0≤sp) (b1:sp + 6 * cs.length≤20000) (b2:ht + 4≤100)
  (hx:∀ τ D Γ (ds:Dsc),Eo Γ D→ds.s∈[66,67]→(∀ p,ds.late = some p→Γ p.1 = some p.2)→OxT T π τ D 4 6 ds.dom ds.X∧∀ ct sp ht pk τ (K:V→St→Prop),K (.int 1) (stt π ct sp ht pk τ)→T.call 13 [.loc (π.length + 8),ds.X] (stt π ct sp ht pk τ) K)
  (h4:∀ k∈xyz,∀ c∈[0,1,2,3,4],∀ sp ht pk τ (K:V→St→Prop),K (.str (lab k (c + 1))) (stt π (c + 1:Nat) sp ht pk τ)→T.call 4 [.loc (π.length + 8),.str k] (stt π c sp ht pk τ) K)
  (z:∀ (sp' pk':Int) (D':Env),sp≤sp'∧sp'≤sp + 6 * cs.length→Eo (runC cs S0).Γ D'→D'.length≤bD + 20→(runC cs S0).aps.length≤45→K (.tup [toldFc cs,.loc (π.length + 10 + (τ.length + 1)),.loc (π.length + 10 + (τ.length + 2))]) (stt π (c0 + cntC cs:Nat) sp' ht pk' (τ++[.list (cs.flatMap Dc.fs),.dict D',.list ((runC cs S0).aps.map apV)]))) :
  kSs prog T f_Opener_decls_of.body (enter f_Opener_decls_of [.loc (π.length + 8),.tup (cs.map Dc.v),ev]) (stt π c0 sp ht pk τ) (outK K):=by
 have l4:4 * cs.length≤20:=Nat.mul_le_mul_left 4 hl
 have l9:9 * cs.length≤45:=Nat.mul_le_mul_left 9 hl
 have a0:S0.aps.length = 0:=by rw [ha]; rfl
 have e0:([]:List V) = S0.aps.map apV:=by rw [ha]; rfl
 refine d_ini (R:=[dOut,dRet]) (D0:=D0) hd ?_
 rw [show ([SObj.list [],.dict D0,.list []]:St) = [.list [],.dict D0,.list (S0.aps.map apV)] by rw [← e0]]
 refine d_all (bs:=.tup (cs.map Dc.v)) cs b2 hx h4 S0 c0 sp pk D0 [] (fun _=>none) g gc lb hc (Nat.zero_le _) b0 b1 (Nat.le_trans (Nat.add_le_add lD l4) (Nat.le_trans (Nat.add_le_add_right hbD 20) (by decide))) (by rw [a0,Nat.zero_add]; exact Nat.le_trans l9 (by decide)) fun x sp' pk' D' q e l=>?_
 have hb:biE (stt π (c0 + cntC cs:Nat) sp' ht pk' (τ++[.list ([]++cs.flatMap Dc.fs),.dict D',.list ((runC cs S0).aps.map apV)])) .tuple [.loc (π.length + 10 + τ.length)] = some (.tup (cs.flatMap Dc.fs)):=by
  show ((locL (stt π (c0 + cntC cs:Nat) sp' ht pk' (τ++[.list ([]++cs.flatMap Dc.fs),.dict D',.list ((runC cs S0).aps.map apV)]))[π.length + 10 + τ.length]?).bind okLen).map V.tup = _
  rw [tau_at,g0]
  show (okLen (cs.flatMap Dc.fs)).map V.tup = _
  rw [okLen_i (gc_len gc ▸ Nat.le_trans (Nat.le_trans (Nat.le_add_left ..) hc) (by decide))]; rfl
 conv=>whnf
 refine oK_i _ hb ?_
 exact z sp' pk' D' q e (Nat.le_trans l (Nat.add_le_add lD l4)) (Nat.le_trans (aps_len gc) (by rw [a0,Nat.zero_add]; exact l9))
end
end P3
end Mine.Internal
namespace Mine.Internal
open PySem
section
variable {σ:St} {v:V} {l k:List V}
theorem len_fa (h:FA σ v l) (hl:l.length≤1000):biE σ .len [v] = some (.int l.length):=by
 have e:((asList σ v).bind okLen).map (fun l=>V.int l.length) = some (.int l.length):=by
  rw [h.src]
  show (okLen l).map _ = _
  rw [okLen_i (Nat.le_trans hl (by decide))]; rfl
 rcases h with rfl | ⟨i,rfl,h⟩ <;> exact e
theorem tup_fa (h:FA σ v l) (hl:l.length≤1000):biE σ .tuple [v] = some (.tup l):=by
 show ((asList σ v).bind okLen).map V.tup = _
 rw [h.src]
 show (okLen l).map _ = _
 rw [okLen_i (Nat.le_trans hl (by decide))]; rfl
theorem fst_fa {a:V} (h:FA σ v [a]):itemE σ v (.int 0) = some a:=by
 show (asList σ v).bind (fun l=>(idx l.length 0).bind fun j=>l[j]?) = _
 rw [h.src]; rfl
theorem add_fa (h:FA σ v l) (hl:(l++k).length≤capL):binE σ .add v (.list k) = some (.list (l++k)):=by
 have e:asLst σ v = some l:=by
  rcases h with rfl | ⟨i,rfl,h⟩
  ·rfl
  ·show locL σ[i]? = _
   rw [h]; rfl
 have w:((asLst σ v).bind fun a=>(asLst σ (.list k)).bind fun b=>(okLen (a++b)).map V.list) = some (.list (l++k)):=by
  rw [e]
  show (okLen (l++k)).map V.list = _
  rw [okLen_i hl]; rfl
 rcases h with rfl | ⟨i,rfl,h⟩ <;> exact w
theorem der_fa (h:FA σ v l):deref σ v = .list l:=by
 rcases h with rfl | ⟨i,rfl,h⟩
 ·rfl
 ·show derefO i σ[i]? = _
  rw [h]; rfl
end
namespace P3
section
variable {π τ τ' σ:St} {ct ct1 ct2 sp ht pk x:Int} {c m n d z p q w zb:Nat} {v r nd ev X dv dn told self inn apt f:V} {D D0:Env} {T:TabK} {Γ:Gam} {k:Out→Prop} {K:V→St→Prop} {R:List S} {cs:List Dc} {S0:Sc} {l:List V} {aps:List (Nat × Nat)}
theorem all_i (hn:1≤n) (fa:FA σ v l) (ne:l ≠ []) (hl:l.length≤1000) (z:K (allOf l) σ):callK prog n 1 [v] σ K :=
 call_i (d:=f_all_of) hn rfl rfl (by
  generalize TabK.mk (callK prog (n - 1)) = T
  have e:=len_fa fa hl
  rcases l with _ | ⟨a,_ | ⟨b,r⟩⟩
  ·exact absurd rfl ne
  ·conv=>whnf
   refine oK_i _ e ?_
   conv=>whnf
   exact oK_i _ (fst_fa fa) z
  ·conv=>whnf
   refine oK_i _ e ?_
   conv=>whnf
   refine oK_i _ e ?_
   conv=>whnf
   refine iK_t (b:=decide ((0:Int) < ((a :: b :: r).length:Int))) (decide_eq_true (Int.ofNat_lt.mpr (Nat.succ_pos _))) ?_
   conv=>whnf
   refine oK_i _ (tup_fa fa hl) ?_
   exact z)
noncomputable def qT:S:=.asgT [5,6,7] (.meth (.var 0) 18019010797617156466320776713756646825720283239 [(.var 2),(.var 4)])
noncomputable def qB:S:=.asg (.name 8) (.meth (.var 0) 2263110195006889023082856553 [(.var 3),(.var 6)])
noncomputable def qRest:List S:=[.ite (.cmp .eq (.var 1) (.cst (.str 431008786677869))) [.ret (.tup [(.cst (.str 431008786677869)),(.var 5),(.ite (.cmp .ne (.var 7) (.list [])) (.tup [(.cst (.str 9017487185537167824034131633095323943028)),(.call 1 [(.var 7)]),(.var 8)]) (.var 8))])] [],
  .asg (.name 8) (.call 1 [(.bin .add (.var 7) (.list [(.var 8)]))]),
  .ite (.cmp .in_ (.var 1) (.tup [(.cst (.str 1069911648856593924198)),(.cst (.str 232783984))])) [.ret (.ite (.cmp .eq (.var 1) (.cst (.str 1069911648856593924198))) (.tup [(.cst (.str 4137613899626305218353401740394612)),(.var 5),(.var 8)]) (.tup [(.cst (.str 488183397613685)),(.tup [(.cst (.str 4137613899626305218353401740394612)),(.var 5),(.var 8)])]))] [],
  .ret (.tup [(.var 1),(.tup [(.cst (.str 922337696266917511281)),(.var 5),(.var 8)])])]
theorem ne_aps (fa:FA σ apt (aps.map apV)):cmpE σ .ne apt (.list []) = some (!aps.isEmpty):=by
 show (pyEq (deref σ apt) (.list [])).map (!·) = _
 rw [der_fa fa,pyEq_i (list_eq fun y m=>(List.mem_map.mp m).elim fun a q=>q.2 ▸ rfl) rfl]
 cases aps <;> rfl
theorem q_post (hw:w∈cAll :: words) (fa:FA σ apt (aps.map apV)) (hl:aps.length≤100) (h1:∀ v l (K:V→St→Prop),FA σ v l→l ≠ []→l.length≤1000→K (allOf l) σ→T.call 1 [v] σ K) (z:K (fq w told aps f) σ) :
  kSs prog T qRest [some self,some (.str w),some dn,some nd,some ev,some told,some inn,some apt,some f] σ (outK K):=by
 have go:∀ w,w ≠ cAll→(K (if w = cSome then f2V cEx told (allOf (aps.map apV++[f])) else if w = cNo then notV (f2V cEx told (allOf (aps.map apV++[f]))) else .tup [.str w,f2V 922337696266917511281 told (allOf (aps.map apV++[f]))]) σ)→(w = cSome ∨ w = cNo ∨ w = cLone ∨ w = cOne) →
  kSs prog T qRest [some self,some (.str w),some dn,some nd,some ev,some told,some inn,some apt,some f] σ (outK K):=fun w ne z hw=>by
  have ha:=add_fa (k:=[f]) fa (by rw [List.length_append,List.length_map]; exact Nat.le_trans (Nat.add_le_add_right hl 1) (by decide))
  have h1':=fun K z=>h1 (.list (aps.map apV++[f])) _ K (.inl rfl) (fun e=>nomatch (List.append_eq_nil_iff.mp e).2) (by rw [List.length_append,List.length_map]; exact Nat.le_trans (Nat.add_le_add_right hl 1) (by decide)) z
  generalize aps.map apV++[f] = L at ha h1' z
  conv=>whnf
  refine iK_f (decide_eq_false ne) ?_
  conv=>whnf
  refine oK_i _ ha ?_
  refine h1' _ ?_
  rcases hw with rfl | rfl | rfl | rfl <;> exact z
 simp only [words,List.mem_cons,List.not_mem_nil,or_false] at hw
 rcases hw with rfl | h
 ·conv=>whnf
  refine oK_i _ (ne_aps fa) ?_
  cases aps with
  | nil=>exact z
  | cons a as =>
   refine h1 _ _ _ fa (fun e=>nomatch e) (by rw [List.length_map]; exact Nat.le_trans hl (by decide)) ?_
   exact z
 ·have ne:w ≠ cAll:=by rcases h with rfl | rfl | rfl | rfl <;> decide
  delta fq at z
  rw [if_neg ne] at z
  exact go w ne z h
theorem qf_x {c0 c1 c2 bE:Nat} (hw:w∈cAll :: words) (h30:∀ K:V→St→Prop,(∀ (sp' pk':Int) (D':Env),sp≤sp'∧sp'≤sp + 6 * cs.length→Eo (runC cs S0).Γ D'→D'.length≤bE→(runC cs S0).aps.length≤45→K (.tup [toldFc cs,.loc (π.length + 10 + (τ.length + 1)),.loc (π.length + 10 + (τ.length + 2))]) (stt π c1 sp' ht pk' (τ++[.list (cs.flatMap Dc.fs),.dict D',.list ((runC cs S0).aps.map apV)]))) →
   T.call 30 [.loc (π.length + 8),dn,ev] (stt π c0 sp ht pk τ) K)
  (h1:∀ σ v l (K:V→St→Prop),FA σ v l→l ≠ []→l.length≤1000→K (allOf l) σ→T.call 1 [v] σ K) (hb:∀ τ' D',Eo (runC cs S0).Γ D'→D'.length≤bE→TxT T π τ' D' c1 c2 d zb nd f) (b0:0≤sp) (b00:0≤ht) (b1:sp + (6 * cs.length + zb:Nat)≤20000) (b2:ht + d≤100)
  (z:∀ (sp' pk':Int) τ',sp≤sp'∧sp'≤sp + (6 * cs.length + zb:Nat)→τ <+: τ'→K (fq w (toldFc cs) (runC cs S0).aps f) (stt π c2 sp' ht pk' τ')) :
  kSs prog T f_Opener_quantified.body (enter f_Opener_quantified [.loc (π.length + 8),.str w,dn,nd,ev]) (stt π c0 sp ht pk τ) (outK K):=by
 have b1':sp + (6 * (cs.length:Int) + zb)≤20000:=b1
 have hq:=fun σ self inn apt told fa hl z=>q_post (σ:=σ) (w:=w) (aps:=(runC cs S0).aps) (T:=T) (K:=K) (f:=f) (told:=told) (self:=self) (dn:=dn) (nd:=nd) (ev:=ev) (inn:=inn) (apt:=apt) hw fa hl (h1 σ) z
 show kSs prog T (qT :: qB :: qRest) _ _ _
 generalize qRest = R at hq ⊢
 conv=>whnf
 refine oK_i _ (meth_i rfl rfl) ?_
 conv=>whnf
 refine h30 _ fun sp1 pk1 D1 q1 e1 l1 la=>?_
 conv=>whnf
 refine oK_i _ (meth_i rfl rfl) ?_
 conv=>whnf
 refine hb _ D1 e1 l1 sp1 ht pk1 _ _ ev1 (by (first | lia | omega)) b00 (by (first | lia | omega)) b2 fun sp2 pk2 τ2 q2 p2=>?_
 have fa:FA (stt π c2 sp2 ht pk2 τ2) (.loc (π.length + 10 + (τ.length + 2))) ((runC cs S0).aps.map apV):=.inr ⟨_,rfl,tau_at.trans (pre_get p2 g2)⟩
 refine hq _ _ _ _ _ fa (Nat.le_trans la (by decide)) (z sp2 pk2 τ2 ⟨by (first | lia | omega),?_⟩ ((List.prefix_append ..).trans p2))
 show sp2≤sp + (6 * (cs.length:Int) + zb)
 (first | lia | omega)
end
end P3
end Mine.Internal
namespace Mine.Internal
open PySem
namespace P3
structure Gd where
 ap:Bool
 ns:List Nat
 mk':V
 s:Nat
 late:Option Nat
noncomputable def Gd.dom (g:Gd):V:=match g.late with
 | none=>nmV g.s
 | some k=>binV 39 (nmV g.s) (dtV k)
noncomputable def Gd.v (g:Gd):V:=.tup [.int 0,.bool g.ap,.tup (g.ns.map V.str),g.mk',g.dom]
structure GdOk (l:List Nat) (g:Gd):Prop where
 ns:∀ k∈g.ns,k∈xyz
 le3:g.ns.length≤3
 mk':pyIn g.mk' [.str 0,.str cOne] = some true
 s:g.s∈[66,67]
 late:∀ k,g.late = some k→k∈l
noncomputable def Gg:List Nat→List Gd→Prop
 | _,[]=>True
 | l,g :: gs=>GdOk l g∧Gg (l++g.ns) gs
noncomputable def cntG:List Gd→Nat
 | []=>0
 | g :: gs=>g.ns.length + cntG gs
noncomputable def namG (l:List Nat) (gs:List Gd):List Nat:=gs.foldl (fun l g=>l++g.ns) l
noncomputable def mkC (Γ:Gam) (c:Nat) (g:Gd):Dc:=⟨g.ap,g.ns,g.mk',labs c g.ns,g.s,g.late.map fun k=>(k,(Γ k).getD 0)⟩
noncomputable def mkCs:List Gd→Sc→Nat→List Dc
 | [],_,_=>[]
 | g :: gs,S,c=>mkC S.Γ c g :: mkCs gs (S.addc (mkC S.Γ c g)) (c + g.ns.length)
theorem lab_inj:∀ k∈xyz,∀ k'∈xyz,∀ i∈[1,2,3,4,5],∀ j∈[1,2,3,4,5],lab k i = lab k' j→i = j:=by decide +kernel
theorem lab_new:∀ k∈xyz,∀ i∈[1,2,3,4,5],lab k i ∉ xyz:=by decide +kernel
theorem in5 {i:Nat} (h:1≤i) (h':i≤5):i∈[1,2,3,4,5]:=by simp only [List.mem_cons,List.not_mem_nil,or_false]; (first | lia | omega)
theorem labs_mem {ns:List Nat}:∀ {c s:Nat},s∈labs c ns→∃ k∈ns,∃ i,(c < i∧i≤c + ns.length)∧s = lab k i:=by
 induction ns with
 | nil=>intro c s m; cases m
 | cons k ns ih =>
  intro c s m
  rcases List.mem_cons.mp m with e | m
  ·exact ⟨k,List.mem_cons_self ..,c + 1,⟨Nat.lt_succ_self _,Nat.add_le_add_left (Nat.le_add_left ..) c⟩,e⟩
  ·obtain ⟨k',hk,i,h,e⟩:=ih m
   exact ⟨k',List.mem_cons_of_mem _ hk,i,⟨Nat.lt_trans (Nat.lt_succ_self c) h.1,Nat.le_trans h.2 (Nat.le_of_eq (by rw [List.length_cons,Nat.add_assoc,Nat.add_comm 1]))⟩,e⟩
theorem labs_nd:∀ {ns:List Nat} {c:Nat},(∀ k∈ns,k∈xyz)→c + ns.length≤5→(labs c ns).Nodup
 | [],_,_,_=>List.nodup_nil
 | k :: ns,c,h,hc=>by
  rw [List.length_cons] at hc
  refine List.nodup_cons.mpr ⟨fun m=>?_,labs_nd (fun k m=>h k (List.mem_cons_of_mem _ m)) (by (first | lia | omega))⟩
  obtain ⟨k',hk,i,hi,e⟩:=labs_mem m
  have w:=lab_inj k (h k (List.mem_cons_self ..)) k' (h k' (List.mem_cons_of_mem _ hk)) (c + 1) (in5 (by (first | lia | omega)) (by (first | lia | omega))) i (in5 (by (first | lia | omega)) (by (first | lia | omega))) e
  (first | lia | omega)
structure Sk (S:Sc) (c:Nat) (l:List Nat):Prop where
 kn:∀ k∈l,∃ lb,S.Γ k = some lb
 gu:∀ k lb,S.Γ k = some lb→lb∈S.U
 us:∀ u∈S.U,u∈xyz ∨ ∃ k∈xyz,∃ i,(1≤i∧i≤c)∧u = lab k i
theorem ne_sigs {k:Nat} (h:k∈xyz):k ∉ sigs:=fun m=>absurd h (by simp only [List.mem_cons,List.not_mem_nil,or_false] at m; rcases m with rfl | rfl | rfl <;> decide)
theorem exG_has {ns:List Nat}:∀ {lb:List Nat} {Γ:Gam} {k:Nat},lb.length = ns.length→(k∈ns ∨ ∃ l,Γ k = some l)→∃ l,exG Γ (ns.zip lb) k = some l:=by
 induction ns with
 | nil=>exact fun _ h=>h.elim (fun m=>nomatch m) id
 | cons n ns ih =>
  intro lb Γ k e h
  cases lb with
  | nil=>cases e
  | cons l lb =>
   refine ih (lb:=lb) (Γ:=setG Γ n l) (Nat.succ.inj e) ?_
   by_cases hk:k = n
   ·exact .inr ⟨l,if_pos hk⟩
   ·rcases h with m | ⟨l',h⟩
    ·exact .inl ((List.mem_cons.mp m).resolve_left hk)
    ·exact .inr ⟨l',(if_neg hk).trans h⟩
theorem mk_v {Γ:Gam} {c:Nat} {g:Gd}:(mkC Γ c g).v = g.v:=by
 have e:(mkC Γ c g).ds.dom = g.dom:=by
  show Dsc.dom ⟨g.s,g.late.map _⟩ = g.dom
  delta Dsc.dom Gd.dom
  cases g.late <;> rfl
 show V.tup [_,_,_,_,(mkC Γ c g).ds.dom] = V.tup [_,_,_,_,g.dom]
 rw [e]; rfl
theorem Sk.ok {S:Sc} {c:Nat} {l:List Nat} {g:Gd} (h:Sk S c l) (hg:GdOk l g) (hc:c + g.ns.length≤5):DcOk S (mkC S.Γ c g)∧Sk (S.addc (mkC S.Γ c g)) (c + g.ns.length) (l++g.ns):=by
 refine ⟨⟨labs_len _ _,hg.le3,fun k m=>ne_sigs (hg.ns k m),labs_nd hg.ns hc,fun s m u=>?_,hg.s,fun p e=>?_⟩,fun k m=>?_,fun k lb e=>?_,fun u m=>?_⟩
 ·obtain ⟨k,hk,i,hi,rfl⟩:=labs_mem m
  rcases h.us _ u with u | ⟨k',hk',j,hj,e⟩
  ·exact lab_new k (hg.ns k hk) i (in5 (by (first | lia | omega)) (by (first | lia | omega))) u
  ·have w:=lab_inj k (hg.ns k hk) k' hk' i (in5 (by (first | lia | omega)) (by (first | lia | omega))) j (in5 hj.1 (by (first | lia | omega))) e
   (first | lia | omega)
 ·obtain ⟨k,ek,rfl⟩:=Option.map_eq_some_iff.mp e
  obtain ⟨lb,hl⟩:=h.kn k (hg.late k ek)
  have e2:(S.Γ k).getD 0 = lb:=by rw [hl]; rfl
  exact ⟨by show S.Γ k = some ((S.Γ k).getD 0); rw [e2]; exact hl,by show (S.Γ k).getD 0∈S.U; rw [e2]; exact h.gu k lb hl⟩
 ·exact exG_has (labs_len _ _) ((List.mem_append.mp m).elim (fun m=>.inr (h.kn k m)) .inl)
 ·exact List.mem_append.mpr ((exG_mem e).elim .inr fun e=>.inl (h.gu k lb e))
 ·rcases List.mem_append.mp m with m | m
  ·exact (h.us u m).imp id fun ⟨k,hk,i,hi,e⟩=>⟨k,hk,i,⟨hi.1,by (first | lia | omega)⟩,e⟩
  ·obtain ⟨k,hk,i,hi,e⟩:=labs_mem m
   exact .inr ⟨k,hg.ns k hk,i,⟨by (first | lia | omega),hi.2⟩,e⟩
theorem mk_ok:∀ {gs:List Gd} {S:Sc} {c:Nat} {l:List Nat},Gg l gs→Sk S c l→c + cntG gs≤5→Gc (mkCs gs S c) S∧(Lb c (mkCs gs S c)∧((mkCs gs S c).map Dc.v = gs.map Gd.v∧(cntC (mkCs gs S c) = cntG gs∧(Sk (runC (mkCs gs S c) S) (c + cntG gs) (namG l gs)∧((runC (mkCs gs S c) S).n = S.n + cntG gs∧(mkCs gs S c).length = gs.length)))))
 | [],_,_,_,_,h,_=>⟨trivial,trivial,rfl,rfl,h,rfl,rfl⟩
 | g :: gs,S,c,l,hg,h,hc=>by
  have hc:c + (g.ns.length + cntG gs)≤5:=hc
  obtain ⟨ok,h'⟩:=h.ok hg.1 (by (first | lia | omega))
  obtain ⟨a1,a2,a3,a4,a5,a6,a7⟩:=mk_ok (gs:=gs) (S:=S.addc (mkC S.Γ c g)) (c:=c + g.ns.length) hg.2 h' (by (first | lia | omega))
  refine ⟨⟨ok,a1⟩,⟨⟨rfl,hg.1.mk',hg.1.ns⟩,a2⟩,?_,congrArg (g.ns.length + ·) a4,?_,?_,congrArg (· + 1) a7⟩
  ·exact congr (congrArg List.cons mk_v) a3
  ·rw [show c + cntG (g :: gs) = c + g.ns.length + cntG gs from (Nat.add_assoc ..).symm]; exact a5
  ·exact a6.trans (Nat.add_assoc ..)
end P3
end Mine.Internal
namespace Mine.Internal
open PySem
namespace P3
noncomputable def Es (l:List Nat) (nd:V):Prop:=(∃ s∈[66,67],nd = nmV s) ∨ ∃ k∈l,nd = nmV k ∨ nd = dtV k
noncomputable def Ls (l:List Nat) (nd:V):Prop:=(∃ a b,Es l a∧(Es l b∧(nd = binV cIn a b ∨ nd = binV 62 a b))) ∨ ∃ w∈words,∃ a,Es l a∧nd = unV w a
noncomputable def Bs (l:List Nat) (nd:V):Prop:=Ls l nd ∨ ((∃ a,Ls l a∧nd = unV 34 a) ∨ ((∃ k∈xyz,∃ a b,Es l a∧(Ls (l++[k]) b∧nd = letV k a b)) ∨
 ∃ w∈cAll :: words,∃ gs b,Gg l gs∧(gs.length≤2∧(cntG gs≤2∧(Ls (namG l gs) b∧nd = quV w (.tup (gs.map Gd.v)) b)))))
theorem es_ok {T:Tam} {l:List Nat} {nd:V} (h:∀ k∈l,∃ r,T k = some r) (e:Es l nd):∃ r,Ex T nd r:=by
 rcases e with ⟨s,hs,rfl⟩ | ⟨k,hk,e⟩
 ·exact ⟨_,.inl ⟨s,hs,rfl,rfl⟩⟩
 ·obtain ⟨r,hr⟩:=h k hk
  rcases e with rfl | rfl
  ·exact ⟨r,.inr (.inl ⟨k,rfl,hr⟩)⟩
  ·exact ⟨_,.inr (.inr ⟨k,r,rfl,hr,rfl⟩)⟩
theorem ls_ok {T:Tam} {l:List Nat} {nd:V} (h:∀ k∈l,∃ r,T k = some r) (e:Ls l nd):∃ f,Lt T nd f:=by
 rcases e with ⟨a,b,ha,hb,e⟩ | ⟨w,hw,a,ha,rfl⟩
 ·obtain ⟨r,hr⟩:=es_ok h ha
  obtain ⟨q,hq⟩:=es_ok h hb
  rcases e with rfl | rfl
  ·exact ⟨_,.inl ⟨a,b,r,q,hr,hq,rfl,rfl⟩⟩
  ·exact ⟨_,.inr (.inl ⟨a,b,r,q,hr,hq,rfl,rfl⟩)⟩
 ·obtain ⟨r,hr⟩:=es_ok h ha
  exact ⟨_,.inr (.inr ⟨w,hw,a,r,hr,rfl,rfl⟩)⟩
section
variable {π τ τ' σ:St} {sp ht pk x:Int} {c0 c2 c m n d z w zb:Nat} {v r nd ev f:V} {D D0:Env} {K:V→St→Prop} {cs:List Dc} {S0 S:Sc} {l:List Nat}
theorem Ev.dup {ct:Int} (e:Ev π τ ev D) (hl:D.length≤1000) (τ':St) (p:τ <+: τ'):biE (stt π ct sp ht pk τ') .dict [ev] = some (.dict D):=by
 obtain ⟨j,rfl,h⟩:=(e.pre p).at (ct:=ct) (sp:=sp) (ht:=ht) (pk:=pk)
 show (locD (stt π ct sp ht pk τ')[j]?).bind _ = _
 rw [h]
 exact if_pos (Nat.le_trans hl (by decide))
theorem qf_ok {bD:Nat} (sh:Shp π) (hm:13≤m) (hn:m + 1≤n) (hw:w∈cAll :: words) (hd:∀ τ',τ <+: τ'→biE (stt π c0 sp ht pk τ') .dict [ev] = some (.dict D0)) (g:Eo S0.Γ D0) (ha:S0.aps = []) (gc:Gc cs S0) (lb:Lb c0 cs) (hc:c0 + cntC cs≤5) (hl:cs.length≤5) (lD:D0.length≤bD) (hbD:bD≤300) (b0:0≤sp) (b00:0≤ht) (b1:sp + (6 * cs.length + zb:Nat)≤20000) (b2:ht + d≤100) (h4:4≤d)
  (hb:∀ τ' D',Eo (runC cs S0).Γ D'→D'.length≤bD + 20→Tx m π τ' D' (c0 + cntC cs:Nat) c2 d zb nd f)
  (z:∀ (sp' pk':Int) τ',sp≤sp'∧sp'≤sp + (6 * cs.length + zb:Nat)→τ <+: τ'→K (fq w (toldFc cs) (runC cs S0).aps f) (stt π c2 sp' ht pk' τ')) :
  callK prog n 31 [.loc (π.length + 8),.str w,.tup (cs.map Dc.v),nd,ev] (stt π c0 sp ht pk τ) K :=
 have b1':sp + (6 * (cs.length:Int) + zb)≤20000:=b1
 call_i (d:=f_Opener_quantified) (up1 hn) rfl rfl (qf_x (S0:=S0) hw (fun K hK=>call_i (d:=f_Opener_decls_of) (Nat.le_trans (by (first | lia | omega)) (dn1 hn)) rfl rfl (dcl_x (S0:=S0) hd g ha gc lb hc hl lD hbD b0 (by (first | lia | omega)) (by (first | lia | omega))
   (fun τ D Γ ds g hs hl=>⟨(dm_x sh g hs hl).1 (n - 1 - 1) (by (first | lia | omega)),fun ct sp ht pk τ K hk=>(dm_x (τ:=τ) sh g hs hl).2 (n - 1 - 1) (by (first | lia | omega)) ct sp ht pk τ K hk⟩)
   (fun k hk c hc sp ht pk τ K hK=>fr_ok sh (by (first | lia | omega)) hk hc hK) hK))
  (fun σ v l K fa ne hl hK=>all_i (by (first | lia | omega)) fa ne hl hK) (fun τ' D' e l=>hb τ' D' e l (n - 1) (dn1 hn)) b0 b00 b1 b2 z)
theorem tx_quant (sh:Shp π) (hm:13≤m) (hw:w∈cAll :: words) (g:Eo S0.Γ D0) (ha:S0.aps = []) (gc:Gc cs S0) (lb:Lb c0 cs) (hc:c0 + cntC cs≤5) (hl:cs.length≤5) (lD:D0.length≤100) (h4:4≤d)
  (hb:∀ τ' D',Eo (runC cs S0).Γ D'→D'.length≤100 + 20→Tx m π τ' D' (c0 + cntC cs:Nat) c2 d zb nd f):Tx (m + 3) π τ D0 c0 c2 (d + 1) (6 * cs.length + zb + 1) (quV w (toldNc cs) nd) (fq w (toldFc cs) (runC cs S0).aps f):=Tx.of (m:=m + 1) fun n hn sp ht pk ev K e a0 a00 a1 a2 kk=>by
 have h31:∀ K:V→St→Prop,(∀ (sp' pk':Int) τ',sp≤sp'∧sp'≤sp + (6 * cs.length + zb:Nat)→τ <+: τ'→K (fq w (toldFc cs) (runC cs S0).aps f) (stt π c2 sp' ht pk' τ'))→TabK.call ⟨callK prog n⟩ 31 [.loc (π.length + 8),.str w,toldNc cs,nd,ev] (stt π c0 sp ht pk τ) K:=fun K hK =>
  qf_ok sh hm hn hw (fun τ' p=>e.dup (Nat.le_trans lD (by decide)) τ' p) g ha gc lb hc hl lD (by decide) a0 a00 a1 a2 h4 hb hK
 generalize TabK.mk (callK prog n) = T at h31 ⊢
 generalize toldNc cs = tn at h31 ⊢
 conv=>whnf
 refine iK_t (b:=!decide (w = 510173642752110)) (by
  simp only [words,List.mem_cons,List.not_mem_nil,or_false] at hw
  rcases hw with rfl | rfl | rfl | rfl | rfl <;> decide) ?_
 conv=>whnf
 refine oK_i _ (meth_i rfl rfl) ?_
 conv=>whnf
 exact h31 _ fun sp' pk' τ' b p=>kk sp' pk' τ' b p
theorem Sk.tam (h:Sk S c l):∀ k∈l,∃ r,S.Γ.t k = some r:=fun k m=>(h.kn k m).elim fun lb e=>⟨varV lb,congrArg (Option.map varV) e⟩
theorem bs_ok (sh:Shp π) (h:Sk S c l) (hc:c≤3) (hn:S.n≤700) (hb:Bs l nd):∃ f,∃ c2:Nat,(∀ τ D,Eo S.Γ D→D.length≤100→Tx 17 π τ D c c2 8 40 nd f)∧TrS 12 8 S nd f:=by
 rcases hb with hb | ⟨a,hb,rfl⟩ | ⟨k,hk,a,b,ha,hb,rfl⟩ | ⟨w,hw,gs,b,hg,lg,cg,hb,rfl⟩
 ·obtain ⟨f,hf⟩:=ls_ok h.tam hb
  exact ⟨f,c,fun τ D g _=>(lf_x sh g.eg hf).up (by decide) (by decide) (by decide),tr_up (tr_leaf hf (Nat.le_trans hn (by decide))) (by decide) (by decide)⟩
 ·obtain ⟨f,hf⟩:=ls_ok h.tam hb
  exact ⟨_,c,fun τ D g _=>(tx_not (lf_x sh g.eg hf)).up (by decide) (by decide) (by decide),tr_up (tr_not (tr_leaf hf (Nat.le_trans hn (by decide)))) (by decide) (by decide)⟩
 ·obtain ⟨r,hr⟩:=es_ok h.tam ha
  obtain ⟨f,hf⟩:=ls_ok (T:=setT S.Γ.t k r) (fun j m=>by
   delta setT
   by_cases hj:j = k
   ·exact ⟨r,if_pos hj⟩
   ·exact (h.tam j ((List.mem_append.mp m).resolve_right fun m=>hj (List.mem_singleton.mp m))).imp fun q e=>(if_neg hj).trans e) hb
  exact ⟨f,c,fun τ D g hD=>(lt_tx sh g (Nat.le_trans hD (by decide)) hr (ne_sigs hk) (fun e=>absurd (e ▸ hk) (by decide)) hf).up (by decide) (by decide) (by decide),tr_up (tr_let hr (ne_sigs hk) hf (Nat.le_trans hn (by decide))) (by decide) (by decide)⟩
 ·have h0:Sk S.bare c l:=⟨h.kn,h.gu,h.us⟩
  obtain ⟨a1,a2,a3,a4,a5,a6,a7⟩:=mk_ok hg h0 (by (first | lia | omega))
  generalize mkCs gs S.bare c = cs at a1 a2 a3 a4 a5 a6 a7
  obtain ⟨f,hf⟩:=ls_ok a5.tam hb
  have sn:S.bare.n = S.n:=rfl
  have la:(runC cs S.bare).aps.length≤1000:=by
   have w:=aps_len (cs:=cs) (S:=S.bare) a1
   have v:S.bare.aps.length = 0:=rfl
   (first | lia | omega)
  have en:V.tup (gs.map Gd.v) = toldNc cs:=congrArg V.tup a3.symm
  rw [en]
  refine ⟨fq w (toldFc cs) (runC cs S.bare).aps f,c + cntC cs,fun τ D g hD=>?_,tr_qu (d0:=2) hw (tr_up (tr_leaf hf (by (first | lia | omega))) (by decide) (by decide)) a1 (by (first | lia | omega)) (by (first | lia | omega)) la⟩
  exact (tx_quant (S0:=S.bare) (d:=4) (zb:=9) (m:=14) sh (by decide) hw g rfl a1 a2 (by (first | lia | omega)) (by (first | lia | omega)) hD (Nat.le_refl _) fun τ' D' g' _=>lf_x sh g'.eg hf).up (by decide) (by decide) (by (first | lia | omega))
end
end P3
end Mine.Internal
namespace Mine.Internal
open PySem
theorem idx_lt {n k:Nat} (h:k < n) (hn:n≤1000000):idx n (k:Int) = some k:=by
 delta idx; rw [if_pos (by (first | lia | omega)),if_pos (by (first | lia | omega))]; rfl
theorem item_fa {σ:St} {v x:V} {l:List V} {k:Nat} (h:FA σ v l) (hk:l[k]? = some x) (hl:l.length≤1000):itemE σ v (.int (k:Nat)) = some x:=by
 show (asList σ v).bind (fun l=>(idx l.length (k:Int)).bind fun j=>l[j]?) = _
 rw [h.src]
 show (idx l.length (k:Int)).bind (fun j=>l[j]?) = _
 rw [idx_lt (List.getElem?_eq_some_iff.mp hk).1 (Nat.le_trans hl (by decide))]; exact hk
namespace P3
section
variable {L:List V} {m:Int} {k k' n:Nat} {σ:St} {v kv nd:V} {l:List Nat} {K:V→St→Prop} {T:TabK}
theorem fa_feed {l:List V} (h:FA (feedO L m k :: σ) v l):FA (feedO L m k' :: σ) v l:=h.imp id fun ⟨i,e,h⟩=>match i,e,h with
 | 0,_,h=>nomatch h
 | i + 1,e,h=>⟨i + 1,e,h⟩
noncomputable def DrT (T:TabK) (L:List V) (m:Int):Prop:=∀ (k:Nat) (w:Int) (σ:St) (K:V→St→Prop),k≤10000→0 < w→(∀ v:Nat,(v:Int) < w→K (.int v) (feedO L m (k + 1) :: σ))→T.call 75 [.loc 0,.int w] (feedO L m k :: σ) K
theorem dr_ok (hL:okL L) (hn:1≤n):DrT ⟨callK prog n⟩ L m:=fun k w σ K hk hw h=>by
 obtain ⟨n,rfl⟩:∃ j,n = j + 1:=⟨n - 1,(Nat.sub_add_cancel hn).symm⟩
 exact draw_ok hL hk hw h
theorem lt4 {v:Nat} (h:(v:Int) < 4):v = 0 ∨ v = 1 ∨ v = 2 ∨ v = 3:=by (first | lia | omega)
theorem some_x (h75:DrT T L m) (fa:FA (feedO L m k :: σ) kv (l.map V.str)) (h0:0 < l.length) (hl:l.length≤1000) (hk:k≤9000) (z:∀ nd k',k'≤k + 2→Es l nd→K nd (feedO L m k' :: σ)) :
  kSs prog T f_law_some.body (enter f_law_some [.loc 0,kv]) (feedO L m k :: σ) (outK K):=by
 have fa1:=fun k'=>fa_feed (k':=k') fa
 have ll:(l.map V.str).length = l.length:=List.length_map ..
 conv=>whnf
 refine h75 _ _ _ _ (by (first | lia | omega)) (by decide) fun v hv=>?_
 have go:∀ w:Nat,(w = 2 ∨ w = 3)→kSs prog T (f_law_some.body.drop 2) [some (.loc 0),some kv,some (.int w),none] (feedO L m (k + 1) :: σ) (outK K):=fun w hw=>by
  conv=>whnf
  refine oK_i _ (len_fa (fa1 (k + 1)) (ll ▸ hl)) ?_
  conv=>whnf
  refine h75 _ _ _ _ (by (first | lia | omega)) (by rw [ll]; (first | lia | omega)) fun j hj=>?_
  have hj:j < l.length:=by rw [ll] at hj; (first | lia | omega)
  conv=>whnf
  refine oK_i _ (item_fa (k:=j) (fa1 (k + 1 + 1)) (List.getElem?_eq_getElem (by rw [ll]; exact hj)) (ll ▸ hl)) ?_
  rw [List.getElem_map]
  rcases hw with rfl | rfl
  ·exact z (nmV l[j]) (k + 1 + 1) (by (first | lia | omega)) (.inr ⟨_,List.getElem_mem hj,.inl rfl⟩)
  ·exact z (dtV l[j]) (k + 1 + 1) (by (first | lia | omega)) (.inr ⟨_,List.getElem_mem hj,.inr rfl⟩)
 rcases lt4 hv with rfl | rfl | rfl | rfl
 ·exact z _ (k + 1) (by (first | lia | omega)) (.inl ⟨66,by decide,rfl⟩)
 ·exact z _ (k + 1) (by (first | lia | omega)) (.inl ⟨67,by decide,rfl⟩)
 ·exact go 2 (.inl rfl)
 ·exact go 3 (.inr rfl)
noncomputable def SmT (T:TabK) (L:List V) (m:Int):Prop:=∀ (k:Nat) (σ:St) (kv:V) (l:List Nat) (K:V→St→Prop),FA (feedO L m k :: σ) kv (l.map V.str)→0 < l.length→l.length≤1000→k≤9000→(∀ nd k',k'≤k + 2→Es l nd→K nd (feedO L m k' :: σ))→T.call 76 [.loc 0,kv] (feedO L m k :: σ) K
theorem some_ok (hL:okL L) (hn:2≤n):SmT ⟨callK prog n⟩ L m:=fun k σ kv l K fa h0 hl hk z=>call_i (d:=f_law_some) (up1 hn) rfl rfl (some_x (dr_ok hL (dn1 hn)) fa h0 hl hk z)
end
end P3
end Mine.Internal
namespace Mine.Internal
open PySem
theorem range_i {c:Nat} {i:Int} (e:i = (c:Nat)) (h:c≤1000):rangeE (.int i) = some ((List.range c).map fun (k:Nat)=>V.int k):=by
 subst e
 show (if -1000000≤(c:Int)∧(c:Int)≤1000000 then some ((List.range (c:Int).toNat).map fun (k:Nat)=>V.int k) else none) = _
 rw [if_pos ⟨by (first | lia | omega),by (first | lia | omega)⟩]; rfl
theorem extT_i {σ:St} {j:Nat} {acc news:List V} (h:σ[j]? = some (.list acc)) (hl:(acc++news).length≤capL):mthE .ext (.loc j) (.tup news) σ = some (σ.set j (.list (acc++news))):=by
 show mthO σ (.tup news) j .ext σ[j]? = _
 rw [h]
 show (okLen (acc++news)).map (fun l=>σ.set j (.list l)) = _
 rw [okLen_i hl]; rfl
theorem tup_L {l:List V} {σ:St} (hl:l.length≤1000):biE σ .tuple [.list l] = some (.tup l):=tup_fa (.inl rfl) hl
namespace P3
noncomputable def gst (L:List V) (m:Int) (σ:St) (k:Nat) (F H:List V):St:=feedO L m k :: (σ++[.list F,.list H])
section
variable {L:List V} {m:Int} {k k' n:Nat} {σ:St} {v kv nd:V} {l h:List Nat} {K:V→St→Prop} {T:TabK} {F H:List V} {R:List S} {kt:Out→Prop} {x6 x7 x8 x9 x10 x11 x12 x13 dom:Option V} {wide many lap:Nat}
theorem at1:(gst L m σ k F H)[σ.length + 1]? = some (.list F):=by
 show (σ++[SObj.list F,.list H])[σ.length]? = _
 rw [List.getElem?_append_right (Nat.le_refl _),Nat.sub_self]; rfl
theorem at2:(gst L m σ k F H)[σ.length + 2]? = some (.list H):=by
 show (σ++[SObj.list F,.list H])[σ.length + 1]? = _
 rw [List.getElem?_append_right (Nat.le_add_right ..),Nat.add_sub_cancel_left]; rfl
theorem set1 {F':List V}:(gst L m σ k F H).set (σ.length + 1) (.list F') = gst L m σ k F' H:=by
 show feedO L m k :: (σ++[SObj.list F,.list H]).set σ.length _ = _
 rw [List.set_append_right _ _ (Nat.le_refl _),Nat.sub_self]; rfl
theorem set2 {H':List V}:(gst L m σ k F H).set (σ.length + 2) (.list H') = gst L m σ k F H':=by
 show feedO L m k :: (σ++[SObj.list F,.list H]).set (σ.length + 1) _ = _
 rw [List.set_append_right _ _ (Nat.le_add_right ..),Nat.add_sub_cancel_left]; rfl
noncomputable abbrev gdR (σ:St) (kv:V) (wide many:Nat) (x6 x7 x8 x9 x10 x11 x12 x13:Option V):REnv:=[some (.loc 0),some kv,some (.int wide),some (.loc (σ.length + 1)),some (.loc (σ.length + 2)),some (.int many),x6,x7,x8,x9,x10,x11,x12,x13]
noncomputable def gA:S:=.asg (.name 7) (.call 75 [(.var 0),(.cst (.int 3))])
noncomputable def gB:S:=.asg (.name 8) (.bin .add (.cst (.int 1)) (.call 75 [(.var 0),(.ite (.cmp .eq (.var 6) (.cst (.int 1))) (.cst (.int 1)) (.ite (.cmp .gt (.var 2) (.cst (.int 1))) (.bin .add (.bin .sub (.var 2) (.var 5)) (.cst (.int 1))) (.cst (.int 1))))]))
noncomputable def gC:S:=.asg (.name 9) (.bi .tuple [(.comp (.gen (.one 13) (.range (.var 8)) [] (.elt (.sidx [(.str 121),(.str 122),(.str 123)] (.bin .mod (.bin .add (.var 7) (.var 13)) (.cst (.int 3)))))))])
noncomputable def gD:List S:=[.asg (.name 10) (.call 75 [(.var 0),(.cst (.int 4))]),
   .asg (.name 11) (.tup [(.cst (.str 1023794727099668889702)),(.cst (.int 0)),(.sidx [(.str 66),(.str 67)] (.bin .mod (.var 10) (.cst (.int 2))))])]
noncomputable def gE:S:=.ite (.cmp .gt (.var 10) (.cst (.int 1))) [.asg (.name 12) (.tup [(.cst (.str 1023794727099668889702)),(.cst (.int 0)),(.item (.var 4) (.call 75 [(.var 0),(.bi .len [(.var 4)])]))]),
    .asg (.name 11) (.tup [(.cst (.str 435406826897519)),(.cst (.int 0)),(.cst (.str 39)),(.var 11),(.tup [(.cst (.str 435406826897519)),(.cst (.int 0)),(.cst (.str 47)),(.var 12),(.tup [(.cst (.str 1023794727099668889702)),(.cst (.int 0)),(.cst (.str 103))])])])] []
noncomputable def gF:List S:=[.mth .app (.var 3) (.tup [(.cst (.int 0)),(.cmp .eq (.call 75 [(.var 0),(.cst (.int 2))]) (.cst (.int 1))),(.var 9),(.item (.tup [(.cst (.str 0)),(.cst (.str 492581442027622))]) (.call 75 [(.var 0),(.cst (.int 2))])),(.var 11)]),
   .mth .ext (.var 4) (.var 9)]
noncomputable def gBody:List S:=gA :: gB :: gC :: (gD++gE :: gF)
noncomputable def Hw (lap wide many wd:Nat):Prop:=lap = 1∧wd = 1 ∨ (lap = 0∧(wide = 1∧wd = 1 ∨ (wide = 3∧(many = 1∧wd = 3 ∨ (many = 2∧wd = 2)))))
theorem g_ab {wd:Nat} (hw:Hw lap wide many wd) (h75:DrT T L m) (hk:k≤9000) (z:∀ a c:Nat,a < 3→c < wd→kSs prog T R (gdR σ kv wide many (some (.int lap)) (some (.int a)) (some (.int (1 + (c:Int)))) x9 x10 x11 x12 x13) (gst L m σ (k + 1 + 1) F H) kt) :
  kSs prog T (gA :: gB :: R) (gdR σ kv wide many (some (.int lap)) x7 x8 x9 x10 x11 x12 x13) (gst L m σ k F H) kt:=by
 conv=>whnf
 refine h75 _ _ _ _ (by (first | lia | omega)) (by decide) fun a ha=>?_
 have z:=fun c hc=>z a c (by (first | lia | omega)) hc
 rcases hw with ⟨rfl,rfl⟩ | ⟨rfl,⟨rfl,rfl⟩ | ⟨rfl,⟨rfl,rfl⟩ | ⟨rfl,rfl⟩⟩⟩
 all_goals
  conv=>whnf
  refine h75 _ _ _ _ (by (first | lia | omega)) (by decide) fun c hc=>?_
  exact z c (by (first | lia | omega))
noncomputable def nsG (a c:Nat):List Nat:=(List.range (1 + c)).map fun k=>xyz.getD ((a + k) % 3) 0
theorem sidx3:∀ {j:Nat},j < 3→sidxE [.str 121,.str 122,.str 123] (.int (j:Nat)) = some (.str (xyz.getD j 0))
 | 0,_=>rfl
 | 1,_=>rfl
 | 2,_=>rfl
 | j + 3,h=>absurd h (by (first | lia | omega))
theorem xyz3:∀ {j:Nat},j < 3→xyz.getD j 0∈xyz
 | 0,_=>by decide
 | 1,_=>by decide
 | 2,_=>by decide
 | j + 3,h=>absurd h (by (first | lia | omega))
theorem ns_mem {a c:Nat}:∀ k∈nsG a c,k∈xyz:=fun k m=>by
 obtain ⟨j,_,rfl⟩:=List.mem_map.mp m
 exact xyz3 (Nat.mod_lt _ (by decide))
theorem ns_len {a c:Nat}:(nsG a c).length = 1 + c:=by delta nsG; rw [List.length_map,List.length_range]
theorem g_c {a c:Nat} (hc:c < 3) {st:St} (z:∀ x13,kSs prog T R (gdR σ kv wide many x6 (some (.int a)) (some (.int (1 + (c:Int)))) (some (.tup ((nsG a c).map V.str))) x10 x11 x12 x13) st kt) :
  kSs prog T (gC :: R) (gdR σ kv wide many x6 (some (.int a)) (some (.int (1 + (c:Int)))) x9 x10 x11 x12 x13) st kt:=by
 conv=>whnf
 refine oK_i _ (range_i (c:=1 + c) (by (first | lia | omega)) (by (first | lia | omega))) ?_
 refine loopMapS (α:=Nat) (fun k=>V.int k) (fun k=>V.str (xyz.getD ((a + k) % 3) 0)) (by rw [List.length_range]; exact Nat.le_trans (show 1 + c≤3 by (first | lia | omega)) (by decide)) rfl (fun i _=>⟨_,rfl,fun ds kk b zz=>?_⟩) ?_
 ·have e:((a:Int) + (i:Int)) % 3 = (((a + i) % 3:Nat):Int):=by (first | lia | omega)
  conv=>whnf
  refine oK_i _ ((congrArg (fun j=>sidxE [.str 121,.str 122,.str 123] (.int j)) e).trans (sidx3 (Nat.mod_lt _ (by decide)))) ?_
  exact bK_i (le1 b) zz
 ·conv=>whnf
  have e:((List.range (1 + c)).map fun k=>V.str (xyz.getD ((a + k) % 3) 0)) = (nsG a c).map V.str:=by delta nsG; rw [List.map_map]; rfl
  rw [e]
  refine oK_i _ (tup_L (by rw [List.length_map,ns_len]; (first | lia | omega))) ?_
  exact z _
theorem g_de (h75:DrT T L m) (hk:k≤9000) (h0:0 < h.length) (hl:h.length≤1000) (z:∀ k' s late x10 x12,k'≤k + 2→s∈[66,67]→(∀ j,late = some j→j∈h)→kSs prog T R (gdR σ kv wide many x6 x7 x8 x9 x10 (some (Gd.dom ⟨false,[],.none,s,late⟩)) x12 x13) (gst L m σ k' F (h.map V.str)) kt) :
  kSs prog T (gD++gE :: R) (gdR σ kv wide many x6 x7 x8 x9 x10 x11 x12 x13) (gst L m σ k F (h.map V.str)) kt:=by
 have ll:(h.map V.str).length = h.length:=List.length_map ..
 have fa:∀ k',FA (gst L m σ k' F (h.map V.str)) (.loc (σ.length + 2)) (h.map V.str):=fun k'=>.inr ⟨_,rfl,at2⟩
 conv=>whnf
 refine h75 _ _ _ _ (by (first | lia | omega)) (by decide) fun w hw=>?_
 have go:∀ w:Nat,(w = 2 ∨ w = 3)→∀ s∈[66,67],kSs prog T (gE :: R) (gdR σ kv wide many x6 x7 x8 x9 (some (.int w)) (some (nmV s)) x12 x13) (gst L m σ (k + 1) F (h.map V.str)) kt:=fun w hw s hs=>by
  rw [show (w:Int) = (w:Nat) from rfl]
  refine iK_t (b:=decide ((1:Int) < (w:Nat))) (decide_eq_true (by (first | lia | omega))) ?_
  conv=>whnf
  refine oK_i _ (len_fa (fa (k + 1)) (ll ▸ hl)) ?_
  conv=>whnf
  refine h75 _ _ _ _ (by (first | lia | omega)) (by rw [ll]; (first | lia | omega)) fun j hj=>?_
  have hj:j < h.length:=by rw [ll] at hj; (first | lia | omega)
  conv=>whnf
  refine oK_i _ (item_fa (k:=j) (fa (k + 1 + 1)) (List.getElem?_eq_getElem (by rw [ll]; exact hj)) (ll ▸ hl)) ?_
  rw [List.getElem_map]
  exact z (k + 1 + 1) s (some h[j]) _ _ (by (first | lia | omega)) hs (fun i e=>by cases Option.some.inj e; exact List.getElem_mem hj)
 rcases lt4 hw with rfl | rfl | rfl | rfl
 ·exact z (k + 1) 66 none _ _ (by (first | lia | omega)) (by decide) (fun i e=>nomatch e)
 ·exact z (k + 1) 67 none _ _ (by (first | lia | omega)) (by decide) (fun i e=>nomatch e)
 ·exact go 2 (.inl rfl) 66 (by decide)
 ·exact go 3 (.inr rfl) 67 (by decide)
theorem mk_i {v:Nat} (h:(v:Int) < 2) (σ:St):∃ mk,itemE σ (.tup [.str 0,.str 492581442027622]) (.int v) = some mk∧pyIn mk [.str 0,.str cOne] = some true:=by
 rcases (by (first | lia | omega):v = 0 ∨ v = 1) with rfl | rfl
 ·exact ⟨.str 0,rfl,rfl⟩
 ·exact ⟨.str cOne,rfl,rfl⟩
theorem g_f {ns:List Nat} {dm:V} (h75:DrT T L m) (hk:k≤9000) (lF:F.length≤1000) (lh:h.length≤900) (ln:ns.length≤3) (z:∀ k' ap mk,k'≤k + 2→pyIn mk [.str 0,.str cOne] = some true→kt (.next (gdR σ kv wide many x6 x7 x8 (some (.tup (ns.map V.str))) x10 (some dm) x12 x13) (gst L m σ k' (F++[.tup [.int 0,.bool ap,.tup (ns.map V.str),mk,dm]]) ((h++ns).map V.str)))) :
  kSs prog T gF (gdR σ kv wide many x6 x7 x8 (some (.tup (ns.map V.str))) x10 (some dm) x12 x13) (gst L m σ k F (h.map V.str)) kt:=by
 conv=>whnf
 refine bK_i (con_i rfl at1) ?_
 conv=>whnf
 refine h75 _ _ _ _ (by (first | lia | omega)) (by decide) fun a ha=>?_
 conv=>whnf
 refine h75 _ _ _ _ (by (first | lia | omega)) (by decide) fun b hb=>?_
 obtain ⟨mk,e1,e2⟩:=mk_i hb (gst L m σ (k + 1 + 1) F (h.map V.str))
 conv=>whnf
 refine oK_i _ e1 ?_
 conv=>whnf
 refine oK_i _ ((app_i (σ:=gst L m σ (k + 1 + 1) F (h.map V.str)) at1 (by rw [List.length_append]; exact Nat.le_trans (Nat.add_le_add_right lF 1) (by decide))).trans (congrArg some set1)) ?_
 conv=>whnf
 refine bK_i (con_i rfl at2) ?_
 conv=>whnf
 refine oK_i _ ((extT_i (news:=ns.map V.str) at2 (by rw [List.length_append,List.length_map,List.length_map]; exact Nat.le_trans (Nat.add_le_add lh ln) (by decide))).trans (congrArg some set2)) ?_
 rw [← List.map_append]
 exact z (k + 1 + 1) _ mk (by (first | lia | omega)) e2
end
end P3
end Mine.Internal
namespace Mine.Internal
open PySem
theorem list_fa {σ:St} {v:V} {l:List V} (h:FA σ v l) (hl:l.length≤1000):biE σ .list [v] = some (.list l):=by
 show ((asList σ v).bind okLen).map V.list = _
 rw [h.src]
 show (okLen l).map _ = _
 rw [okLen_i (Nat.le_trans hl (by decide))]; rfl
namespace P3
section
variable {L:List V} {m:Int} {k k' n:Nat} {σ:St} {v kv nd:V} {l h:List Nat} {K:V→St→Prop} {T:TabK} {F H:List V} {R:List S} {kt:Out→Prop} {x6 x7 x8 x9 x10 x11 x12 x13 dom:Option V} {wide many lap:Nat}
theorem lap_ok {wd:Nat} (hw:Hw lap wide many wd) (h75:DrT T L m) (hk:k≤8900) (h0:0 < h.length) (hl:h.length≤900) (lF:F.length≤1000) (z:∀ x6 x7 x8 x9 x10 x11 x12 x13 k' g,k'≤k + 6→GdOk h g→g.ns.length≤wd→kt (.next (gdR σ kv wide many x6 x7 x8 x9 x10 x11 x12 x13) (gst L m σ k' (F++[g.v]) ((h++g.ns).map V.str)))) :
  kSs prog T gBody (gdR σ kv wide many (some (.int lap)) x7 x8 x9 x10 x11 x12 x13) (gst L m σ k F (h.map V.str)) kt:=by
 have w3:wd≤3:=by rcases hw with ⟨_,rfl⟩ | ⟨_,⟨_,rfl⟩ | ⟨_,⟨_,rfl⟩ | ⟨_,rfl⟩⟩⟩ <;> decide
 refine g_ab (R:=gC :: (gD++gE :: gF)) hw h75 (by (first | lia | omega)) fun a c ha hc=>?_
 refine g_c (R:=gD++gE :: gF) (by (first | lia | omega)) fun x13=>?_
 refine g_de (R:=gF) h75 (by (first | lia | omega)) h0 (by (first | lia | omega)) fun k1 s late x10 x12 hk1 hs hl1=>?_
 refine g_f h75 (by (first | lia | omega)) lF hl (by rw [ns_len]; (first | lia | omega)) fun k2 ap mk hk2 hm=>?_
 exact z _ _ _ _ _ _ _ _ k2 ⟨ap,nsG a c,mk,s,late⟩ (by (first | lia | omega)) ⟨ns_mem,by show (nsG a c).length≤3; rw [ns_len]; (first | lia | omega),hm,hs,hl1⟩ (by show (nsG a c).length≤wd; rw [ns_len]; (first | lia | omega))
noncomputable def gI:S:=.asgTs true [3,4,5] [(.mut (.list [])),(.mut (.bi .list [(.var 1)])),(.bin .add (.cst (.int 1)) (.call 75 [(.var 0),(.cst (.int 2))]))]
noncomputable def gFor:S:=.for_ (.one 6) (.range (.var 5)) gBody
noncomputable def gRet:S:=.ret (.tup [(.bi .tuple [(.var 3)]),(.var 4)])
theorem g_ini (h75:DrT T L m) (fa:FA (feedO L m k :: σ) kv (l.map V.str)) (hl:l.length≤1000) (hk:k≤9000) (z:∀ many,many = 1 ∨ many = 2→kSs prog T R (gdR σ kv wide many none none none none none none none none) (gst L m σ (k + 1) [] (l.map V.str)) kt) :
  kSs prog T (gI :: R) (enter f_law_decls [.loc 0,kv,.int wide]) (feedO L m k :: σ) kt:=by
 conv=>whnf
 refine oK_i _ (list_fa (fa.pre (List.prefix_append _ [SObj.list []])) (by rw [List.length_map]; exact hl)) ?_
 conv=>whnf
 rw [List.append_assoc,List.length_append]
 refine h75 k 2 (σ++[.list [],.list (l.map V.str)]) _ (by (first | lia | omega)) (by decide) fun v hv=>?_
 rcases (by (first | lia | omega):v = 0 ∨ v = 1) with rfl | rfl
 ·exact z 1 (.inl rfl)
 ·exact z 2 (.inr rfl)
theorem g_for {ρ:REnv} {i:Int} {l:List V} {st:St} (e:ρ[5]? = some (some (.int i))) (e2:rangeE (.int i) = some l) (z:kLoopS (stillB none l) (fun v ρ=>bindTg ρ (.one 6) v) (fun ρ σ k=>kSs prog T gBody ρ σ k) l ρ st kt):kS prog T gFor ρ st kt:=by
 show oK ((ρ[5]?).bind id) _
 rw [e]
 refine oK_i (V.int i) rfl ?_
 exact oK_i l e2 z
theorem gdecl_x (hw:wide = 1 ∨ wide = 3) (h75:DrT T L m) (fa:FA (feedO L m k :: σ) kv (l.map V.str)) (h0:0 < l.length) (hl:l.length≤500) (hk:k≤8000)
  (z:∀ k' gs,k'≤k + 20→Gg l gs→gs.length≤2→(cntG gs≤3∧(wide = 1→cntG gs≤2))→K (.tup [.tup (gs.map Gd.v),.loc (σ.length + 2)]) (gst L m σ k' (gs.map Gd.v) ((namG l gs).map V.str))) :
  kSs prog T f_law_decls.body (enter f_law_decls [.loc 0,kv,.int wide]) (feedO L m k :: σ) (outK K):=by
 refine g_ini (R:=[gFor,gRet]) h75 fa (by (first | lia | omega)) (by (first | lia | omega)) fun many hm=>?_
 rcases hm with rfl | rfl
 ·obtain ⟨wd,hd,w1,w2⟩:∃ wd,Hw 0 wide 1 wd∧(wd≤3∧(wide = 1→wd≤2)):=hw.elim (fun e=>⟨1,.inr ⟨rfl,.inl ⟨e,rfl⟩⟩,by (first | lia | omega),by (first | lia | omega)⟩) fun e=>⟨3,.inr ⟨rfl,.inr ⟨e,.inl ⟨rfl,rfl⟩⟩⟩,by (first | lia | omega),by (first | lia | omega)⟩
  refine g_for (l:=(List.range 1).map fun (k:Nat)=>V.int k) rfl (range_i (c:=1) rfl (by decide)) ?_
  refine bK_i rfl ?_
  refine oK_i _ rfl ?_
  refine lap_ok (lap:=0) (F:=[]) hd h75 (by (first | lia | omega)) h0 (by (first | lia | omega)) (by decide) fun x6 x7 x8 x9 x10 x11 x12 x13 k1 g1 hk1 g1ok l1=>?_
  refine bK_i rfl ?_
  conv=>whnf
  refine oK_i _ (tup_fa (l:=[g1.v]) (.inr ⟨_,rfl,at1⟩) (by decide:1≤1000)) ?_
  exact z k1 [g1] (by (first | lia | omega)) ⟨g1ok,trivial⟩ (by decide:1≤2) ⟨by show g1.ns.length + 0≤3; (first | lia | omega),fun e=>by show g1.ns.length + 0≤2; have:=w2 e; (first | lia | omega)⟩
 ·obtain ⟨wd,hd,w1,w2⟩:∃ wd,Hw 0 wide 2 wd∧(wd≤2∧(wide = 1→wd≤1)):=hw.elim (fun e=>⟨1,.inr ⟨rfl,.inl ⟨e,rfl⟩⟩,by (first | lia | omega),by (first | lia | omega)⟩) fun e=>⟨2,.inr ⟨rfl,.inr ⟨e,.inr ⟨rfl,rfl⟩⟩⟩,by (first | lia | omega),by (first | lia | omega)⟩
  refine g_for (l:=(List.range 2).map fun (k:Nat)=>V.int k) rfl (range_i (c:=2) rfl (by decide)) ?_
  refine bK_i rfl ?_
  refine oK_i _ rfl ?_
  refine lap_ok (lap:=0) (F:=[]) hd h75 (by (first | lia | omega)) h0 (by (first | lia | omega)) (by decide) fun x6 x7 x8 x9 x10 x11 x12 x13 k1 g1 hk1 g1ok l1=>?_
  have g3:=g1ok.le3
  refine bK_i rfl ?_
  refine oK_i _ rfl ?_
  refine lap_ok (lap:=1) (wd:=1) (F:=[g1.v]) (.inl ⟨rfl,rfl⟩) h75 (by (first | lia | omega)) (by rw [List.length_append]; (first | lia | omega)) (by rw [List.length_append]; (first | lia | omega)) (by decide:1≤1000) fun x6 x7 x8 x9 x10 x11 x12 x13 k2 g2 hk2 g2ok l2=>?_
  refine bK_i rfl ?_
  conv=>whnf
  refine oK_i _ (tup_fa (l:=[g1.v,g2.v]) (.inr ⟨_,rfl,at1⟩) (by decide:2≤1000)) ?_
  exact z k2 [g1,g2] (by (first | lia | omega)) ⟨g1ok,g2ok,trivial⟩ (by decide:2≤2) ⟨by show g1.ns.length + (g2.ns.length + 0)≤3; (first | lia | omega),fun e=>by show g1.ns.length + (g2.ns.length + 0)≤2; have:=w2 e; (first | lia | omega)⟩
noncomputable def DcT (T:TabK) (L:List V) (m:Int):Prop:=∀ (wide k:Nat) (σ:St) (kv:V) (l:List Nat) (K:V→St→Prop),wide = 1 ∨ wide = 3→FA (feedO L m k :: σ) kv (l.map V.str)→0 < l.length→l.length≤500→k≤8000 →
 (∀ k' gs,k'≤k + 20→Gg l gs→gs.length≤2→(cntG gs≤3∧(wide = 1→cntG gs≤2))→K (.tup [.tup (gs.map Gd.v),.loc (σ.length + 2)]) (gst L m σ k' (gs.map Gd.v) ((namG l gs).map V.str)))→T.call 77 [.loc 0,kv,.int wide] (feedO L m k :: σ) K
theorem gdecl_ok (hL:okL L) (hn:2≤n):DcT ⟨callK prog n⟩ L m:=fun wide k σ kv l K hw fa h0 hl hk z=>call_i (d:=f_law_decls) (up1 hn) rfl rfl (gdecl_x hw (dr_ok hL (dn1 hn)) fa h0 hl hk z)
end
end P3
end Mine.Internal
namespace Mine.Internal
open PySem
namespace P3
section
variable {L:List V} {m:Int} {k k' n:Nat} {σ:St} {v kv nd:V} {l h:List Nat} {K:V→St→Prop} {T:TabK}
theorem namG_len:∀ {gs:List Gd} {l:List Nat},(namG l gs).length = l.length + cntG gs
 | [],_=>rfl
 | g :: gs,l=>by
  show (namG (l++g.ns) gs).length = l.length + (g.ns.length + cntG gs)
  rw [namG_len,List.length_append,Nat.add_assoc]
theorem wd_i {v:Nat} (h:(v:Int) < 4) (σ:St):∃ w∈words,itemE σ (.tup [.str 1069911648856593924198,.str 232783984,.str 1005348044598612590694,.str 492581442027622]) (.int v) = some (.str w):=by
 rcases lt4 h with rfl | rfl | rfl | rfl
 ·exact ⟨_,by decide,rfl⟩
 ·exact ⟨_,by decide,rfl⟩
 ·exact ⟨_,by decide,rfl⟩
 ·exact ⟨_,by decide,rfl⟩
theorem wd5_i {v:Nat} (h:(v:Int) < 5) (σ:St):∃ w∈cAll :: words,itemE σ (.tup [.str 431008786677869,.str 1069911648856593924198,.str 232783984,.str 1005348044598612590694,.str 492581442027622]) (.int v) = some (.str w):=by
 rcases (by (first | lia | omega):v = 0 ∨ v = 1 ∨ v = 2 ∨ v = 3 ∨ v = 4) with rfl | rfl | rfl | rfl | rfl
 ·exact ⟨_,by decide,rfl⟩
 ·exact ⟨_,by decide,rfl⟩
 ·exact ⟨_,by decide,rfl⟩
 ·exact ⟨_,by decide,rfl⟩
 ·exact ⟨_,by decide,rfl⟩
theorem lf_b {deep:Int} {w:Nat} (hw:w < 3) (h75:DrT T L m) (h76:SmT T L m) (fa:FA (feedO L m k :: σ) kv (l.map V.str)) (h0:0 < l.length) (hl:l.length≤1000) (hk:k≤8900) (z:∀ nd k',k'≤k + 5→Ls l nd→K nd (feedO L m k' :: σ)) :
  kSs prog T (f_law_body.body.drop 1) [some (.loc 0),some kv,some (.int deep),some (.int w),none,none,none,none,none] (feedO L m k :: σ) (outK K):=by
 have two:∀ o,(o = cIn ∨ o = 62)→kE prog T (.tup [(.cst (.str 435406826897519)),(.cst (.int 0)),(.cst (.str o)),(.call 76 [(.var 0),(.var 1)]),(.call 76 [(.var 0),(.var 1)])]) [some (.loc 0),some kv,some (.int deep),some (.int w),none,none,none,none,none] (feedO L m k :: σ) K:=fun o ho=>by
  conv=>whnf
  refine h76 k σ kv l _ fa h0 hl (by (first | lia | omega)) fun a k1 hk1 ha=>?_
  conv=>whnf
  refine h76 k1 σ kv l _ (fa_feed fa) h0 hl (by (first | lia | omega)) fun b k2 hk2 hb=>?_
  exact z (binV o a b) k2 (by (first | lia | omega)) (.inl ⟨a,b,ha,hb,ho.imp (congrArg (fun o=>binV o a b)) (congrArg (fun o=>binV o a b))⟩)
 rcases (by (first | lia | omega):w = 0 ∨ w = 1 ∨ w = 2) with rfl | rfl | rfl
 ·exact two cIn (.inl rfl)
 ·exact two 62 (.inr rfl)
 ·conv=>whnf
  refine h75 _ _ _ _ (by (first | lia | omega)) (by decide) fun v hv=>?_
  obtain ⟨w,hw,e⟩:=wd_i hv (feedO L m (k + 1) :: σ)
  conv=>whnf
  refine oK_i _ e ?_
  conv=>whnf
  refine h76 (k + 1) σ kv l _ (fa_feed fa) h0 hl (by (first | lia | omega)) fun a k1 hk1 ha=>?_
  exact z _ k1 (by (first | lia | omega)) (.inr ⟨w,hw,a,ha,rfl⟩)
noncomputable def LfT (T:TabK) (L:List V) (m:Int):Prop:=∀ (k:Nat) (σ:St) (kv:V) (l:List Nat) (K:V→St→Prop),FA (feedO L m k :: σ) kv (l.map V.str)→0 < l.length→l.length≤1000→k≤8800→(∀ nd k',k'≤k + 6→Ls l nd→K nd (feedO L m k' :: σ))→T.call 78 [.loc 0,kv,.int 0] (feedO L m k :: σ) K
theorem lf_ok (hL:okL L) (hn:3≤n):LfT ⟨callK prog n⟩ L m:=fun k σ kv l K fa h0 hl hk z=>call_i (d:=f_law_body) (up1 hn) rfl rfl (by
 have h75:=dr_ok (m:=m) hL (up1 (dn1 hn))
 have h76:=some_ok (m:=m) hL (dn1 hn)
 generalize TabK.mk (callK prog (n - 1)) = T at h75 h76 ⊢
 conv=>whnf
 refine h75 _ _ _ _ (by (first | lia | omega)) (by decide) fun w hw=>?_
 exact lf_b (w:=w) (by (first | lia | omega)) h75 h76 (fa_feed fa) h0 hl (by (first | lia | omega)) fun nd k' hk' h=>z nd k' (by (first | lia | omega)) h)
theorem bod_x (h75:DrT T L m) (h76:SmT T L m) (h77:DcT T L m) (h78:LfT T L m) (fa:FA (feedO L m k :: σ) kv (l.map V.str)) (h0:0 < l.length) (hl:l.length≤500) (hk:k≤7000)
  (z:∀ nd k' τ,k'≤k + 40→Bs l nd→(τ = [] ∨ ∃ a b,τ = [a,b])→K nd (feedO L m k' :: (σ++τ))):kSs prog T f_law_body.body (enter f_law_body [.loc 0,kv,.int 1]) (feedO L m k :: σ) (outK K):=by
 have z0:∀ nd k',k'≤k + 40→Bs l nd→K nd (feedO L m k' :: σ):=fun nd k' hk' h=>(List.append_nil σ) ▸ z nd k' [] hk' h (.inl rfl)
 conv=>whnf
 refine h75 _ _ _ _ (by (first | lia | omega)) (by decide) fun w hw=>?_
 by_cases h3:w < 3
 ·exact lf_b (w:=w) h3 h75 h76 (fa_feed fa) h0 (by (first | lia | omega)) (by (first | lia | omega)) fun nd k' hk' h=>z0 nd k' (by (first | lia | omega)) (.inl h)
 rcases (by (first | lia | omega):w = 3 ∨ w = 4 ∨ w = 5) with rfl | rfl | rfl
 ·conv=>whnf
  refine h78 (k + 1) σ kv l _ (fa_feed fa) h0 (by (first | lia | omega)) (by (first | lia | omega)) fun a k1 hk1 ha=>?_
  exact z0 _ k1 (by (first | lia | omega)) (.inr (.inl ⟨a,ha,rfl⟩))
 ·conv=>whnf
  refine h75 _ _ _ _ (by (first | lia | omega)) (by decide) fun j hj=>?_
  conv=>whnf
  refine oK_i _ (sidx3 (j:=j) (by (first | lia | omega))) ?_
  conv=>whnf
  refine h76 (k + 1 + 1) σ kv l _ (fa_feed fa) h0 (by (first | lia | omega)) (by (first | lia | omega)) fun a k1 hk1 ha=>?_
  conv=>whnf
  refine oK_i _ (add_fa (k:=[.str (xyz.getD j 0)]) (fa_feed (k':=k1) fa) (by rw [List.length_append,List.length_map]; exact Nat.le_trans (Nat.add_le_add_right hl 1) (by decide))) ?_
  conv=>whnf
  refine h78 k1 σ _ (l++[xyz.getD j 0]) _ (.inl (by rw [List.map_append]; rfl)) (by rw [List.length_append]; (first | lia | omega)) (by rw [List.length_append]; exact Nat.le_trans (Nat.add_le_add_right hl 1) (by decide)) (by (first | lia | omega)) fun b k2 hk2 hb=>?_
  exact z0 _ k2 (by (first | lia | omega)) (.inr (.inr (.inl ⟨_,xyz3 (j:=j) (by (first | lia | omega)),a,b,ha,hb,rfl⟩)))
 ·conv=>whnf
  refine h75 _ _ _ _ (by (first | lia | omega)) (by decide) fun j hj=>?_
  obtain ⟨w,hw,e⟩:=wd5_i hj (feedO L m (k + 1 + 1) :: σ)
  conv=>whnf
  refine oK_i _ e ?_
  conv=>whnf
  refine h77 1 (k + 1 + 1) σ kv l _ (.inl rfl) (fa_feed fa) h0 hl (by (first | lia | omega)) fun k1 gs hk1 hg lg cg=>?_
  have c2:=cg.2 rfl
  conv=>whnf
  refine h78 k1 (σ++[.list (gs.map Gd.v),.list ((namG l gs).map V.str)]) _ (namG l gs) _ (.inr ⟨_,rfl,at2⟩) (by rw [namG_len]; (first | lia | omega)) (by rw [namG_len]; (first | lia | omega)) (by (first | lia | omega)) fun b k2 hk2 hb=>?_
  exact z _ k2 _ (by (first | lia | omega)) (.inr (.inr (.inr ⟨w,hw,gs,b,hg,lg,c2,hb,rfl⟩))) (.inr ⟨_,_,rfl⟩)
theorem bod_ok {deep:Nat} (hL:okL L) (hn:4≤n) (hd:deep = 0 ∨ deep = 1) (fa:FA (feedO L m k :: σ) kv (l.map V.str)) (h0:0 < l.length) (hl:l.length≤500) (hk:k≤7000)
  (z:∀ nd k' τ,k'≤k + 40→Bs l nd→(τ = [] ∨ ∃ a b,τ = [a,b])→K nd (feedO L m k' :: (σ++τ))):callK prog n 78 [.loc 0,kv,.int deep] (feedO L m k :: σ) K:=by
 rcases hd with rfl | rfl
 ·exact lf_ok hL (Nat.le_trans (by decide) hn) k σ kv l K fa h0 (by (first | lia | omega)) (by (first | lia | omega)) fun nd k' hk' h=>(List.append_nil σ) ▸ z nd k' [] (by (first | lia | omega)) (.inl h) (.inl rfl)
 ·exact call_i (d:=f_law_body) (up1 hn) rfl rfl (bod_x (dr_ok hL (Nat.le_trans (by decide) (dn1 hn))) (some_ok hL (Nat.le_trans (by decide) (dn1 hn))) (gdecl_ok hL (Nat.le_trans (by decide) (dn1 hn))) (lf_ok hL (dn1 hn)) fa h0 hl hk z)
end
end P3
end Mine.Internal
namespace Mine.Internal
open PySem
theorem sum_i:∀ (l:List Int) (a:Int),∃ s,sumL a (l.map V.int) = some (.int s)
 | [],a=>⟨a,rfl⟩
 | x :: l,a=>sum_i l (a + x)
namespace P3
noncomputable def lwD (i:Nat):List S:=f_law.body.drop i
noncomputable abbrev lw (s a1 a2 a3 a4 a5 a6 a7 a8 a9 a10 a11 a12 a13 a14 a15 a16:Option V):REnv:=[s,a1,a2,a3,a4,a5,a6,a7,a8,a9,a10,a11,a12,a13,a14,a15,a16,none,none,none,none,none,none,none]
section
variable {L:List V} {m:Int} {k k' n w:Nat} {σ π:St} {v kv nd told fm:V} {l h:List Nat} {K:V→St→Prop} {T:TabK} {kt:Out→Prop} {s a1 a2 a3 a4 a5 a6 a7 a8 a9 a10 a11 a12 a13 a14 a15 a16:Option V}
theorem cut40 {is:List Int} (h:is.length≤63):sliceE (.list (is.map V.int)) .none (.int 40) = some (.list ((is.take 40).map V.int)):=by
 show (if (is.map V.int).length≤capL then some (V.list (cut (is.map V.int) none (some 40))) else none) = _
 rw [List.length_map,if_pos (Nat.le_trans h (by decide))]
 show some (V.list (((is.map V.int).take (clip (is.map V.int).length 40)).drop 0)) = _
 rw [List.drop_zero,List.length_map]
 by_cases h40:40≤is.length
 ·rw [show clip is.length 40 = 40 from clip_nat h40,List.map_take]
 ·have h40:is.length≤40:=Nat.le_of_lt (Nat.not_le.mp h40)
  have e:clip is.length 40 = is.length:=by
   show (max 0 (min (if (40:Int) < 0 then (40:Int) + is.length else 40) is.length)).toNat = is.length
   rw [if_neg (by decide),Int.min_eq_right (show (is.length:Int)≤40 from Int.ofNat_le.mpr h40),Int.max_eq_right (Int.natCast_nonneg _)]; rfl
  rw [e,List.take_of_length_le (by rw [List.length_map]; exact Nat.le_refl _),List.take_of_length_le h40]
theorem law_1' {is:List Int} (hx:is.length≤63) (z:∀ L m s a1,okL L→kSs prog T (lwD 2) (lw s a1 (some (.loc 0)) none none none none none none none none none none none none none none) [feedO L m 0] kt) :
  kSs prog T f_law.body (enter f_law [.list (is.map V.int)]) [] kt:=by
 have e:f_law.body = .asg (.name 1) (.comp (.gen (.one 17) (.val (.sl (.var 0) (.cst .none) (.cst (.int 40)))) [] (.elt (.bi .int [(.var 17)])))) ::
  .asg (.name 2) (.mut (.dict [(.cst (.str 1934282252167833826015314036)),(.var 1),(.cst (.str 205521013)),(.cst (.int 0)),(.cst (.str 483785338519673)),(.bi .sum [(.comp (.gen (.one 18) (.val (.var 1)) [] (.elt (.bin .mod (.bi .abs [(.var 18)]) (.cst (.int 1009))))))])])) :: lwD 2:=rfl
 rw [e]
 have hL:okL ((is.take 40).map V.int):=⟨by rw [List.length_map]; exact Nat.le_trans (List.length_take_le _ _) (by decide),fun x q=>(List.mem_map.mp q).elim fun i q=>⟨i,q.2.symm⟩⟩
 have ec:=cut40 hx
 generalize is.take 40 = cs at hL ec
 have lc:cs.length≤48:=by have:=hL.1; rw [List.length_map] at this; exact this
 generalize lwD 2 = X at z ⊢
 conv=>whnf
 refine oK_i _ ec ?_
 conv=>whnf
 refine loopMapS (α:=Int) V.int V.int (Nat.le_trans lc (by decide)) rfl (fun i _=>⟨_,rfl,fun ds kk b zz=>?_⟩) ?_
 ·exact bK_i (le1 b) zz
 ·conv=>whnf
  refine loopMapS (α:=Int) V.int (fun i=>V.int ((if i < 0 then -i else i) % 1009)) (Nat.le_trans lc (by decide)) rfl (fun i _=>⟨_,rfl,fun ds kk b zz=>?_⟩) ?_
  ·exact bK_i (le1 b) zz
  ·obtain ⟨mx,em⟩:=sum_i (cs.map fun i=>(if i < 0 then -i else i) % 1009) 0
   rw [List.map_map] at em
   conv=>whnf
   refine oK_i (.int mx) em ?_
   exact z _ mx _ _ hL
theorem shp_of {τ:St} {a b c:SObj} (h:τ = [] ∨ ∃ a b,τ = [a,b]):Shp (a :: ([b,c]++τ)):=by
 rcases h with rfl | ⟨x,y,rfl⟩
 ·exact .inl ⟨_,_,_,rfl⟩
 ·exact .inr ⟨_,_,_,_,_,rfl⟩
theorem law_2 (h75:DrT T L m) (h77:DcT T L m) (h78:∀ (deep k:Nat) (σ:St) (kv:V) (l:List Nat) (K:V→St→Prop),deep = 0 ∨ deep = 1→FA (feedO L m k :: σ) kv (l.map V.str)→0 < l.length→l.length≤500→k≤7000→(∀ nd k' τ,k'≤k + 40→Bs l nd→(τ = [] ∨ ∃ a b,τ = [a,b])→K nd (feedO L m k' :: (σ++τ)))→T.call 78 [.loc 0,kv,.int deep] (feedO L m k :: σ) K)
  (z:∀ w∈cAll :: words,∀ (gs:List Gd) (nd:V) (k:Nat) (σ:St) (a5:Option V),Gg [123] gs→gs.length≤2→cntG gs≤3→Bs (namG [123] gs) nd→Shp (feedO L m k :: σ)→k≤100→kSs prog T (lwD 5) (lw s a1 (some (.loc 0)) (some (.str w)) (some (.tup (gs.map Gd.v))) a5 (some nd) none none none none none none none none none none) (feedO L m k :: σ) kt) :
  kSs prog T (lwD 2) (lw s a1 (some (.loc 0)) none none none none none none none none none none none none none none) [feedO L m 0] kt:=by
 have e:lwD 2 = .asg (.name 3) (.item (.tup [(.cst (.str 431008786677869)),(.cst (.str 1069911648856593924198)),(.cst (.str 232783984)),(.cst (.str 1005348044598612590694)),(.cst (.str 492581442027622))]) (.call 75 [(.var 2),(.cst (.int 5))])) ::
  .asgT [4,5] (.call 77 [(.var 2),(.list [(.cst (.str 123))]),(.cst (.int 3))]) ::
  .asg (.name 6) (.call 78 [(.var 2),(.var 5),(.ite (.cmp .lt (.bi .len [(.var 5)]) (.cst (.int 4))) (.cst (.int 1)) (.cst (.int 0)))]) :: lwD 5:=rfl
 rw [e]
 generalize lwD 5 = X at z ⊢
 conv=>whnf
 refine h75 0 5 [] _ (by decide) (by decide) fun v hv=>?_
 obtain ⟨w,hw,ew⟩:=wd5_i hv [feedO L m (0 + 1)]
 conv=>whnf
 refine oK_i _ ew ?_
 conv=>whnf
 refine h77 3 (0 + 1) [] _ [123] _ (.inr rfl) (.inl rfl) (by decide) (by decide) (by decide) fun k1 gs hk1 hg lg cg=>?_
 have fa:FA (gst L m [] k1 (gs.map Gd.v) ((namG [123] gs).map V.str)) (.loc ([]:St).length.succ.succ) ((namG [123] gs).map V.str):=.inr ⟨2,rfl,rfl⟩
 have ln:(namG [123] gs).length = 1 + cntG gs:=namG_len
 conv=>whnf
 refine oK_i _ (len_fa fa (by rw [List.length_map,ln]; (first | lia | omega))) ?_
 conv=>whnf
 have go:∀ deep:Nat,deep = 0 ∨ deep = 1→T.call 78 [.loc 0,.loc 2,.int deep] (gst L m [] k1 (gs.map Gd.v) ((namG [123] gs).map V.str)) (fun v σ=>kSs prog T X (lw s a1 (some (.loc 0)) (some (.str w)) (some (.tup (gs.map Gd.v))) (some (.loc 2)) (some v) none none none none none none none none none none) σ kt):=fun deep hd =>
  h78 deep k1 [.list (gs.map Gd.v),.list ((namG [123] gs).map V.str)] (.loc 2) (namG [123] gs) _ hd fa (by rw [ln]; (first | lia | omega)) (by rw [ln]; (first | lia | omega)) (by (first | lia | omega)) fun nd k2 τ hk2 hb ht=>z w hw gs nd k2 _ _ hg lg cg.1 hb (shp_of ht) (by (first | lia | omega))
 by_cases hlt:((((namG [123] gs).map V.str).length:Nat):Int) < 4
 ·refine iK_t (decide_eq_true hlt) ?_
  exact go 1 (.inr rfl)
 ·refine iK_f (decide_eq_false hlt) ?_
  exact go 0 (.inl rfl)
theorem law_3:∀ (X:List S) (T:TabK) (s a1 a2 a3 a4 a5 a6:Option V) (σ:St) (kt:Out→Prop),kSs prog T ((lwD 5).take 2++X) (lw s a1 a2 a3 a4 a5 a6 none none none none none none none none none none) σ kt = kSs prog T X (lw s a1 a2 a3 a4 a5 a6 (some own) (some (.list itemsV)) none none none none none none none none) σ kt:=fun X T s a1 a2 a3 a4 a5 a6 σ kt=>by kernel_rfl!
theorem law_4 {gs:List Gd} (hk:∀ (s a1 a2 a3 a4 a5 a6 a7:Option V) (r:REnv) (K:V→St→Prop),K (.loc (π.length + 8)) (stt π 0 0 0 0 [])→kE prog T newX (s :: a1 :: a2 :: a3 :: a4 :: a5 :: a6 :: a7 :: some (.list itemsV) :: r) π K)
  (h31:∀ K:V→St→Prop,(∀ (ct sp pk:Int) τ,K fm (stt π ct sp 0 pk τ))→T.call 31 [.loc (π.length + 8),.str w,.tup (gs.map Gd.v),nd,.dict [(.str 123,varV 123)]] (stt π 0 0 0 0 []) K)
  (z:∀ (ct sp pk:Int) τ a9,kSs prog T (lwD 9) (lw s a1 (some (.loc 0)) (some (.str w)) (some (.tup (gs.map Gd.v))) a5 (some nd) a7 (some (.list itemsV)) a9 (some fm) none none none none none none) (stt π ct sp 0 pk τ) kt) :
  kSs prog T (lwD 7) (lw s a1 (some (.loc 0)) (some (.str w)) (some (.tup (gs.map Gd.v))) a5 (some nd) a7 (some (.list itemsV)) none none none none none none none none) π kt:=by
 have e:lwD 7 = .asg (.name 9) newX :: .asg (.name 10) (.meth (.var 9) 89448743878319145170253840814305577080801377922401295138917 [(.var 3),(.var 4),(.var 6),(.dict [(.cst (.str 123)),(.tup [(.cst (.str 523367740342387)),(.cst (.str 123))])])]) :: lwD 9:=rfl
 rw [e]
 generalize lwD 9 = X at z ⊢
 generalize newX = N at hk ⊢
 refine hk s a1 (some (.loc 0)) (some (.str w)) (some (.tup (gs.map Gd.v))) a5 (some nd) a7 [none,none,none,none,none,none,none,none,none,none,none,none,none,none,none] _ ?_
 conv=>whnf
 refine oK_i _ (meth_i rfl rfl) ?_
 conv=>whnf
 exact h31 _ fun ct sp pk τ=>z ct sp pk τ _
end
end P3
end Mine.Internal
namespace Mine.Internal
open PySem
noncomputable def bitN (v:Nat) (a:Int):Nat:=(Int.fdiv v (2 ^ a.toNat)).toNat
theorem shr_i {v:Nat} {a:Int} {σ:St} (h:0≤a):binE σ .shr (.int v) (.int a) = some (.int (bitN v a:Nat)):=by
 show (if 0≤a then some (V.int (Int.fdiv v (2 ^ a.toNat))) else none) = _
 have e:0≤Int.fdiv (v:Int) (2 ^ a.toNat):=Int.fdiv_nonneg (Int.natCast_nonneg v) (Int.pow_nonneg (by decide))
 rw [if_pos h]
 delta bitN
 rw [Int.toNat_of_nonneg e]
theorem band_i {c:Nat} {σ:St}:binE σ .band (.int c) (.int 1) = some (.int ((c &&& 1:Nat):Int)):=by
 show (if (0:Int)≤c∧(0:Int)≤1 then some (V.int (((c:Int).toNat &&& (1:Int).toNat:Nat):Int)) else none) = _
 rw [if_pos ⟨Int.natCast_nonneg c,by decide⟩]; rfl
theorem bandf {v:Nat} {a:Int} {σ:St}:binE σ .band (.int (Int.fdiv v (2 ^ a.toNat))) (.int 1) = some (.int ((bitN v a &&& 1:Nat):Int)):=by
 have e:Int.fdiv (v:Int) (2 ^ a.toNat) = (bitN v a:Nat):=(Int.toNat_of_nonneg (Int.fdiv_nonneg (Int.natCast_nonneg v) (Int.pow_nonneg (by decide)))).symm
 rw [e]; exact band_i
noncomputable def bitB (v:Nat) (a:Int):Bool:=decide (((bitN v a &&& 1:Nat):Int) = 1)
theorem iK_c {b:Bool} {p q:Prop} (h1:b = true→p) (h2:b = false→q):iK b p q:=by
 cases b with
 | true=>exact h1 rfl
 | false=>exact h2 rfl
theorem set_last {σ:St} {d:Env} {k:Nat} {v:V} (hl:d.length≤capL):setObj (.loc σ.length) (.str k) v (σ++[.dict d]) = some (σ++[.dict (dset (.str k) v d)]):=by
 show setObjO (.str k) v σ.length (σ++[.dict d]) (σ++[SObj.dict d])[σ.length]? = _
 rw [at_last]
 show (if (keyOk (.str k) && decide (d.length≤capL)) = true then some ((σ++[SObj.dict d]).set σ.length (.dict (dset (.str k) v d))) else _) = _
 rw [decide_eq_true hl,List.set_append_right _ _ (Nat.le_refl _),Nat.sub_self]; rfl
namespace P3
section
variable {L:List V} {m:Int} {k k' n w lap:Nat} {σ π:St} {v kv nd told fm:V} {l h:List Nat} {K:V→St→Prop} {T:TabK} {kt:Out→Prop} {s a1 a2 a3 a4 a5 a6 a7 a8 a9 a10 a11 a12 a13 a14 a15 a16:Option V} {R:List S}
noncomputable def lA:S:=.asg (.name 12) (.list [(.call 75 [(.var 2),(.bin .sub (.cst (.int 8)) (.var 11))]),(.call 75 [(.var 2),(.cst (.int 8))]),(.call 75 [(.var 2),(.cst (.int 512))])])
noncomputable def lB:S:=.asg (.name 13) (.comp (.gen (.one 19) (.val (.tup [(.cst (.int 0)),(.cst (.int 1)),(.cst (.int 2))])) [(.cmp .eq (.bin .band (.bin .shr (.item (.var 12) (.cst (.int 0))) (.var 19)) (.cst (.int 1))) (.cst (.int 1)))] (.elt (.var 19))))
noncomputable def lC:S:=.asg (.name 14) (.mut (.dict [(.cst (.str 66)),(.var 13),(.cst (.str 67)),(.comp (.gen (.one 20) (.val (.var 13)) [(.cmp .eq (.bin .band (.bin .shr (.item (.var 12) (.cst (.int 1))) (.var 20)) (.cst (.int 1))) (.cst (.int 1)))] (.elt (.var 20))))]))
noncomputable def lF:S:=.asg (.item (.var 14) (.cst (.str 103))) (.comp (.gen (.one 21) (.range (.cst (.int 9))) [(.cmp .eq (.bin .band (.bin .shr (.item (.var 12) (.cst (.int 2))) (.var 21)) (.cst (.int 1))) (.cst (.int 1)))] (.elt (.tup [(.bin .div (.var 21) (.cst (.int 3))),(.bin .mod (.var 21) (.cst (.int 3)))]))))
noncomputable def lE:S:=.asg (.name 15) (.call 75 [(.var 2),(.cst (.int 3))])
noncomputable def lS:S:=.asg (.name 16) (.list [(.comp (.gen (.one 22) (.val (.item (.var 14) (.cst (.str 66)))) [] (.elt (.tup [(.var 22)])))),(.comp (.gen (.one 23) (.val (.item (.var 14) (.cst (.str 67)))) [] (.elt (.tup [(.var 23)])))),(.item (.var 14) (.cst (.str 103)))])
noncomputable def lG:S:=.ite (.cmp .ne (.call 85 [(.var 10),(.dict [(.cst (.str 123)),(.tup [(.var 15)])]),(.var 16)]) (.call 82 [(.var 3),(.var 4),(.var 6),(.dict [(.cst (.str 123)),(.list [(.var 15)])]),(.var 14)])) [.raise] []
noncomputable def lBody:List S:=[lA,lB,lC,lF,lE,lS,lG]
theorem l_a (h75:DrT T L m) (hk:k≤9000) (hl:lap = 0 ∨ lap = 1) (z:∀ v0 v1 v2:Nat,kSs prog T R (lw s a1 (some (.loc 0)) a3 a4 a5 a6 a7 a8 a9 a10 (some (.int lap)) (some (.list [.int v0,.int v1,.int v2])) a13 a14 a15 a16) (feedO L m (k + 1 + 1 + 1) :: σ) kt) :
  kSs prog T (lA :: R) (lw s a1 (some (.loc 0)) a3 a4 a5 a6 a7 a8 a9 a10 (some (.int lap)) a12 a13 a14 a15 a16) (feedO L m k :: σ) kt:=by
 conv=>whnf
 refine h75 _ _ _ _ (by (first | lia | omega)) (by (first | lia | omega)) fun v0 _=>?_
 conv=>whnf
 refine h75 _ _ _ _ (by (first | lia | omega)) (by decide) fun v1 _=>?_
 conv=>whnf
 refine h75 _ _ _ _ (by (first | lia | omega)) (by decide) fun v2 _=>?_
 exact z v0 v1 v2
theorem l_b {v0 v1 v2:Nat} (z:kSs prog T R (lw s a1 a2 a3 a4 a5 a6 a7 a8 a9 a10 a11 (some (.list [.int v0,.int v1,.int v2])) (some (.list ((([0,1,2]:List Int).filter (bitB v0)).map V.int))) a14 a15 a16) σ kt) :
  kSs prog T (lB :: R) (lw s a1 a2 a3 a4 a5 a6 a7 a8 a9 a10 a11 (some (.list [.int v0,.int v1,.int v2])) a13 a14 a15 a16) σ kt:=by
 conv=>whnf
 refine loopSelS (α:=Int) (l:=[0,1,2]) V.int V.int (bitB v0) (by decide) rfl (fun i hi=>⟨_,rfl,fun ds kk b zz=>?_⟩) ?_
 ·have h0:0≤i:=by simp only [List.mem_cons,List.not_mem_nil,or_false] at hi; (first | lia | omega)
  conv=>whnf
  refine oK_i _ (shr_i h0) ?_
  conv=>whnf
  exact cond_i b zz
 ·exact z
theorem l_c {A:List Int} {v0 v1 v2:Nat} (hA:At1 A) (z:kSs prog T R (lw s a1 a2 a3 a4 a5 a6 a7 a8 a9 a10 a11 (some (.list [.int v0,.int v1,.int v2])) (some (.list (A.map V.int))) (some (.loc σ.length)) a15 a16) (σ++[.dict [(.str 66,.list (A.map V.int)),(.str 67,.list ((A.filter (bitB v1)).map V.int))]]) kt) :
  kSs prog T (lC :: R) (lw s a1 a2 a3 a4 a5 a6 a7 a8 a9 a10 a11 (some (.list [.int v0,.int v1,.int v2])) (some (.list (A.map V.int))) a14 a15 a16) σ kt:=by
 conv=>whnf
 refine loopSelS (α:=Int) V.int V.int (bitB v1) (cap3 hA.len) rfl (fun i hi=>⟨_,rfl,fun ds kk b zz=>?_⟩) ?_
 ·have h0:0≤i:=by have hi:=hA.mem hi; simp only [List.mem_cons,List.not_mem_nil,or_false] at hi; (first | lia | omega)
  conv=>whnf
  refine oK_i _ (shr_i h0) ?_
  conv=>whnf
  exact cond_i b zz
 ·exact z
noncomputable def fldF (v:Nat):List (Int × Int):=((List.range 9).filter fun (k:Nat)=>bitB v (k:Int)).map fun (k:Nat)=>((k:Int) / 3,(k:Int) % 3)
theorem fld_eq {v:Nat}:((List.range 9).filter fun (k:Nat)=>bitB v (k:Int)).map (fun (k:Nat)=>row2 ((k:Int) / 3,(k:Int) % 3)) = rows2 (fldF v):=by
 delta fldF rows2; rw [List.map_map]; rfl
theorem l_f {A B:V} {v0 v1 v2:Nat} (z:kSs prog T R (lw s a1 a2 a3 a4 a5 a6 a7 a8 a9 a10 a11 (some (.list [.int v0,.int v1,.int v2])) a13 (some (.loc σ.length)) a15 a16) (σ++[.dict [(.str 66,A),(.str 67,B),(.str 103,.list (rows2 (fldF v2)))]]) kt) :
  kSs prog T (lF :: R) (lw s a1 a2 a3 a4 a5 a6 a7 a8 a9 a10 a11 (some (.list [.int v0,.int v1,.int v2])) a13 (some (.loc σ.length)) a15 a16) (σ++[.dict [(.str 66,A),(.str 67,B)]]) kt:=by
 conv=>whnf
 refine loopSelS (α:=Nat) (l:=List.range 9) (fun k=>V.int k) (fun (k:Nat)=>row2 ((k:Int) / 3,(k:Int) % 3)) (fun (k:Nat)=>bitB v2 (k:Int)) (by decide) rfl (fun i hi=>⟨_,rfl,fun ds kk b zz=>?_⟩) ?_
 ·have h9:i < 9:=List.mem_range.mp hi
  conv=>whnf
  refine oK_i _ bandf ?_
  conv=>whnf
  refine iK_c (b:=bitB v2 (i:Int)) (fun e=>?_) fun e=>?_
  ·rw [e] at zz
   conv=>whnf
   refine oK_i _ (div_i _ ⟨by decide,by (first | lia | omega),by decide⟩) ?_
   exact bK_i (le1 b) zz
  ·rw [e] at zz
   exact ap0 (p:=fun l=>kk l _) zz
 ·rw [fld_eq]
  conv=>whnf
  refine oK_i _ (set_last (by decide:2≤capL)) ?_
  exact z
end
end P3
end Mine.Internal
namespace Mine.Internal
open PySem
namespace P3
noncomputable def mkW (v0 v1 v2:Nat):Wl:=⟨([0,1,2]:List Int).filter (bitB v0),(([0,1,2]:List Int).filter (bitB v0)).filter (bitB v1),fldF v2,List.filter_sublist,At1.flt List.filter_sublist,fun p m=>by
  obtain ⟨k,_,rfl⟩:=List.mem_map.mp m
  simp only [List.mem_cons,List.not_mem_nil,or_false]
  (first | lia | omega),by delta fldF; rw [List.length_map]; exact Nat.le_trans (List.length_filter_le ..) (by decide)⟩
section
variable {L:List V} {m:Int} {k k' n w lap:Nat} {σ π:St} {v kv nd told fm:V} {l h:List Nat} {K:V→St→Prop} {T:TabK} {kt:Out→Prop} {s a1 a2 a3 a4 a5 a6 a7 a8 a9 a10 a11 a12 a13 a14 a15 a16:Option V} {R:List S} {W:Wl} {wi:Nat} {v0 v1 v2:Nat}
theorem w_at:WAt (mkW v0 v1 v2) (σ++[.dict [(.str 66,.list ((([0,1,2]:List Int).filter (bitB v0)).map V.int)),(.str 67,.list (((([0,1,2]:List Int).filter (bitB v0)).filter (bitB v1)).map V.int)),(.str 103,.list (rows2 (fldF v2)))]]) σ.length :=
 ⟨_,at_last,List.forall_mem_cons.mpr ⟨rfl,List.forall_mem_cons.mpr ⟨rfl,List.forall_mem_nil _⟩⟩,rfl⟩
theorem l_e (h75:DrT T L m) (hk:k≤9000) (z:∀ a:Int,a∈atoms→kSs prog T R (lw s a1 (some (.loc 0)) a3 a4 a5 a6 a7 a8 a9 a10 a11 a12 a13 a14 (some (.int a)) a16) (feedO L m (k + 1) :: σ) kt) :
  kSs prog T (lE :: R) (lw s a1 (some (.loc 0)) a3 a4 a5 a6 a7 a8 a9 a10 a11 a12 a13 a14 a15 a16) (feedO L m k :: σ) kt:=by
 conv=>whnf
 refine h75 _ _ _ _ (by (first | lia | omega)) (by decide) fun v hv=>?_
 exact z v (by simp only [List.mem_cons,List.not_mem_nil,or_false]; (first | lia | omega))
theorem l_s (wa:WAt W σ wi) (z:kSs prog T R (lw s a1 a2 a3 a4 a5 a6 a7 a8 a9 a10 a11 a12 a13 (some (.loc wi)) a15 (some (setsV W))) σ kt) :
  kSs prog T (lS :: R) (lw s a1 a2 a3 a4 a5 a6 a7 a8 a9 a10 a11 a12 a13 (some (.loc wi)) a15 a16) σ kt:=by
 conv=>whnf
 refine oK_i _ (wa.sg (s:=66) (by decide)) ?_
 conv=>whnf
 refine loopMapS (α:=Int) V.int row1 (cap3 (W.os 66).len) rfl (fun i hi=>⟨_,rfl,fun ds kk b zz=>?_⟩) ?_
 ·exact bK_i (le1 b) zz
 ·conv=>whnf
  refine oK_i _ (wa.sg (s:=67) (by decide)) ?_
  conv=>whnf
  refine loopMapS (α:=Int) V.int row1 (cap3 (W.os 67).len) rfl (fun i hi=>⟨_,rfl,fun ds kk b zz=>?_⟩) ?_
  ·exact bK_i (le1 b) zz
  ·conv=>whnf
   refine oK_i _ wa.fl ?_
   exact z
theorem l_g {a:Int} {b:Bool} (h85:HoT T W fm [(.str 123,row1 a)] b) (h82:QnT T W wi w told nd [(.str 123,.list [.int a])] b) (wa:WAt W σ wi) (z:∀ σ',σ <+: σ'→kt (.next (lw s a1 a2 (some (.str w)) (some told) a5 (some nd) a7 a8 a9 (some fm) a11 a12 a13 (some (.loc wi)) (some (.int a)) (some (setsV W))) σ')) :
  kSs prog T [lG] (lw s a1 a2 (some (.str w)) (some told) a5 (some nd) a7 a8 a9 (some fm) a11 a12 a13 (some (.loc wi)) (some (.int a)) (some (setsV W))) σ kt:=by
 conv=>whnf
 refine h85 σ _ fun σ1 p1=>?_
 conv=>whnf
 refine h82 σ1 _ (wa.pre p1) fun σ2 p2=>?_
 have z:=z σ2 (p1.trans p2)
 cases b <;> exact z
theorem l_ok (h75:DrT T L m) (hk:k≤8000) (hl:lap = 0 ∨ lap = 1) (H:∀ (W:Wl) (a:Int),a∈atoms→∃ b,HoT T W fm [(.str 123,row1 a)] b∧∀ wi,QnT T W wi w told nd [(.str 123,.list [.int a])] b)
  (z:∀ a12 a13 a14 a15 a16 k' σ',k'≤k + 4→kt (.next (lw s a1 (some (.loc 0)) (some (.str w)) (some told) a5 (some nd) a7 a8 a9 (some fm) (some (.int lap)) a12 a13 a14 a15 a16) (feedO L m k' :: σ'))) :
  kSs prog T lBody (lw s a1 (some (.loc 0)) (some (.str w)) (some told) a5 (some nd) a7 a8 a9 (some fm) (some (.int lap)) a12 a13 a14 a15 a16) (feedO L m k :: σ) kt:=by
 refine l_a (R:=[lB,lC,lF,lE,lS,lG]) h75 (by (first | lia | omega)) hl fun v0 v1 v2=>?_
 refine l_b (R:=[lC,lF,lE,lS,lG]) ?_
 refine l_c (R:=[lF,lE,lS,lG]) List.filter_sublist ?_
 refine l_f (R:=[lE,lS,lG]) ?_
 have wa:=w_at (σ:=feedO L m (k + 1 + 1 + 1) :: σ) (v0:=v0) (v1:=v1) (v2:=v2)
 refine l_e (R:=[lS,lG]) h75 (by (first | lia | omega)) fun a ha=>?_
 have wa:WAt (mkW v0 v1 v2) (feedO L m (k + 1 + 1 + 1 + 1) :: (σ++[.dict [(.str 66,.list ((([0,1,2]:List Int).filter (bitB v0)).map V.int)),(.str 67,.list (((([0,1,2]:List Int).filter (bitB v0)).filter (bitB v1)).map V.int)),(.str 103,.list (rows2 (fldF v2)))]])) (σ.length + 1):=wa
 refine l_s (R:=[lG]) wa ?_
 obtain ⟨b,h1,h2⟩:=H (mkW v0 v1 v2) a ha
 refine l_g h1 (h2 _) wa fun σ' p=>?_
 obtain ⟨t,rfl⟩:=p
 exact z _ _ _ _ _ (k + 1 + 1 + 1 + 1) _ (by (first | lia | omega))
theorem c_for {i:Int} {l:List V} {ρ:REnv} {st:St} (e2:rangeE (.int i) = some l) (z:kLoopS (stillB none l) (fun v ρ=>bindTg ρ (.one 11) v) (fun ρ σ k=>kSs prog T lBody ρ σ k) l ρ st kt):kS prog T (.for_ (.one 11) (.range (.cst (.int i))) lBody) ρ st kt:=by
 show oK (rangeE (.int i)) (fun l=>kLoopS (stillB none l) (fun v ρ=>bindTg ρ (.one 11) v) (fun ρ σ k=>kSs prog T lBody ρ σ k) l ρ st kt)
 exact oK_i l e2 z
theorem law_5 (h75:DrT T L m) (hk:k≤1000) (H:∀ (W:Wl) (a:Int),a∈atoms→∃ b,HoT T W fm [(.str 123,row1 a)] b∧∀ wi,QnT T W wi w told nd [(.str 123,.list [.int a])] b) (z:∀ σ,K (.bool true) σ) :
  kSs prog T (lwD 9) (lw s a1 (some (.loc 0)) (some (.str w)) (some told) a5 (some nd) a7 a8 a9 (some fm) a11 a12 a13 a14 a15 a16) (feedO L m k :: σ) (outK K):=by
 show kS prog T (.for_ (.one 11) (.range (.cst (.int 2))) lBody) _ _ _
 refine c_for (l:=(List.range 2).map fun (k:Nat)=>V.int k) (range_i (c:=2) rfl (by decide)) ?_
 refine bK_i rfl ?_
 refine oK_i _ rfl ?_
 refine l_ok (lap:=0) h75 (by (first | lia | omega)) (.inl rfl) H fun b12 b13 b14 b15 b16 k1 σ1 hk1=>?_
 refine bK_i rfl ?_
 refine oK_i _ rfl ?_
 refine l_ok (lap:=1) h75 (by (first | lia | omega)) (.inr rfl) H fun b12 b13 b14 b15 b16 k2 σ2 hk2=>?_
 exact bK_i rfl (z _)
noncomputable def S0:Sc:=⟨1,fun k=>if k = 123 then some 123 else none,[123],[]⟩
noncomputable def D0:Env:=[(.str 123,varV 123)]
theorem s0_g {k lb:Nat} (e:S0.Γ k = some lb):k = 123∧lb = 123:=by
 have e:(if k = 123 then some 123 else none) = some lb:=e
 by_cases h:k = 123
 ·rw [if_pos h] at e; exact ⟨h,(Option.some.inj e).symm⟩
 ·rw [if_neg h] at e; cases e
theorem s0_sk:Sk S0 0 [123]:=⟨fun k m=>⟨123,by rw [List.mem_singleton.mp m]; rfl⟩,fun k lb e=>by rw [(s0_g e).2]; exact List.mem_singleton.mpr rfl,fun u m=>.inl (by rw [List.mem_singleton.mp m]; decide)⟩
theorem s0_eo:Eo S0.Γ D0:=⟨fun k l e=>by obtain ⟨rfl,rfl⟩:=s0_g e; rfl,List.forall_mem_cons.mpr ⟨rfl,List.forall_mem_cons.mpr ⟨rfl,List.forall_mem_cons.mpr ⟨rfl,List.forall_mem_nil _⟩⟩⟩,rfl,fun l e=>absurd (s0_g e).1 (by decide)⟩
theorem s0_iv {a:Int} (h:a∈atoms):S0.iv ⟨[],[(.str 123,row1 a)],[(.str 123,.list [.int a])],true⟩ :=
 have d:∀ v:V,Dk [(.str 123,v)]:=fun v=>⟨fun p m=>⟨123,by rw [List.mem_singleton.mp m]⟩,List.nodup_cons.mpr ⟨List.not_mem_nil,List.nodup_nil⟩⟩
 ⟨⟨d _,d _,Nat.le_refl 1,Nat.le_refl 1,fun k l e=>by obtain ⟨rfl,rfl⟩:=s0_g e; exact ⟨a,h,rfl,rfl⟩,List.forall_mem_cons.mpr ⟨rfl,List.forall_mem_cons.mpr ⟨rfl,List.forall_mem_cons.mpr ⟨rfl,List.forall_mem_nil _⟩⟩⟩⟩,Nat.zero_le _,fun k l e=>by rw [(s0_g e).2]; exact List.mem_singleton.mpr rfl,fun p m=>(nomatch m),rfl⟩
theorem law_ok {is:List Int} (hn:70≤n) (hx:is.length≤63) (hK:∀ σ,K (.bool true) σ):callK prog n 86 [.list (is.map V.int)] [] K:=by
 have p:=dn1 hn
 refine call_i (d:=f_law) (up1 hn) rfl rfl (law_1' hx fun L m s a1 hL=>?_)
 have h75:=dr_ok (n:=n - 1) (m:=m) hL (up1 p)
 refine law_2 h75 (gdecl_ok hL (Nat.le_trans (by decide) p)) (fun deep k σ kv l K hd fa h0 hl hk z=>bod_ok hL (Nat.le_trans (by decide) p) hd fa h0 hl hk z) fun w hw gs nd k σ a5 hg lg cg hb sh hk=>?_
 rw [show lwD 5 = (lwD 5).take 2++lwD 7 from rfl,law_3]
 obtain ⟨b1,b2,b3,b4,b5,b6,b7⟩:=mk_ok hg s0_sk (by (first | lia | omega))
 generalize mkCs gs S0 0 = cs at b1 b2 b3 b4 b5 b6 b7
 have sn:S0.n = 1:=rfl
 obtain ⟨f,c2,hf,tr⟩:=bs_ok sh b5 (by (first | lia | omega)) (by (first | lia | omega)) hb
 have la:=aps_len b1
 have v:S0.aps.length = 0:=rfl
 have H:∀ (W:Wl) (a:Int),a∈atoms→∃ b,HoT ⟨callK prog (n - 1)⟩ W (fq w (toldFc cs) (runC cs S0).aps f) [(.str 123,row1 a)] b∧∀ wi,QnT ⟨callK prog (n - 1)⟩ W wi w (.tup (gs.map Gd.v)) nd [(.str 123,.list [.int a])] b:=fun W a ha=>by
  obtain ⟨b,h1,h2⟩:=tr_qn (S:=S0) (d0:=6) hw (tr_up tr (by decide) (by decide)) b1 (by (first | lia | omega)) (by (first | lia | omega)) (show (runC cs S0).aps.length≤1000 by (first | lia | omega)) W _ (s0_iv ha)
  refine ⟨b,h1 _ (Nat.le_trans (by decide) p),fun wi=>?_⟩
  have h2:=h2 _ (Nat.le_trans (by decide) p) wi
  rw [show toldNc cs = V.tup (gs.map Gd.v) from congrArg V.tup b3] at h2
  exact h2
 refine law_4 (fm:=fq w (toldFc cs) (runC cs S0).aps f) (fun s a1 a2 a3 a4 a5 a6 a7 r K hK=>?_) (fun K hK=>?_) fun ct sp pk τ a9=>?_
 ·obtain ⟨m,e⟩:∃ m,n - 1 = m + 8:=⟨n - 1 - 8,(Nat.sub_add_cancel (Nat.le_trans (by decide) p)).symm⟩
  rw [e,init_eq sh]
  exact hK
 ·have q:=qf_ok (n:=n - 1) (S0:=S0) (D0:=D0) (cs:=cs) (bD:=10) (m:=17) (c0:=0) (c2:=c2) (d:=8) (zb:=40) (sp:=0) (ht:=0) (pk:=0) (τ:=[]) (ev:=.dict D0) (nd:=nd) (f:=f) (K:=K) sh (by decide) (Nat.le_trans (by decide) p) hw (fun τ' _=>(if_pos (by decide:1≤capL):(if D0.length≤capL then some (V.dict D0) else none) = some (V.dict D0))) s0_eo rfl b1 b2 (by (first | lia | omega)) (by (first | lia | omega)) (by decide) (by decide) (by decide) (by decide) (by (first | lia | omega)) (by decide) (by decide)
   (fun τ' D' g l=>by rw [b4]; exact hf τ' D' g (Nat.le_trans l (by decide))) (fun sp' pk' τ' _ _=>hK _ _ _ _)
  rw [show cs.map Dc.v = gs.map Gd.v from b3] at q
  exact q
 ·exact law_5 h75 (by (first | lia | omega)) H hK
theorem hC (script:List Int) (h:script.length≤63):∃ N,N≤90∧∀ K:V→St→Prop,(∀ σ,K (.bool true) σ)→callK P3.prog N 86 [.list (script.map V.int)] [] K :=
 ⟨70,by decide,fun K hK=>law_ok (by decide) h hK⟩
end
end P3
end Mine.Internal
namespace Mine.Internal
open PySem PySem.W PyProof.Rows
namespace P3
noncomputable def gt:Gt:={ fns:=fnN,clss:=clsN,consts:=conN,flds:=flds,mths:=mths }
noncomputable abbrev K (H:Params→Frag) (p:Params) (ob:Obj):Frag:=(builtinsNs,ob) :: H p
theorem methB:(mthL.all fun q=>decide (q.1 < 3) && q.2.all fun r=>r.1 != 0 || (q.1 == 1 && r.2 == 3)) = true:=by decide +kernel
theorem biNe:(biNames.all fun q=>!(q.1 == ("__name__":Str))) = true:=by decide +kernel
theorem boot:(biNames.all fun q=>bootBuiltins q.1 == some q.2) = true:=by kernel_rfl!
theorem file0:((PySem.Challenge.rw_nz0397_03.row.prog.main.file:Str) == "/claim/cut.py") = true:=by decide +kernel
theorem top0:(PySem.Challenge.rw_nz0397_03.row.prog.main.scope.names.lookup ("super":Str)).isSome = false:=by decide +kernel
noncomputable def signs:List (Str × Tok × PV):=[("+",368,.str "union" 369),("&",370,.str "meet" 371),("-",372,.str "minus" 373),(".",374,.str "join" 375),("++",376,.str "override" 377),("<:",378,.str "ahead" 379),(":>",380,.str "behind" 381)]
noncomputable def signV:List (Nat × V):=signs.map fun t=>(encS t.1,match t.2.2 with | .str x _=>.str (encS x) | _=>.none)
theorem co7d:prog.glob 7 = some (.dict (signV.map fun q=>(.str q.1,q.2))):=by kernel_rfl!
theorem co7x:(conN.all fun q=>q.2 != 7 || q.1 == ("SET_SIGNS":Str)) = true:=by decide +kernel
structure Top (H:Params→Frag):Prop where
 chk:∀ (p:Params) (ob:Obj),(fnL.all fun q=>q.1 == 15 || chkAt prog gt (K H p ob) (nms q.1) (fa q.1) q.2) = true
 fact:∀ (p:Params) (ob:Obj),factB (K H p ob) prog gt fa ca 3 (fnL.map (·.1)) = true
 sup:∀ (p:Params) (ob:Obj),supB (K H p ob) prog gt fa ca 15 3 1 f_Opener___init (nms 15) [.var 1,.var 2,.var 3,.var 4] f_Opener___init.body.tail "/claim/cut.py" = true
 noGlob:∀ (p:Params) (ob:Obj),(biNames.all fun q=>nsIn (K H p ob) mainGlobals q.1 == some none) = true
 co:∀ (p:Params) (ob:Obj),(conN.all fun q=>match prog.glob q.2 with
 | none=>true
 | some d=>q.2 == 7 || oB (nsIn (K H p ob) mainGlobals q.1) fun v=>oB v fun v=>rvB (K H p ob) d v) = true
 co7:∀ (p:Params) (ob:Obj),(K H p ob).lookup 108 = some ⟨.type "dict",none,.dict (mkEs p signs).toArray 7,#[]⟩
 co7n:∀ (p:Params) (ob:Obj),nsIn (K H p ob) mainGlobals "SET_SIGNS" = some (some (.ref 108))
 co7r:∀ (p:Params) (ob:Obj),rvdB (K H p ob) signV signs = true
 fn:∀ (p:Params) (ob:Obj),((K H p ob).lookup 470).isSome = true
 law:∀ (p:Params) (ob:Obj),nsIn (K H p ob) mainGlobals "law" = some (some (.ref 711))
theorem Facts {H:Params→Frag} (tp:Top H) {B:Bd} {ob:Obj} (hP:B.P = prog) (hK:B.D.K = K H B.D.w.params ob) (hfa:B.D.fa = fa) (hca:B.D.ca = ca) (hnc:B.D.nc = 3) (X:B.D.K.In B.D.base) (lim:B.D.base.NoLimit):Mine.Internal.Facts B gt:=by
 obtain ⟨D,P,T,n⟩:=B
 cases (hP:P = prog)
 refine facts_of (live:=fnL.map (·.1)) X lim (fun i h=>?_) (fun i k f h=>?_) (by rw [hK,hfa,hca,hnc]; exact tp.fact _ ob) fun x k h d hd=>?_
 ·obtain ⟨d,e⟩:=Option.isSome_iff_exists.mp h
  exact List.mem_map.mpr ⟨_,mem_of_lookup (l:=fnL) e,rfl⟩
 ·obtain ⟨l,e,_⟩:=Option.bind_eq_some_iff.mp (show (mthL.lookup i).bind _ = some f from h)
  rw [hnc]; exact of_decide_eq_true (and_l (List.all_eq_true.mp methB _ (mem_of_lookup e)))
 ·have w:=List.all_eq_true.mp (tp.co D.w.params ob) _ (mem_of_lookup (l:=conN) h)
  have hd:prog.glob k = some d:=hd
  simp only [hd] at w
  rcases Bool.or_eq_true_iff.mp w with e | e
  ·have e:k = 7:=eq_of e
   subst e
   have hx:x = "SET_SIGNS":=(Bool.or_eq_true_iff.mp (List.all_eq_true.mp co7x _ (mem_of_lookup (l:=conN) h))).elim (fun n=>absurd rfl (bne_iff_ne.mp n)) eq_of
   cases co7d.symm.trans hd
   rw [hx,hK]
   exact ⟨_,tp.co7n _ ob,fun N m=>rv_dict X m (by rw [hK]; exact tp.co7 _ ob) (by decide) (by decide +kernel) (by rw [hK]; exact tp.co7r _ ob)⟩
  ·rw [← hK] at e
   cases hv:nsIn D.K mainGlobals x with
   | none=>rw [hv] at e; cases e
   | some v=>cases v with
    | none=>rw [hv] at e; cases e
    | some v=>rw [hv] at e; exact ⟨v,rfl,fun N m=>rvB_of X m d v e⟩
theorem go {H:Params→Frag} (tp:Top H) {B:Bd} {ob:Obj} (hP:B.P = prog) (hK:B.D.K = K H B.D.w.params ob) (hfa:B.D.fa = fa) (hca:B.D.ca = ca) (hpr:B.D.prog = PySem.Challenge.rw_nz0397_03.row.prog) (hbt:nsIn B.D.K builtinsNs "super" = some (some (.type "super"))) (h:Hs B 40 gt) (f:Nat) (d:FDef) (hd:B.P.fn f = some d):FnGo B f d:=by
 rw [hP] at hd
 have hd:fnL.lookup f = some d:=hd
 cases e:f == 15 with
 | true =>
  have e:f = 15:=eq_of e
  subst e
  have hd:some f_Opener___init = some d:=hd
  cases hd
  refine sup_go (f2:=3) (c1:=1) (xs:=[.var 1,.var 2,.var 3,.var 4]) (ss:=f_Opener___init.body.tail) (names:=nms 15) (file:="/claim/cut.py") h rfl (fun i f' hm=>?_) hbt (by rw [hpr]; exact file0) (by rw [hpr]; exact top0) (by rw [hP,hK,hfa,hca]; exact tp.sup _ ob)
  rw [hP] at hm
  obtain ⟨l,e1,e2⟩:=Option.bind_eq_some_iff.mp (show (mthL.lookup i).bind (fun l=>l.lookup 0) = some f' from hm)
  rcases Bool.or_eq_true_iff.mp (List.all_eq_true.mp (and_r (List.all_eq_true.mp methB _ (mem_of_lookup e1))) _ (mem_of_lookup e2)) with n | n
  ·exact absurd rfl (bne_iff_ne.mp n)
  ·exact ⟨eq_of (and_l n),eq_of (and_r n)⟩
 | false =>
  refine fn_at h (by decide) (names:=nms f) ?_
  rcases Bool.or_eq_true_iff.mp (List.all_eq_true.mp (tp.chk B.D.w.params ob) _ (mem_of_lookup hd)) with n | n
  ·rw [show (f == 15) = true from n] at e; cases e
  ·rw [hP,hK,hfa]; exact n
end P3
end Mine.Internal
set_option tactic.hygienic true
set_option hygiene true
namespace Mine.Internal.law3
theorem tw10021534764992274354:True:=⟨⟩
theorem tw10032966239038991367:True:=⟨⟩
theorem tw10036438640361368051:True:=⟨⟩
theorem tw10054132698440828590:True:=⟨⟩
theorem tw10058914401781292217:True:=⟨⟩
theorem tw10082045496699219532:True:=⟨⟩
theorem tw10119419826486067254:True:=⟨⟩
theorem tw10136966277909960603:True:=⟨⟩
theorem tw10174338553323074568:True:=⟨⟩
theorem tw10205456624672281251:True:=⟨⟩
theorem tw10212953542447616113:True:=⟨⟩
theorem tw10220984129109770608:True:=⟨⟩
theorem tw10232509534408026172:True:=⟨⟩
theorem tw10249846560068483165:True:=⟨⟩
theorem tw10261880007987465065:True:=⟨⟩
theorem tw10304307203659887522:True:=⟨⟩
theorem tw10339744379157840419:True:=⟨⟩
theorem tw10357314482478405092:True:=⟨⟩
theorem tw10360013430679702015:True:=⟨⟩
theorem tw10362006049147870926:True:=⟨⟩
theorem tw10398318911674767311:True:=⟨⟩
theorem tw10398690932170022350:True:=⟨⟩
theorem tw10403997699266886219:True:=⟨⟩
theorem tw1040673588523500222:True:=⟨⟩
theorem tw10434670167251612668:True:=⟨⟩
theorem tw10440152171162755274:True:=⟨⟩
theorem tw1045351408338512545:True:=⟨⟩
theorem tw10461282206379049938:True:=⟨⟩
theorem tw10464631599789788428:True:=⟨⟩
theorem tw1048414733455223265:True:=⟨⟩
theorem tw10491307578964640038:True:=⟨⟩
theorem tw10495553579844312587:True:=⟨⟩
theorem tw10523663723152854475:True:=⟨⟩
theorem tw10564647698557578235:True:=⟨⟩
theorem tw10617294790281009219:True:=⟨⟩
theorem tw10635025333018423995:True:=⟨⟩
theorem tw10660766517047579243:True:=⟨⟩
theorem tw10683915163831502814:True:=⟨⟩
theorem tw10708907738464741931:True:=⟨⟩
theorem tw10747797565318073740:True:=⟨⟩
theorem tw10747943504068576915:True:=⟨⟩
theorem tw10756434091531629628:True:=⟨⟩
theorem tw1076427575807265259:True:=⟨⟩
theorem tw10778311125531096970:True:=⟨⟩
theorem tw10787101140742710874:True:=⟨⟩
theorem tw1080459839544860464:True:=⟨⟩
theorem tw10845232348208625014:True:=⟨⟩
theorem tw10848275049165930713:True:=⟨⟩
theorem tw10853134270030077198:True:=⟨⟩
theorem tw10863202866507613350:True:=⟨⟩
theorem tw10867990280839273193:True:=⟨⟩
theorem tw1086830857035247207:True:=⟨⟩
theorem tw10868570895470112831:True:=⟨⟩
theorem tw10872537819401742885:True:=⟨⟩
theorem tw10913439193440171203:True:=⟨⟩
theorem tw10914239127991801218:True:=⟨⟩
theorem tw10924523546351157335:True:=⟨⟩
theorem tw10971096892212941087:True:=⟨⟩
theorem tw1099074612295405938:True:=⟨⟩
theorem tw1105697485311411135:True:=⟨⟩
theorem tw11062618830520090658:True:=⟨⟩
theorem tw11074683581308953241:True:=⟨⟩
theorem tw11076654183509120295:True:=⟨⟩
theorem tw11132401100991030128:True:=⟨⟩
theorem tw11155239575475248885:True:=⟨⟩
theorem tw11166885387447795372:True:=⟨⟩
theorem tw11168392209193923019:True:=⟨⟩
theorem tw11206361297160179205:True:=⟨⟩
theorem tw11221381037163410023:True:=⟨⟩
theorem tw11243140070204986655:True:=⟨⟩
theorem tw1125265962880787306:True:=⟨⟩
theorem tw11264028991809047258:True:=⟨⟩
theorem tw11276049564303293824:True:=⟨⟩
theorem tw11292715151375104488:True:=⟨⟩
theorem tw11296385531250897877:True:=⟨⟩
theorem tw11301520543275629048:True:=⟨⟩
theorem tw11349091869457209327:True:=⟨⟩
theorem tw11350865860614509404:True:=⟨⟩
theorem tw11352803374458128077:True:=⟨⟩
theorem tw11368573554144983538:True:=⟨⟩
theorem tw11373761470617784353:True:=⟨⟩
theorem tw11377891148298112020:True:=⟨⟩
theorem tw11405708942416849636:True:=⟨⟩
theorem tw11421424382108472018:True:=⟨⟩
theorem tw11476537351228506976:True:=⟨⟩
theorem tw11493624682176547572:True:=⟨⟩
theorem tw11572890513907498913:True:=⟨⟩
theorem tw115809183316346490:True:=⟨⟩
theorem tw11598677175143396878:True:=⟨⟩
theorem tw11599287092112543065:True:=⟨⟩
theorem tw11607189189292559947:True:=⟨⟩
theorem tw11616097916865886695:True:=⟨⟩
theorem tw11621304473764075421:True:=⟨⟩
theorem tw11643489339171654184:True:=⟨⟩
theorem tw11660518258330378224:True:=⟨⟩
theorem tw11672869106834429303:True:=⟨⟩
theorem tw11690283391013002793:True:=⟨⟩
theorem tw11712230685432324321:True:=⟨⟩
theorem tw11745549049713984315:True:=⟨⟩
theorem tw11755768937578305064:True:=⟨⟩
theorem tw11778937535054041871:True:=⟨⟩
theorem tw11784400401789346649:True:=⟨⟩
theorem tw11800111462997256101:True:=⟨⟩
theorem tw11856827597940088495:True:=⟨⟩
theorem tw11865679229034699998:True:=⟨⟩
theorem tw11879824158132086885:True:=⟨⟩
theorem tw11890168293598714871:True:=⟨⟩
theorem tw11915175856842226270:True:=⟨⟩
theorem tw11948228567803731997:True:=⟨⟩
theorem tw11950033623065156386:True:=⟨⟩
theorem tw11971766881303199198:True:=⟨⟩
theorem tw11972951480377294356:True:=⟨⟩
theorem tw11984112663653088244:True:=⟨⟩
theorem tw11986451029576423898:True:=⟨⟩
theorem tw11998213735685718932:True:=⟨⟩
theorem tw12054446869840500682:True:=⟨⟩
theorem tw12093797583417405020:True:=⟨⟩
theorem tw12097799513137392032:True:=⟨⟩
theorem tw12101864614542221021:True:=⟨⟩
theorem tw12111496664655177663:True:=⟨⟩
theorem tw12112742071478425188:True:=⟨⟩
theorem tw12125777357860715940:True:=⟨⟩
theorem tw12130984532457378417:True:=⟨⟩
theorem tw12135243057725488875:True:=⟨⟩
theorem tw12142305690806966947:True:=⟨⟩
theorem tw12167290336977688510:True:=⟨⟩
theorem tw12172662025132273787:True:=⟨⟩
theorem tw12194834920668592998:True:=⟨⟩
theorem tw12199723389363903540:True:=⟨⟩
theorem tw12224555051963637871:True:=⟨⟩
theorem tw12228569087811813501:True:=⟨⟩
theorem tw12236344072268589457:True:=⟨⟩
theorem tw12241769714879494962:True:=⟨⟩
theorem tw1225230770168930668:True:=⟨⟩
theorem tw12252682138151434014:True:=⟨⟩
theorem tw12258647838498737854:True:=⟨⟩
theorem tw12268157048993518529:True:=⟨⟩
theorem tw12278593828733162963:True:=⟨⟩
theorem tw12281632442142081354:True:=⟨⟩
theorem tw12369071709872841911:True:=⟨⟩
theorem tw12389769244851265403:True:=⟨⟩
theorem tw12453265110323599435:True:=⟨⟩
theorem tw12482131627667897793:True:=⟨⟩
theorem tw12486858142807579864:True:=⟨⟩
theorem tw12504877707609109782:True:=⟨⟩
theorem tw12526485513064212993:True:=⟨⟩
theorem tw12530247597841258499:True:=⟨⟩
theorem tw12544703160465114076:True:=⟨⟩
theorem tw12549259455715193824:True:=⟨⟩
theorem tw12549805238614068801:True:=⟨⟩
theorem tw12550285875118617981:True:=⟨⟩
theorem tw12551221129827608721:True:=⟨⟩
theorem tw12557442871622651610:True:=⟨⟩
theorem tw12575623633096048818:True:=⟨⟩
theorem tw12578481908814378013:True:=⟨⟩
theorem tw12593567530039665559:True:=⟨⟩
theorem tw12671338991624642929:True:=⟨⟩
theorem tw12720995014975883415:True:=⟨⟩
theorem tw12751259692279495611:True:=⟨⟩
theorem tw12766615176282865331:True:=⟨⟩
theorem tw12781411667260856024:True:=⟨⟩
theorem tw12806855602898394876:True:=⟨⟩
theorem tw12818893746282466611:True:=⟨⟩
theorem tw12844505521341247069:True:=⟨⟩
theorem tw12859444843790822291:True:=⟨⟩
theorem tw12860783028722290147:True:=⟨⟩
theorem tw12864263497862091986:True:=⟨⟩
theorem tw12871316153414887298:True:=⟨⟩
theorem tw12873699882841414511:True:=⟨⟩
theorem tw12881409643320014307:True:=⟨⟩
theorem tw12882886281358109945:True:=⟨⟩
theorem tw12897891146391596943:True:=⟨⟩
theorem tw12911663696972979732:True:=⟨⟩
theorem tw12933593414778378084:True:=⟨⟩
theorem tw12960771557255540911:True:=⟨⟩
theorem tw1299261006290941360:True:=⟨⟩
theorem tw13027341883922880869:True:=⟨⟩
theorem tw13066002075364447884:True:=⟨⟩
theorem tw13073985242782749916:True:=⟨⟩
theorem tw13085608548929679784:True:=⟨⟩
theorem tw13095214981614368978:True:=⟨⟩
theorem tw13132966324817027686:True:=⟨⟩
theorem tw13141598066546183496:True:=⟨⟩
theorem tw13145914579392432101:True:=⟨⟩
theorem tw13156472844706499746:True:=⟨⟩
theorem tw13174528963874288857:True:=⟨⟩
theorem tw13183119979666366474:True:=⟨⟩
theorem tw13240919944899997770:True:=⟨⟩
theorem tw13259410588273466828:True:=⟨⟩
theorem tw13268909159140901811:True:=⟨⟩
theorem tw13308176806867178872:True:=⟨⟩
theorem tw13326981011292807576:True:=⟨⟩
theorem tw13334250794735180496:True:=⟨⟩
theorem tw13394237608335133399:True:=⟨⟩
theorem tw13398888102666259491:True:=⟨⟩
theorem tw13409358067223390039:True:=⟨⟩
theorem tw13411938026700614252:True:=⟨⟩
theorem tw13413628040919056605:True:=⟨⟩
theorem tw13428963464166794173:True:=⟨⟩
theorem tw13429003229370906764:True:=⟨⟩
theorem tw13490288486288784131:True:=⟨⟩
theorem tw13538779543789453218:True:=⟨⟩
theorem tw13560566137181475579:True:=⟨⟩
theorem tw13610089587812776528:True:=⟨⟩
theorem tw13646377392756508838:True:=⟨⟩
theorem tw13651541300981520037:True:=⟨⟩
theorem tw13662479039450282021:True:=⟨⟩
theorem tw13695364107191734543:True:=⟨⟩
theorem tw13712983628107034747:True:=⟨⟩
theorem tw13748933881807017103:True:=⟨⟩
theorem tw13774577761372110793:True:=⟨⟩
theorem tw1380266143189174418:True:=⟨⟩
theorem tw13813225975633192627:True:=⟨⟩
theorem tw13813946537290775197:True:=⟨⟩
theorem tw1382325679712990010:True:=⟨⟩
theorem tw13830940274745604160:True:=⟨⟩
theorem tw13831662225881291998:True:=⟨⟩
theorem tw1383921106848663892:True:=⟨⟩
theorem tw13843693558069708274:True:=⟨⟩
theorem tw13885686922023002460:True:=⟨⟩
theorem tw13927201154719655621:True:=⟨⟩
theorem tw1394343982656680695:True:=⟨⟩
theorem tw13946318645621041774:True:=⟨⟩
theorem tw13956930388814246005:True:=⟨⟩
theorem tw13965450016081219031:True:=⟨⟩
theorem tw13996403531495699267:True:=⟨⟩
theorem tw14004797558828397696:True:=⟨⟩
theorem tw14014393948660976800:True:=⟨⟩
theorem tw14018080310164357988:True:=⟨⟩
theorem tw14022398637487821073:True:=⟨⟩
theorem tw14035849199766157373:True:=⟨⟩
theorem tw14038193804576012554:True:=⟨⟩
theorem tw1404488923673745188:True:=⟨⟩
theorem tw14046570062725555922:True:=⟨⟩
theorem tw14048461668174652964:True:=⟨⟩
theorem tw14058023587096176033:True:=⟨⟩
theorem tw14087584163876001370:True:=⟨⟩
theorem tw14092199703170191779:True:=⟨⟩
theorem tw14154685725713874762:True:=⟨⟩
theorem tw14158809572312404204:True:=⟨⟩
theorem tw14160098751773936971:True:=⟨⟩
theorem tw14173205825283635329:True:=⟨⟩
theorem tw14191563157238112694:True:=⟨⟩
theorem tw14197852267797474778:True:=⟨⟩
theorem tw14203536399266036552:True:=⟨⟩
theorem tw14207298857077226584:True:=⟨⟩
theorem tw14229681355317891732:True:=⟨⟩
theorem tw14273165481553846346:True:=⟨⟩
theorem tw14294966657211279245:True:=⟨⟩
theorem tw14306820848108926951:True:=⟨⟩
theorem tw14316610166220506471:True:=⟨⟩
theorem tw1436766721603948237:True:=⟨⟩
theorem tw14417404864171042652:True:=⟨⟩
theorem tw14428080833457790047:True:=⟨⟩
theorem tw14434904518567087921:True:=⟨⟩
theorem tw14440531665558418366:True:=⟨⟩
theorem tw14471380101398872091:True:=⟨⟩
theorem tw14474539551999935476:True:=⟨⟩
theorem tw14506978923559556712:True:=⟨⟩
theorem tw14521980240727753455:True:=⟨⟩
theorem tw14535449583276349680:True:=⟨⟩
theorem tw14538400647796321000:True:=⟨⟩
theorem tw14558238191102563047:True:=⟨⟩
theorem tw14576213152793231657:True:=⟨⟩
theorem tw1459413323800986399:True:=⟨⟩
theorem tw14622672728407619404:True:=⟨⟩
theorem tw14631144938163432707:True:=⟨⟩
theorem tw14641009453215205129:True:=⟨⟩
theorem tw1464615786456937101:True:=⟨⟩
theorem tw1468525572530559469:True:=⟨⟩
theorem tw14693395658208544307:True:=⟨⟩
theorem tw1470291042920767366:True:=⟨⟩
theorem tw14707855749147053328:True:=⟨⟩
theorem tw14713090604009997258:True:=⟨⟩
theorem tw14713669575027938220:True:=⟨⟩
theorem tw14733041685062934944:True:=⟨⟩
theorem tw14742133635111464354:True:=⟨⟩
theorem tw14751178172916298601:True:=⟨⟩
theorem tw14782339841124201467:True:=⟨⟩
theorem tw14807909472385317787:True:=⟨⟩
theorem tw14856349153436963837:True:=⟨⟩
theorem tw14867743307683614126:True:=⟨⟩
theorem tw14873081790629010582:True:=⟨⟩
theorem tw14881854619444686490:True:=⟨⟩
theorem tw14898342577970786456:True:=⟨⟩
theorem tw14905967265327235109:True:=⟨⟩
theorem tw14959723275684601050:True:=⟨⟩
theorem tw15007715706725063371:True:=⟨⟩
theorem tw15023206222585252498:True:=⟨⟩
theorem tw15047539941376683224:True:=⟨⟩
theorem tw15057739519546274583:True:=⟨⟩
theorem tw15071288070973208494:True:=⟨⟩
theorem tw15075502114778338149:True:=⟨⟩
theorem tw15079178322347441055:True:=⟨⟩
theorem tw1512369712092359649:True:=⟨⟩
theorem tw15136701455374563934:True:=⟨⟩
theorem tw15145352848786651440:True:=⟨⟩
theorem tw15148795640099475399:True:=⟨⟩
theorem tw15152215888059144820:True:=⟨⟩
theorem tw15183210522456342717:True:=⟨⟩
theorem tw15225764520796309706:True:=⟨⟩
theorem tw15231751708599139448:True:=⟨⟩
theorem tw15250890632624566622:True:=⟨⟩
theorem tw15285460061237134673:True:=⟨⟩
theorem tw15299426723896063687:True:=⟨⟩
theorem tw15305439421933796796:True:=⟨⟩
theorem tw15334839335050765539:True:=⟨⟩
theorem tw15365467183223358365:True:=⟨⟩
theorem tw15365697073443127453:True:=⟨⟩
theorem tw15366831191597439775:True:=⟨⟩
theorem tw1536745271571430408:True:=⟨⟩
theorem tw15402314478989834484:True:=⟨⟩
theorem tw15431028902806542391:True:=⟨⟩
theorem tw15447559804738045918:True:=⟨⟩
theorem tw15451078714118884478:True:=⟨⟩
theorem tw15452150791876797255:True:=⟨⟩
theorem tw15463442126549606631:True:=⟨⟩
theorem tw15465989505863128906:True:=⟨⟩
theorem tw15476413844074663415:True:=⟨⟩
theorem tw15485644965657012912:True:=⟨⟩
theorem tw15518821256702269669:True:=⟨⟩
theorem tw15531503113909312601:True:=⟨⟩
theorem tw15535116004648119917:True:=⟨⟩
theorem tw15547872002063141556:True:=⟨⟩
theorem tw15549229305689533925:True:=⟨⟩
theorem tw15579300132755972212:True:=⟨⟩
theorem tw15633179723197146180:True:=⟨⟩
theorem tw15685751030361807187:True:=⟨⟩
theorem tw15719419932324168210:True:=⟨⟩
theorem tw1573253607512317697:True:=⟨⟩
theorem tw15745163713146945981:True:=⟨⟩
theorem tw15761323721217825372:True:=⟨⟩
theorem tw15777303749609772109:True:=⟨⟩
theorem tw15780638514808209104:True:=⟨⟩
theorem tw15818126465064366467:True:=⟨⟩
theorem tw15834340770982706874:True:=⟨⟩
theorem tw15834495145994557668:True:=⟨⟩
theorem tw15856854996335472574:True:=⟨⟩
theorem tw15888461824687485909:True:=⟨⟩
theorem tw15926242703690843936:True:=⟨⟩
theorem tw15946083279137230189:True:=⟨⟩
theorem tw16023801904434137501:True:=⟨⟩
theorem tw16033595510004105764:True:=⟨⟩
theorem tw16037860013388275117:True:=⟨⟩
theorem tw16064164277396600366:True:=⟨⟩
theorem tw16076450372451996240:True:=⟨⟩
theorem tw16076563536359162544:True:=⟨⟩
theorem tw16079085417608869522:True:=⟨⟩
theorem tw16092024237488576309:True:=⟨⟩
theorem tw16121888323681070936:True:=⟨⟩
theorem tw16123320573848379906:True:=⟨⟩
theorem tw16157960616980590295:True:=⟨⟩
theorem tw16203317628730326101:True:=⟨⟩
theorem tw16203766192409074850:True:=⟨⟩
theorem tw16205707914388366827:True:=⟨⟩
theorem tw16232517331421508968:True:=⟨⟩
theorem tw16275991512697555422:True:=⟨⟩
theorem tw16290772368054274699:True:=⟨⟩
theorem tw16389808932631414709:True:=⟨⟩
theorem tw16412503008474325263:True:=⟨⟩
theorem tw16426450907978642581:True:=⟨⟩
theorem tw16474366386664359305:True:=⟨⟩
theorem tw1647564586801044075:True:=⟨⟩
theorem tw16492849417980076567:True:=⟨⟩
theorem tw16508756940814194104:True:=⟨⟩
theorem tw16529363313441040570:True:=⟨⟩
theorem tw16535972141509783537:True:=⟨⟩
theorem tw1655134208581506066:True:=⟨⟩
theorem tw1658265850786179256:True:=⟨⟩
theorem tw16599520956272218370:True:=⟨⟩
theorem tw16623965012414819999:True:=⟨⟩
theorem tw16645126906095212291:True:=⟨⟩
theorem tw16707148615968632671:True:=⟨⟩
theorem tw1672171913863059142:True:=⟨⟩
theorem tw16724004148883816096:True:=⟨⟩
theorem tw16745783530531710010:True:=⟨⟩
theorem tw16951391793003052812:True:=⟨⟩
theorem tw1696619868107237405:True:=⟨⟩
theorem tw16966966583699177733:True:=⟨⟩
theorem tw17013033196276398041:True:=⟨⟩
theorem tw17060642605176228152:True:=⟨⟩
theorem tw17081210839335033858:True:=⟨⟩
theorem tw1710238564432944724:True:=⟨⟩
theorem tw17115810404406857819:True:=⟨⟩
theorem tw17117764057501652794:True:=⟨⟩
theorem tw1712939061819937377:True:=⟨⟩
theorem tw17134096714377704925:True:=⟨⟩
theorem tw17135748959165819639:True:=⟨⟩
theorem tw17153664643975943062:True:=⟨⟩
theorem tw17208669312785598851:True:=⟨⟩
theorem tw17238436559081853558:True:=⟨⟩
theorem tw17317268236092079477:True:=⟨⟩
theorem tw17332724950137467768:True:=⟨⟩
theorem tw17369636240885549544:True:=⟨⟩
theorem tw17376323434880032330:True:=⟨⟩
theorem tw17392448213199593660:True:=⟨⟩
theorem tw17410345901039757855:True:=⟨⟩
theorem tw17433127913693119040:True:=⟨⟩
theorem tw17446575323962828281:True:=⟨⟩
theorem tw17505697414007532835:True:=⟨⟩
theorem tw17537344390456759166:True:=⟨⟩
theorem tw17537395635457159847:True:=⟨⟩
theorem tw17564901442498828978:True:=⟨⟩
theorem tw17585038689563124164:True:=⟨⟩
theorem tw17609133702135919181:True:=⟨⟩
theorem tw17642459172787306690:True:=⟨⟩
theorem tw17682013813301987522:True:=⟨⟩
theorem tw1770403677119496577:True:=⟨⟩
theorem tw177066084396097930:True:=⟨⟩
theorem tw17724837763248974187:True:=⟨⟩
theorem tw17745995989147412701:True:=⟨⟩
theorem tw1775133003888417557:True:=⟨⟩
theorem tw17780763670350062168:True:=⟨⟩
theorem tw17793601214926639346:True:=⟨⟩
theorem tw17793866866187338790:True:=⟨⟩
theorem tw17829649293370198391:True:=⟨⟩
theorem tw17829669376185775760:True:=⟨⟩
theorem tw17832336308430041503:True:=⟨⟩
theorem tw17862135231188742430:True:=⟨⟩
theorem tw17873652418504359736:True:=⟨⟩
theorem tw17875119687178822300:True:=⟨⟩
theorem tw1788653350618480823:True:=⟨⟩
theorem tw17914597814320245944:True:=⟨⟩
theorem tw17925456909644772486:True:=⟨⟩
theorem tw17934553663058349519:True:=⟨⟩
theorem tw17952597334106443558:True:=⟨⟩
theorem tw18000433339932606928:True:=⟨⟩
theorem tw18017576226648873182:True:=⟨⟩
theorem tw18048052821153427700:True:=⟨⟩
theorem tw18099850221612242596:True:=⟨⟩
theorem tw18122900460995665848:True:=⟨⟩
theorem tw1812916167404313711:True:=⟨⟩
theorem tw18135871283978074380:True:=⟨⟩
theorem tw18138324594202404293:True:=⟨⟩
theorem tw18169451979554857519:True:=⟨⟩
theorem tw18201084682146895476:True:=⟨⟩
theorem tw18213337750420850681:True:=⟨⟩
theorem tw1823858462228436580:True:=⟨⟩
theorem tw18258500274809249744:True:=⟨⟩
theorem tw18262711166607144494:True:=⟨⟩
theorem tw18269592500128245297:True:=⟨⟩
theorem tw18278721908451915239:True:=⟨⟩
theorem tw18280617432890430314:True:=⟨⟩
theorem tw18309457999483005814:True:=⟨⟩
theorem tw18324216847568631352:True:=⟨⟩
theorem tw18327116099616836265:True:=⟨⟩
theorem tw18331683948005205253:True:=⟨⟩
theorem tw18335200479604679261:True:=⟨⟩
theorem tw18344499119751269746:True:=⟨⟩
theorem tw18377081617648178748:True:=⟨⟩
theorem tw1838754872929262815:True:=⟨⟩
theorem tw18389605195815508668:True:=⟨⟩
theorem tw18437050754370923771:True:=⟨⟩
theorem tw18442591027735430764:True:=⟨⟩
theorem tw18443615306298103239:True:=⟨⟩
theorem tw1852239242187526932:True:=⟨⟩
theorem tw1852500495342551063:True:=⟨⟩
theorem tw1865445117818729910:True:=⟨⟩
theorem tw1881430795880671385:True:=⟨⟩
theorem tw1899533037254903421:True:=⟨⟩
theorem tw1903309274334829234:True:=⟨⟩
theorem tw1905986551553291861:True:=⟨⟩
theorem tw1912992664635484517:True:=⟨⟩
theorem tw1924353995663001603:True:=⟨⟩
theorem tw1931627421467437334:True:=⟨⟩
theorem tw1940023363760622722:True:=⟨⟩
theorem tw1944832791248281326:True:=⟨⟩
theorem tw1967229395109264193:True:=⟨⟩
theorem tw2001854250840899427:True:=⟨⟩
theorem tw2022359268935328799:True:=⟨⟩
theorem tw2045302011743324173:True:=⟨⟩
theorem tw205785346898366946:True:=⟨⟩
theorem tw2065266084296628340:True:=⟨⟩
theorem tw2088558681277728118:True:=⟨⟩
theorem tw2094301979746123090:True:=⟨⟩
theorem tw210216505190993085:True:=⟨⟩
theorem tw2146946912841980444:True:=⟨⟩
theorem tw221271702835592071:True:=⟨⟩
theorem tw2234798552961376496:True:=⟨⟩
theorem tw2240564425501720441:True:=⟨⟩
theorem tw2272270333510807793:True:=⟨⟩
theorem tw2319478384412584463:True:=⟨⟩
theorem tw2332815768136549780:True:=⟨⟩
theorem tw235103927242389236:True:=⟨⟩
theorem tw2366226048673872896:True:=⟨⟩
theorem tw2367694302553148795:True:=⟨⟩
theorem tw2409005445122833515:True:=⟨⟩
theorem tw2437282105048417206:True:=⟨⟩
theorem tw2439086410502391089:True:=⟨⟩
theorem tw2493513300668696799:True:=⟨⟩
theorem tw2501840765783125040:True:=⟨⟩
theorem tw2518196450373809364:True:=⟨⟩
theorem tw2521360670964773082:True:=⟨⟩
theorem tw254786959954818914:True:=⟨⟩
theorem tw2548255820221349946:True:=⟨⟩
theorem tw2553963047915338618:True:=⟨⟩
theorem tw2554216065840086897:True:=⟨⟩
theorem tw2595074566386514121:True:=⟨⟩
theorem tw260106635480786313:True:=⟨⟩
theorem tw2603111910847012065:True:=⟨⟩
theorem tw2603895984534793893:True:=⟨⟩
theorem tw2631749048609477390:True:=⟨⟩
theorem tw2639432726375898330:True:=⟨⟩
theorem tw2661473047193212566:True:=⟨⟩
theorem tw2664163442348248473:True:=⟨⟩
theorem tw2680404854909834823:True:=⟨⟩
theorem tw2682319290900254935:True:=⟨⟩
theorem tw2687947234933906214:True:=⟨⟩
theorem tw2719771690686884159:True:=⟨⟩
theorem tw2744811589136552089:True:=⟨⟩
theorem tw2763229460925593900:True:=⟨⟩
theorem tw2772278546169868222:True:=⟨⟩
theorem tw2774654746562597400:True:=⟨⟩
theorem tw2775248349105794616:True:=⟨⟩
theorem tw2775398822256301066:True:=⟨⟩
theorem tw2775741953440530775:True:=⟨⟩
theorem tw2799221556043299074:True:=⟨⟩
theorem tw2808217439523824576:True:=⟨⟩
theorem tw2821771052853082672:True:=⟨⟩
theorem tw2890424227578889762:True:=⟨⟩
theorem tw291365573757156758:True:=⟨⟩
theorem tw292068119122897522:True:=⟨⟩
theorem tw2956290310814894494:True:=⟨⟩
theorem tw2969881430406821730:True:=⟨⟩
theorem tw2985554203709315381:True:=⟨⟩
theorem tw2987747074480585911:True:=⟨⟩
theorem tw2994294732059784121:True:=⟨⟩
theorem tw3010747011582917423:True:=⟨⟩
theorem tw301277372534157780:True:=⟨⟩
theorem tw3018912309633659634:True:=⟨⟩
theorem tw3019354651079284117:True:=⟨⟩
theorem tw3042043097178072475:True:=⟨⟩
theorem tw3047621542026435157:True:=⟨⟩
theorem tw3049501442215496995:True:=⟨⟩
theorem tw3137461330945469936:True:=⟨⟩
theorem tw3162674132329463178:True:=⟨⟩
theorem tw3169962931309839755:True:=⟨⟩
theorem tw318440479156374681:True:=⟨⟩
theorem tw3198904237250808932:True:=⟨⟩
theorem tw3247031373802696197:True:=⟨⟩
theorem tw3248634635444120188:True:=⟨⟩
theorem tw3253616479532175651:True:=⟨⟩
theorem tw3264985029287905112:True:=⟨⟩
theorem tw3274538623340285815:True:=⟨⟩
theorem tw3281160022561067930:True:=⟨⟩
theorem tw328714949322029381:True:=⟨⟩
theorem tw3317995912732441401:True:=⟨⟩
theorem tw3343928238441012180:True:=⟨⟩
theorem tw3351128372045117196:True:=⟨⟩
theorem tw335746277601384521:True:=⟨⟩
theorem tw3366791612157087702:True:=⟨⟩
theorem tw3374177001668995299:True:=⟨⟩
theorem tw3387524479538209464:True:=⟨⟩
theorem tw3395752062436704962:True:=⟨⟩
theorem tw3399049522117461250:True:=⟨⟩
theorem tw3405042995097774708:True:=⟨⟩
theorem tw3406328137731447231:True:=⟨⟩
theorem tw3406531276319713740:True:=⟨⟩
theorem tw3428546249606862448:True:=⟨⟩
theorem tw3429214763563557272:True:=⟨⟩
theorem tw3432389184929476025:True:=⟨⟩
theorem tw3469653125119557653:True:=⟨⟩
theorem tw3470502815903080286:True:=⟨⟩
theorem tw3471229539851187651:True:=⟨⟩
theorem tw3495043766434780530:True:=⟨⟩
theorem tw3497742696998024463:True:=⟨⟩
theorem tw3503197227709792608:True:=⟨⟩
theorem tw3530715888890681004:True:=⟨⟩
theorem tw3544831081780749567:True:=⟨⟩
theorem tw3610542246404882510:True:=⟨⟩
theorem tw3640380333187623178:True:=⟨⟩
theorem tw3704808082013418924:True:=⟨⟩
theorem tw3809821347642481352:True:=⟨⟩
theorem tw3854627991472748961:True:=⟨⟩
theorem tw3854813303650315285:True:=⟨⟩
theorem tw3860355892270145857:True:=⟨⟩
theorem tw3863365405127767653:True:=⟨⟩
theorem tw3932941184550944356:True:=⟨⟩
theorem tw3950603407126658727:True:=⟨⟩
theorem tw3961230647310415543:True:=⟨⟩
theorem tw3975328970660118255:True:=⟨⟩
theorem tw3988962105466173937:True:=⟨⟩
theorem tw3991895569619442881:True:=⟨⟩
theorem tw3999371555798773501:True:=⟨⟩
theorem tw4008101759676959208:True:=⟨⟩
theorem tw4017517662253060980:True:=⟨⟩
theorem tw4032185541541595346:True:=⟨⟩
theorem tw4090629624786075407:True:=⟨⟩
theorem tw4125258388699166989:True:=⟨⟩
theorem tw4136861854728038027:True:=⟨⟩
theorem tw4173591092465554381:True:=⟨⟩
theorem tw4179504397082885013:True:=⟨⟩
theorem tw4209224605787244367:True:=⟨⟩
theorem tw4261382865533329065:True:=⟨⟩
theorem tw4290384950980456877:True:=⟨⟩
theorem tw4292757878025021862:True:=⟨⟩
theorem tw4344593700714989487:True:=⟨⟩
theorem tw4373889620161685832:True:=⟨⟩
theorem tw442849763404320888:True:=⟨⟩
theorem tw4443137607863066233:True:=⟨⟩
theorem tw4443153523059237953:True:=⟨⟩
theorem tw4451937505449030998:True:=⟨⟩
theorem tw4452944568164536654:True:=⟨⟩
theorem tw4476666104991233078:True:=⟨⟩
theorem tw4512897635795033626:True:=⟨⟩
theorem tw4514962595154830490:True:=⟨⟩
theorem tw4518571076274722132:True:=⟨⟩
theorem tw4527489113362493307:True:=⟨⟩
theorem tw4537867255591299875:True:=⟨⟩
theorem tw4577064654934292211:True:=⟨⟩
theorem tw4621976389341460236:True:=⟨⟩
theorem tw4622498373647831564:True:=⟨⟩
theorem tw4685804051417852473:True:=⟨⟩
theorem tw4697013502657756208:True:=⟨⟩
theorem tw471034345454628294:True:=⟨⟩
theorem tw4727328984196939642:True:=⟨⟩
theorem tw4786918912511948573:True:=⟨⟩
theorem tw4809082803899231312:True:=⟨⟩
theorem tw4817366041238098825:True:=⟨⟩
theorem tw4857370178354975296:True:=⟨⟩
theorem tw4865923938489993705:True:=⟨⟩
theorem tw4868398434011101238:True:=⟨⟩
theorem tw4884245022847809420:True:=⟨⟩
theorem tw4886969325721834111:True:=⟨⟩
theorem tw4890640232810388959:True:=⟨⟩
theorem tw4891177749854550089:True:=⟨⟩
theorem tw4898896128030714781:True:=⟨⟩
theorem tw4911000609934908159:True:=⟨⟩
theorem tw4962952121394711191:True:=⟨⟩
theorem tw4967005864735764260:True:=⟨⟩
theorem tw4968602111360159720:True:=⟨⟩
theorem tw4995654705762863684:True:=⟨⟩
theorem tw5023727547740710176:True:=⟨⟩
theorem tw5063052120436792807:True:=⟨⟩
theorem tw5083009433314359209:True:=⟨⟩
theorem tw5118578854815473549:True:=⟨⟩
theorem tw51448195102676504:True:=⟨⟩
theorem tw5152624474386811015:True:=⟨⟩
theorem tw5188980724081698218:True:=⟨⟩
theorem tw5197465082325475417:True:=⟨⟩
theorem tw5270925213495550450:True:=⟨⟩
theorem tw5283592761309287883:True:=⟨⟩
theorem tw5284158316539192638:True:=⟨⟩
theorem tw5298235718114907058:True:=⟨⟩
theorem tw53216018475017520:True:=⟨⟩
theorem tw5350739243772528026:True:=⟨⟩
theorem tw5350756757013202654:True:=⟨⟩
theorem tw5351031509466011751:True:=⟨⟩
theorem tw5368344911518560678:True:=⟨⟩
theorem tw5400710724690465159:True:=⟨⟩
theorem tw5407272247021596595:True:=⟨⟩
theorem tw5412758085587989749:True:=⟨⟩
theorem tw5453166402792144601:True:=⟨⟩
theorem tw5454522905739067587:True:=⟨⟩
theorem tw5463345138865800192:True:=⟨⟩
theorem tw5473320708650974934:True:=⟨⟩
theorem tw5621390321446673675:True:=⟨⟩
theorem tw5631217263170129537:True:=⟨⟩
theorem tw5652272714540744710:True:=⟨⟩
theorem tw5661252072340058654:True:=⟨⟩
theorem tw5686166263110106995:True:=⟨⟩
theorem tw5704636440176479544:True:=⟨⟩
theorem tw5725642393508803027:True:=⟨⟩
theorem tw5749381976728337090:True:=⟨⟩
theorem tw5758380996249832177:True:=⟨⟩
theorem tw5758781700514483398:True:=⟨⟩
theorem tw5778142068060950064:True:=⟨⟩
theorem tw5806937672104960256:True:=⟨⟩
theorem tw5809666738258756372:True:=⟨⟩
theorem tw5832841761721842763:True:=⟨⟩
theorem tw5855387678839433751:True:=⟨⟩
theorem tw5858856607063641185:True:=⟨⟩
theorem tw5871929577755735607:True:=⟨⟩
theorem tw5876156780315972400:True:=⟨⟩
theorem tw5893687003616667785:True:=⟨⟩
theorem tw5901649779058930535:True:=⟨⟩
theorem tw5948741748066774544:True:=⟨⟩
theorem tw5962540935962554965:True:=⟨⟩
theorem tw5969252790275303579:True:=⟨⟩
theorem tw5988250258920348184:True:=⟨⟩
theorem tw5999363938926148503:True:=⟨⟩
theorem tw6061959945345789140:True:=⟨⟩
theorem tw612018919130949364:True:=⟨⟩
theorem tw6136526876017753531:True:=⟨⟩
theorem tw6140820361871578618:True:=⟨⟩
theorem tw6161301694943288345:True:=⟨⟩
theorem tw619841101232321732:True:=⟨⟩
theorem tw6202530086280253538:True:=⟨⟩
theorem tw6210759373518656741:True:=⟨⟩
theorem tw6230628201771670621:True:=⟨⟩
theorem tw6249373350219872088:True:=⟨⟩
theorem tw6296757419275241006:True:=⟨⟩
theorem tw6310945689966726020:True:=⟨⟩
theorem tw6341321757101094368:True:=⟨⟩
theorem tw6361181636925353777:True:=⟨⟩
theorem tw6379168624282454490:True:=⟨⟩
theorem tw6383655289218220186:True:=⟨⟩
theorem tw6393469079263424050:True:=⟨⟩
theorem tw6411632577701723245:True:=⟨⟩
theorem tw6424087046818974322:True:=⟨⟩
theorem tw6441202140124519100:True:=⟨⟩
theorem tw6452067138652392134:True:=⟨⟩
theorem tw6456708814363506725:True:=⟨⟩
theorem tw647595695110738855:True:=⟨⟩
theorem tw648224440346848774:True:=⟨⟩
theorem tw6503277200531650112:True:=⟨⟩
theorem tw6505797206886803648:True:=⟨⟩
theorem tw650713152449749640:True:=⟨⟩
theorem tw6517680687533706959:True:=⟨⟩
theorem tw6528806690201925737:True:=⟨⟩
theorem tw6533063189613770944:True:=⟨⟩
theorem tw6536586925269243663:True:=⟨⟩
theorem tw6536708916630733761:True:=⟨⟩
theorem tw6569843800578544595:True:=⟨⟩
theorem tw6589897019416398727:True:=⟨⟩
theorem tw6599486235132123142:True:=⟨⟩
theorem tw6604330704701864935:True:=⟨⟩
theorem tw6608029332487739900:True:=⟨⟩
theorem tw6616228067770847094:True:=⟨⟩
theorem tw6641083958787678910:True:=⟨⟩
theorem tw6649444720779125993:True:=⟨⟩
theorem tw6655641329616254342:True:=⟨⟩
theorem tw6678681950122205186:True:=⟨⟩
theorem tw6705393621841256600:True:=⟨⟩
theorem tw6711363018406564978:True:=⟨⟩
theorem tw6738475127481985032:True:=⟨⟩
theorem tw6761797678411389239:True:=⟨⟩
theorem tw6785560659897836769:True:=⟨⟩
theorem tw6798427123431323512:True:=⟨⟩
theorem tw6829082625777074983:True:=⟨⟩
theorem tw6860354120695837084:True:=⟨⟩
theorem tw6864516238646207672:True:=⟨⟩
theorem tw6874172264758544785:True:=⟨⟩
theorem tw6908620214604107138:True:=⟨⟩
theorem tw6919515238296230258:True:=⟨⟩
theorem tw6960722814671933255:True:=⟨⟩
theorem tw6963272210531098494:True:=⟨⟩
theorem tw700315080851646065:True:=⟨⟩
theorem tw7050741913303171464:True:=⟨⟩
theorem tw7060175633387272958:True:=⟨⟩
theorem tw7067773976209417883:True:=⟨⟩
theorem tw7074288149812243999:True:=⟨⟩
theorem tw7098600510385476271:True:=⟨⟩
theorem tw7102993117406273932:True:=⟨⟩
theorem tw7150084230145865488:True:=⟨⟩
theorem tw7188695032645616607:True:=⟨⟩
theorem tw7204309600781667984:True:=⟨⟩
theorem tw7210627226785267719:True:=⟨⟩
theorem tw7215459402947699324:True:=⟨⟩
theorem tw7215475656306511751:True:=⟨⟩
theorem tw727707436494698367:True:=⟨⟩
theorem tw7299668385839648833:True:=⟨⟩
theorem tw7323362730554182970:True:=⟨⟩
theorem tw7334620583253109948:True:=⟨⟩
theorem tw73436207151799396:True:=⟨⟩
theorem tw734513114890048046:True:=⟨⟩
theorem tw7356212894087817291:True:=⟨⟩
theorem tw737588118589935999:True:=⟨⟩
theorem tw7376798650861500898:True:=⟨⟩
theorem tw738048891122608499:True:=⟨⟩
theorem tw7399263097424285164:True:=⟨⟩
theorem tw7404788047536325524:True:=⟨⟩
theorem tw7426484620391655395:True:=⟨⟩
theorem tw7431980736371681830:True:=⟨⟩
theorem tw743999349168879044:True:=⟨⟩
theorem tw7446803106788810454:True:=⟨⟩
theorem tw7447759959825107657:True:=⟨⟩
theorem tw7467723306893310240:True:=⟨⟩
theorem tw7468842360177154399:True:=⟨⟩
theorem tw7472149836960371835:True:=⟨⟩
theorem tw7474729671156335258:True:=⟨⟩
theorem tw7486018995784058187:True:=⟨⟩
theorem tw7506096297756996204:True:=⟨⟩
theorem tw7511429240305660961:True:=⟨⟩
theorem tw7615300464907208883:True:=⟨⟩
theorem tw7620025245088392709:True:=⟨⟩
theorem tw76214929251508201:True:=⟨⟩
theorem tw7635602994166624459:True:=⟨⟩
theorem tw7661994912506523820:True:=⟨⟩
theorem tw7669465816860865818:True:=⟨⟩
theorem tw7675290489760299159:True:=⟨⟩
theorem tw768352940545724083:True:=⟨⟩
theorem tw7684848248436529822:True:=⟨⟩
theorem tw768500796850827051:True:=⟨⟩
theorem tw7696187522342628774:True:=⟨⟩
theorem tw7710328727415192840:True:=⟨⟩
theorem tw771622665348385733:True:=⟨⟩
theorem tw776766060024598279:True:=⟨⟩
theorem tw7772327260200943846:True:=⟨⟩
theorem tw7799969783684476514:True:=⟨⟩
theorem tw7816985832243494808:True:=⟨⟩
theorem tw7827863502179900882:True:=⟨⟩
theorem tw7831574685577628938:True:=⟨⟩
theorem tw7850510802814327701:True:=⟨⟩
theorem tw7859287804611574472:True:=⟨⟩
theorem tw7875299808705486539:True:=⟨⟩
theorem tw791424218102006824:True:=⟨⟩
theorem tw7937785234293329978:True:=⟨⟩
theorem tw796122323277912132:True:=⟨⟩
theorem tw7982061666801294851:True:=⟨⟩
theorem tw7993881698623329718:True:=⟨⟩
theorem tw7994623752864696313:True:=⟨⟩
theorem tw7996786106513755595:True:=⟨⟩
theorem tw8015430270931567208:True:=⟨⟩
theorem tw8027499864271647858:True:=⟨⟩
theorem tw805536690191702514:True:=⟨⟩
theorem tw8076202231584658570:True:=⟨⟩
theorem tw8080424389965258601:True:=⟨⟩
theorem tw8082193001891015867:True:=⟨⟩
theorem tw8093974094803689751:True:=⟨⟩
theorem tw8161167900655077181:True:=⟨⟩
theorem tw8169696592577962164:True:=⟨⟩
theorem tw8185254149423785385:True:=⟨⟩
theorem tw8198097528545956192:True:=⟨⟩
theorem tw8216410509418469702:True:=⟨⟩
theorem tw8250608025698981192:True:=⟨⟩
theorem tw8254060749051026910:True:=⟨⟩
theorem tw8286960224665475075:True:=⟨⟩
theorem tw8306576624313527557:True:=⟨⟩
theorem tw8314181044579563869:True:=⟨⟩
theorem tw8320469664241368682:True:=⟨⟩
theorem tw8327154261958759143:True:=⟨⟩
theorem tw8329597290698758291:True:=⟨⟩
theorem tw8339057397119439007:True:=⟨⟩
theorem tw8339300886377901694:True:=⟨⟩
theorem tw8355502974226416024:True:=⟨⟩
theorem tw8362095912913516039:True:=⟨⟩
theorem tw8420669321041166665:True:=⟨⟩
theorem tw8425380727788215876:True:=⟨⟩
theorem tw8432694947514788544:True:=⟨⟩
theorem tw8487974288587483005:True:=⟨⟩
theorem tw8534742366067901765:True:=⟨⟩
theorem tw8545703628654270929:True:=⟨⟩
theorem tw8567657265473741503:True:=⟨⟩
theorem tw8590119411279287901:True:=⟨⟩
theorem tw8602070940025439060:True:=⟨⟩
theorem tw8608188380864525722:True:=⟨⟩
theorem tw8620246559248854452:True:=⟨⟩
theorem tw8623168813440913450:True:=⟨⟩
theorem tw8647799679331554223:True:=⟨⟩
theorem tw8684189285197968589:True:=⟨⟩
theorem tw8714557136640560948:True:=⟨⟩
theorem tw8718290499334722070:True:=⟨⟩
theorem tw8724600577023718014:True:=⟨⟩
theorem tw8725433658794139082:True:=⟨⟩
theorem tw8744704322734027561:True:=⟨⟩
theorem tw878610510987081414:True:=⟨⟩
theorem tw879052615409061319:True:=⟨⟩
theorem tw8819283863336845484:True:=⟨⟩
theorem tw8838096913413692271:True:=⟨⟩
theorem tw8857537429018056001:True:=⟨⟩
theorem tw8871688507100639636:True:=⟨⟩
theorem tw8880895708585026843:True:=⟨⟩
theorem tw8895228267135311109:True:=⟨⟩
theorem tw8924372729055351415:True:=⟨⟩
theorem tw8983379539271409395:True:=⟨⟩
theorem tw8999807142578729127:True:=⟨⟩
theorem tw9007574956285654605:True:=⟨⟩
theorem tw9073595578955907565:True:=⟨⟩
theorem tw910010817609485558:True:=⟨⟩
theorem tw9102921511267195912:True:=⟨⟩
theorem tw9126010174781205475:True:=⟨⟩
theorem tw914330248336263767:True:=⟨⟩
theorem tw9159987177415652129:True:=⟨⟩
theorem tw9164397792572620237:True:=⟨⟩
theorem tw9165799032038755676:True:=⟨⟩
theorem tw9166430326070470986:True:=⟨⟩
theorem tw9175527858245901706:True:=⟨⟩
theorem tw9180960985736211636:True:=⟨⟩
theorem tw9183536163597486594:True:=⟨⟩
theorem tw9189751923155908245:True:=⟨⟩
theorem tw9206914675433045443:True:=⟨⟩
theorem tw9214352992914181546:True:=⟨⟩
theorem tw9286489505495406874:True:=⟨⟩
theorem tw9299549761306134679:True:=⟨⟩
theorem tw9302883668702603303:True:=⟨⟩
theorem tw9307261942532594301:True:=⟨⟩
theorem tw9320938869706991120:True:=⟨⟩
theorem tw9321391105751959249:True:=⟨⟩
theorem tw9324858274579216221:True:=⟨⟩
theorem tw9330255575302481380:True:=⟨⟩
theorem tw9331779381387578070:True:=⟨⟩
theorem tw935387343803553097:True:=⟨⟩
theorem tw9364625496209873045:True:=⟨⟩
theorem tw9365626591821601486:True:=⟨⟩
theorem tw937302731258570914:True:=⟨⟩
theorem tw9391029420172258876:True:=⟨⟩
theorem tw9399554382582985671:True:=⟨⟩
theorem tw9425802239136700766:True:=⟨⟩
theorem tw9429193155063763347:True:=⟨⟩
theorem tw9431399496664358706:True:=⟨⟩
theorem tw9455153774033087234:True:=⟨⟩
theorem tw9460224601391428271:True:=⟨⟩
theorem tw948248185864069134:True:=⟨⟩
theorem tw9505200714186329330:True:=⟨⟩
theorem tw9555321858089612551:True:=⟨⟩
theorem tw9563243305130678730:True:=⟨⟩
theorem tw9606031490356691448:True:=⟨⟩
theorem tw9608388103046216987:True:=⟨⟩
theorem tw9637131906713907847:True:=⟨⟩
theorem tw9657314781436078994:True:=⟨⟩
theorem tw9663554950894731572:True:=⟨⟩
theorem tw9678087062702194323:True:=⟨⟩
theorem tw9689374497480205377:True:=⟨⟩
theorem tw9691747744792029661:True:=⟨⟩
theorem tw9705025377737293792:True:=⟨⟩
theorem tw9730034330034167023:True:=⟨⟩
theorem tw9760433763410962951:True:=⟨⟩
theorem tw9781156797740665383:True:=⟨⟩
theorem tw9793588060901626619:True:=⟨⟩
theorem tw9809198831848862245:True:=⟨⟩
theorem tw9816600262645972955:True:=⟨⟩
theorem tw9893226585666958802:True:=⟨⟩
theorem tw9910394041602361191:True:=⟨⟩
theorem tw9917811451797286525:True:=⟨⟩
theorem tw9927160477234418065:True:=⟨⟩
theorem tw9945590770140353842:True:=⟨⟩
theorem tw9958624393309178258:True:=⟨⟩
theorem tw9972660598438532933:True:=⟨⟩
theorem tw997575346748065804:True:=⟨⟩
end Mine.Internal.law3
namespace Mine.Internal
open PySem PySem.W PyProof.Rows
theorem ints_rv {D:Wd} {N:Nx}:∀ {xs:List Int} {vs:List PV},WellAll D.w.params N.s.heap vs (ofPys (xs.map PyData.int))→RVs D N (xs.map V.int) vs
 | [],_,.nil=>rfl
 | i :: xs,vs,x=>by
  have x:WellAll D.w.params N.s.heap vs (.int i :: ofPys (xs.map PyData.int)):=x
  cases x with
  | cons a r=>cases a with
   | int j t=>exact ⟨_,_,rfl,⟨_,rfl⟩,ints_rv r⟩
theorem list_well {w:World} {h:Heap} {a:Addr} {xs:List Int} (x:Well w.params h (.ref a) (ofPy (.list (xs.map PyData.int)))):∃ vs,h.get? a = some { cls:=.type "list",data:=.seq vs.toArray }∧WellAll w.params h vs (ofPys (xs.map PyData.int)):=by
 have x:Well w.params h (.ref a) (.list (ofPys (xs.map PyData.int))):=x
 cases x with
 | list h1 h2=>exact ⟨_,h1,h2⟩
theorem start_ok {D:Wd} {s:Shared} {P:Prog} (hb:D.base = s.heap) (big:∃ a,1 < a∧(s.heap.get? a).isSome = true) {N f:Nat} {ds:List V} {vs:List PV} {A:Around}
  (tok:TOk ⟨D,P,⟨callK P N⟩,N⟩) (e:∀ K:V→St→Prop,(∀ σ,K (.bool true) σ)→callK P N f ds [] K) (rs:RVs D ⟨[],fun a=>(s.heap.get? a).isSome = true,[],s⟩ ds vs) (rm:Room N 0 A) {Q E:PV→Shared→Prop}
  (q:∀ s',(∀ b o,s.heap.get? b = some o→s'.heap.get? b = some o)→s'.gens = s.gens→s'.os = s.os→Q (.bool true) s'):wpAny (model D.prog D.w) A (call (.ref (D.fa f)) vs) Q E s :=
 TOk.run (B:=⟨D,P,⟨callK P N⟩,N⟩) (G:=⟨default,A,[]⟩) (N:=⟨[],fun a=>(s.heap.get? a).isSome = true,[],s⟩) (K:=fun d _=>d = .bool true) tok (e _ fun _=>rfl) rm
  ⟨fun a o e=>by rw [hb] at e; exact e,big,rfl,List.nodup_nil,fun p hp=>(nomatch hp),fun p hp=>(nomatch hp),fun a _ c=>c.elim fun p hp=>(nomatch hp.1),fun a h=>h,fun a h=>by rw [hb] at h; exact h,fun p hp=>(nomatch hp),fun n o p h=>(nomatch h)⟩ rs
  fun d Y v k a r=>by subst k; cases (r:v = .bool true); exact q Y.s (fun b o e=>a.kp b o e (fun c=>c.elim fun p hp=>nomatch hp.1) id) a.gens a.os
theorem P3.elimH {w:Params} {h:Heap} {H:Params→Frag} {p:Prop} (tp:P3.Top H) (k:(H w).In h) (f:∀ H:Params→Frag,P3.Top H→(H w).In h→p):p:=f H tp k
theorem law3:PySem.Challenge.rw_nz0397_03.Holds:=by
 w_on
 o_law
 k_head
 (case hw=>w_witness2)
 k_fill
 intro w s₀ s₁ mg mb G Y fa o pm cd doc dV kV ho hd hcd hD hmg hg args vals as hpre hlay hrd hwl hlo
 refine P3.elimH ?tp (kIn_of Y) ?_
 (case tp=>exact ⟨fun p ob=>by kernel_rfl!,fun p ob=>by kernel_rfl!,fun p ob=>by kernel_rfl!,fun p ob=>by kernel_rfl!,fun p ob=>by kernel_rfl!,fun p ob=>by kernel_rfl!,fun p ob=>by kernel_rfl!,fun p ob=>by kernel_rfl!,fun p ob=>by kernel_rfl!,fun p ob=>by kernel_rfl!⟩)
 intro Hp tp KX
 have hmg0:=hmg
 have X:=(Ground.X G).1
 have V:=(Ground.X G).2
 refine Ground.open G ?_
 intro T B D TE TW
 wrow_args hpre hlay hrd hwl hlo
 rename_i xs hs hlay0 hL0 hr0 hl2 as1 as2 a vs1 as3 hL hra hw1 hr1 hI hr2 hlen htr
 clear hd hD ho hcd Y X V D
 obtain ⟨vs,hget,hall⟩:=list_well hw1
 obtain ⟨N,hN,hev⟩:=P3.hC xs (by omega)
 obtain ⟨ob,hob⟩:∃ ob,s₁.heap.get? builtinsNs = some ob:=by
  obtain ⟨o,es,ep,ho',_⟩:=T.b
  exact ⟨o,ho'⟩
 have X0:(P3.K Hp w.params ob).In s₁.heap:=fun b o e=>by
  rw [List.lookup_cons] at e
  split at e
  ·rename_i hb; cases e; rw [eq_of_beq hb]; exact hob
  ·exact KX b o e
 have T':=topRead_of T
 have bt:∀ x v,(x == ("__name__":Str)) = false→bootBuiltins x = some v→nsIn (P3.K Hp w.params ob) builtinsNs x = some (some v):=fun x v hn e=>bi_of hob T.b ((T'.builtins x (beq_eq_false_iff_ne.mp hn)).trans e)
 have h470:((P3.K Hp w.params ob).lookup 470).isSome = true:=tp.fn w.params ob
 obtain ⟨oc,hoc⟩:=Option.isSome_iff_exists.mp h470
 have tok:=tok_go (D:=⟨Challenge.rw_nz0397_03.row.prog,w,P3.K Hp w.params ob,s₁.heap,P3.fa,P3.ca,3⟩) (P:=P3.prog) (fun n T' ht=>P3.go tp (ob:=ob) rfl rfl rfl rfl rfl (bt _ _ (by decide +kernel) (by first | boot_by_name | rfl | kernel_rfl))
  ⟨P3.Facts tp (ob:=ob) rfl rfl rfl rfl rfl X0 T.nolimit,ht,Nat.le_refl _,fun q hq=>⟨eq_of (List.all_eq_true.mp (tp.noGlob w.params ob) _ hq),bt _ _ (of_not (List.all_eq_true.mp P3.biNe _ hq)) (eq_of (List.all_eq_true.mp P3.boot _ hq))⟩,ok_sorted,ss_ok (Nat.le_refl _),sl_ok⟩) N
 have efa:fa = 711:=by
  have e1:nsIn (P3.K Hp w.params ob) mainGlobals "law" = some (some (.ref 711)):=tp.law w.params ob
  have e2:=mg_of X0 T.g e1
  have e3:mg "law" = some (.ref fa):=hmg0
  rw [e2] at e3
  cases e3; rfl
 subst efa
 clear hmg hmg0
 refine start_ok (D:=⟨Challenge.rw_nz0397_03.row.prog,w,P3.K Hp w.params ob,s₁.heap,P3.fa,P3.ca,3⟩) (f:=86) rfl ⟨470,by decide,by rw [X0 _ _ hoc]; rfl⟩ tok hev ⟨_,_,rfl,⟨a,vs.toArray,rfl,by show (s₁.heap.get? a).isSome = true; rw [hget]; rfl,⟨_,hget⟩,ints_rv hall⟩,rfl⟩ ⟨?_,?_,rfl⟩ fun s' hk hg' hos=>?_
 ·show 301 + 5 * N + min 0 2 + 2 < 1000; omega
 ·show 4 + 100 * N + 0 < 9900; omega
 ·refine GoodW.toG ⟨.inl ⟨.bool true,.bool true,[],rfl,?_,.bool true,?_,?_⟩,hk,hos,by rw [hg',hg]⟩
  ·intro cls; rfl
  ·kernel_rfl
  ·exact fun _=>⟨List.nodup_nil,fun a ha=>nomatch ha⟩
end Mine.Internal
theorem PySem.Challenge.cw_nz0397_03_holds : PySem.Challenge.rw_nz0397_03.Holds :=
  Mine.Internal.law3
