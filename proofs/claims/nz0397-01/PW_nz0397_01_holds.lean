import PyProof.Rows.All
import Wide.All
import OpenK.AllK
import Wide.FinOn
import Lean
import PySem.Challenge.RW_nz0397_01
set_option autoImplicit false
set_option linter.unusedVariables false
set_option genSizeOf false
set_option genInjectivity false
set_option maxRecDepth 100000
set_option maxHeartbeats 8000000
set_option Elab.async true
set_option tactic.hygienic false
set_option hygiene false
namespace Mine.Internal
inductive V where
 | none | bool (b:Bool) | int (i:Int) | str (s:Nat)
 | tup (l:List V) | list (l:List V) | dict (l:List (V × V)) | loc (n:Nat)
noncomputable def encL (l:List Nat):Nat:=l.foldl (fun a c=>a * 2097152 + (c + 1)) 0
noncomputable def decL:Nat→Nat→List Nat
 | 0,_=>[]
 | k + 1,n=>if n = 0 then [] else decL k (n / 2097152)++[n % 2097152 - 1]
noncomputable def shortS (s:Nat):Bool:=decide ((decL 1001 s).length≤1000)
noncomputable def catS (a b:Nat):Nat:=(decL 1001 b).foldl (fun a c=>a * 2097152 + (c + 1)) a
noncomputable def digs (n:Nat):List Nat:=(Nat.toDigits 10 n).map Char.toNat
mutual
noncomputable def V.beq:V→V→Bool
 | .none,.none=>true
 | .bool a,.bool b=>a == b
 | .int a,.int b=>decide (a = b)
 | .str a,.str b=>decide (a = b)
 | .tup a,.tup b=>beqs a b
 | .list a,.list b=>beqs a b
 | .dict a,.dict b=>beqp a b
 | .loc a,.loc b=>decide (a = b)
 | _,_=>false
noncomputable def beqs:List V→List V→Bool
 | [],[]=>true
 | a :: r,b :: t=>V.beq a b && beqs r t
 | _,_=>false
noncomputable def beqp:List (V × V)→List (V × V)→Bool
 | [],[]=>true
 | (a,c) :: r,(b,d) :: t=>V.beq a b && (V.beq c d && beqp r t)
 | _,_=>false
end
noncomputable def eqOk:Nat→V→Bool
 | _,.none=>true
 | _,.int _=>true
 | _,.str _=>true
 | n + 1,.tup l=>l.all (eqOk n)
 | n + 1,.list l=>l.all (eqOk n)
 | _,_=>false
noncomputable def isBool:V→Bool
 | .bool _=>true
 | _=>false
noncomputable def pyEq (a b:V):Option Bool :=
 if (eqOk 24 a && eqOk 24 b) || (isBool a && isBool b) then some (V.beq a b) else none
noncomputable def pyIn (x:V) (l:List V):Option Bool:=if l.all (fun y=>(pyEq y x).isSome) then some (l.any fun y=>V.beq y x) else none
noncomputable def V.truthy:V→Option Bool
 | .bool b=>some b
 | _=>Option.none
inductive SObj where
 | inst (c:Nat) (fs:List (Nat × V))
 | dict (es:List (V × V))
 | list (l:List V)
noncomputable abbrev St:=List SObj
inductive Bop where | add | sub | mul | mod
inductive Cop where | eq | ne | lt | gt | ge | in_ | notIn
inductive Mth where | app | ext | rem
inductive Bi where
 | len | list | tuple | dict | sorted | sortedSet | max
set_option genCtorIdx false in
inductive Tg where
 | one (i:Nat)
 | many (is:List Nat)
mutual
inductive X where
 | cst (v:V)
 | var (i:Nat)
 | glob (k:Nat)
 | tup (es:List X)
 | list (es:List X)
 | dict (kvs:List X)
 | mut (e:X)
 | attr (e:X) (f:Nat)
 | item (e i:X)
 | sidx (cs:List V) (i:X)
 | sl (e lo hi:X)
 | bin (o:Bop) (a b:X)
 | and (es:List X)
 | or (es:List X)
 | cmp (o:Cop) (a b:X)
 | ite (c a b:X)
 | call (f:Nat) (args:List X)
 | meth (o:X) (m:Nat) (args:List X)
 | new (c:Nat) (args:List X)
 | bi (b:Bi) (args:List X)
 | get (e:X) (args:List X)
 | comp (c:C)
 | fstr (es:List X)
 | not (e:X)
 | rev (e:X)
 | isN (e:X)
 | sfind (e:X)
 | emp (e:X)
 | cat (a b:X)
inductive C where
 | elt (e:X)
 | gen (t:Tg) (s:Src) (ifs:List X) (r:C)
inductive Src where
 | val (e:X)
 | range (e:X)
 | enum (e:X)
end
set_option genCtorIdx false in
inductive Tgt where
 | name (i:Nat)
 | attr (o:X) (f:Nat)
 | item (o k:X)
set_option genCtorIdx false in
inductive S where
 | asg (t:Tgt) (e:X)
 | asgT (is:List Nat) (e:X)
 | asgTs (w:Bool) (is:List Nat) (es:List X)
 | mth (m:Mth) (o e:X)
 | expr (e:X)
 | ite (c:X) (a b:List S)
 | for_ (t:Tg) (s:Src) (body:List S)
 | while_ (c:X) (body:List S)
 | ret (e:X)
 | raise
structure FDef where
 params:Nat
 slots:Nat
 body:List S
structure Prog where
 fn:Nat→Option FDef
 meth:Nat→Nat→Option Nat
 init:Nat→Option Nat
 glob:Nat→Option V
noncomputable abbrev REnv:=List (Option V)
noncomputable def capL:Nat:=1000000
noncomputable def getA (fs:List (Nat × V)) (f:Nat):Option V:=fs.lookup f
noncomputable def setA:List (Nat × V)→Nat→V→List (Nat × V)
 | [],f,v=>[(f,v)]
 | (g,w) :: r,f,v=>if g = f then (g,v) :: r else (g,w) :: setA r f v
noncomputable def keyOk:V→Bool
 | .str _=>true
 | _=>false
noncomputable def dget (k:V):List (V × V)→Option V
 | []=>none
 | (a,b) :: r=>if V.beq a k then some b else dget k r
noncomputable def dset (k v:V):List (V × V)→List (V × V)
 | []=>[(k,v)]
 | (a,b) :: r=>if V.beq a k then (a,v) :: r else (a,b) :: dset k v r
noncomputable def pairUp:List V→List (V × V)→Option (List (V × V))
 | [],d=>some d
 | k :: v :: r,d=>if keyOk k then pairUp r (dset k v d) else none
 | _,_=>none
noncomputable def idx (n:Nat) (i:Int):Option Nat :=
 if 0≤i then (if i < n∧i≤1000000 then some i.toNat else none) else (if 0≤n + i∧-1000000≤i then some (n + i).toNat else none)
noncomputable def clip (n:Nat) (i:Int):Nat :=
 (max 0 (min (if i < 0 then i + n else i) n)).toNat
noncomputable def rowsI:List (List Int):=(List.range 4).flatMap fun (a:Nat)=>[Int.ofNat a] :: (List.range 4).flatMap fun (b:Nat)=>[Int.ofNat a,Int.ofNat b] :: (List.range 4).map fun (c:Nat)=>[Int.ofNat a,Int.ofNat b,Int.ofNat c]
noncomputable def rowsJ:List (List Int):=(List.range 4).flatMap fun (a:Nat)=>[Int.ofNat a] :: (List.range 4).map fun (b:Nat)=>[Int.ofNat a,Int.ofNat b]
noncomputable def rowV (k:List Int):V:=.tup (k.map .int)
noncomputable def rowOk (r:V):Bool:=rowsI.any fun k=>V.beq r (rowV k)
noncomputable def rowOj (r:V):Bool:=rowsJ.any fun k=>V.beq r (rowV k)
noncomputable def nodV:List V→Bool
 | []=>true
 | x :: r=>!(r.any (V.beq x)) && nodV r
noncomputable def sortB (l:List V):List V:=(rowsI.map rowV).filter fun r=>l.any fun x=>V.beq x r
noncomputable def setMany:List Nat→List V→REnv→REnv
 | i :: is,v :: vs,ρ=>setMany is vs (ρ.set i (some v))
 | _,_,ρ=>ρ
noncomputable def bindTg (ρ:REnv):Tg→V→Option REnv
 | .one i,v=>some (ρ.set i (some v))
 | .many is,.tup l=>if is.length = l.length then some (setMany is l ρ) else none
 | .many _,_=>none
noncomputable def Tg.slots:Tg→List Nat
 | .one i=>[i]
 | .many is=>is
noncomputable def C.slots:C→List Nat
 | .elt _=>[]
 | .gen t _ _ r=>t.slots++r.slots
noncomputable def clr (is:List Nat) (ρ:REnv):REnv:=is.foldl (fun ρ i=>ρ.set i none) ρ
noncomputable def locL:Option SObj→Option (List V)
 | some (.list l)=>some l
 | _=>none
noncomputable def locD:Option SObj→Option (List (V × V))
 | some (.dict l)=>some l
 | _=>none
noncomputable def asList (σ:St):V→Option (List V)
 | .tup l=>some l
 | .list l=>some l
 | .loc n=>locL σ[n]?
 | _=>none
noncomputable def asListL:V→Option (List V)
 | .list l=>some l
 | _=>none
noncomputable def locOf:V→Option Nat
 | .loc n=>some n
 | _=>none
noncomputable def asDict (σ:St):V→Option (List (V × V))
 | .dict l=>some l
 | .loc n=>locD σ[n]?
 | _=>none
noncomputable def still (g:Option Nat) (l:List V) (σ:St):Prop:=match g with
 | none=>True
 | some n=>σ[n]? = some (.list l)
noncomputable def stO (l:List V):Option SObj→Bool
 | some (.list k)=>beqs k l
 | _=>false
noncomputable def stillB (g:Option Nat) (l:List V) (σ:St):Bool:=match g with
 | none=>true
 | some n=>stO l σ[n]?
noncomputable def asLst (σ:St):V→Option (List V)
 | .list l=>some l
 | .loc n=>locL σ[n]?
 | _=>none
noncomputable def okLen (l:List V):Option (List V):=if l.length≤capL then some l else none
noncomputable def isNv:V→Bool
 | .none=>true
 | _=>false
noncomputable def sfindV (s:Nat):Option V:=if s = 66 then some (.int 0) else if s = 67 then some (.int 1) else if s = 68 then some (.int 2) else if s = 84 then some (.int 3) else none
noncomputable def sfindE:V→Option V
 | .str s=>sfindV s
 | _=>none
noncomputable def asInt:V→Option Int
 | .int i=>some i
 | _=>none
noncomputable def asTup:V→Option (List V)
 | .tup l=>some l
 | _=>none
noncomputable def one (l:List V) (f:V→Option V):Option V:=match l with
 | [v]=>f v
 | _=>none
noncomputable def lenE (σ:St) (v:V):Option V:=match v with
 | .dict l=>if l.length≤capL then some (.int l.length) else none
 | v=>((asList σ v).bind okLen).map fun l=>.int l.length
noncomputable def dictE (σ:St) (v:V):Option V:=(asDict σ v).bind fun l=>if l.length≤capL then some (.dict l) else none
noncomputable def getS (l:List (V × V)) (k v:V):Option V:=match k with
 | .str s=>some ((dget (.str s) l).getD v)
 | _=>none
noncomputable def getL (l:List (V × V)) (a:List V):Option V:=match a with
 | [k,v]=>getS l k v
 | _=>none
noncomputable def biE (σ:St) (b:Bi) (l:List V):Option V:=match b with
 | .len=>one l (lenE σ)
 | .list=>one l fun v=>((asList σ v).bind okLen).map .list
 | .tuple=>one l fun v=>((asList σ v).bind okLen).map .tup
 | .dict=>one l (dictE σ)
 | .sorted=>one l fun v=>(asLst σ v).bind fun l=>if ((l.all rowOk && nodV l) && decide (l.length < 64)) = true then some (.list (sortB l)) else none
 | .sortedSet=>one l fun v=>(asListL v).bind fun l=>if l.all rowOj = true∧l.length≤capL then some (.list (sortB l)) else none
 | .max=>match l with
  | [a,b]=>(asInt a).bind fun a=>(asInt b).map fun b=>.int (if a < b then b else a)
  | _=>none
noncomputable def addE (σ:St) (a b:V):Option V:=match a with
 | .int a=>(asInt b).map fun b=>.int (a + b)
 | .tup a=>(asTup b).bind fun b=>(okLen (a++b)).map .tup
 | a=>(asLst σ a).bind fun a=>(asLst σ b).bind fun b=>(okLen (a++b)).map .list
noncomputable def binE (σ:St) (o:Bop) (a b:V):Option V:=match o with
 | .add=>addE σ a b
 | .sub=>(asInt a).bind fun a=>(asInt b).map fun b=>.int (a - b)
 | .mul=>(asInt a).bind fun a=>(asInt b).bind fun b=>if a.natAbs≤1000000∧b.natAbs≤1000000 then some (.int (a * b)) else none
 | .mod=>(asInt a).bind fun a=>(asInt b).bind fun b=>if 0 < b then some (.int (a % b)) else none
noncomputable def inD (k:V) (l:List (V × V)):Option Bool:=if keyOk k then some (dget k l).isSome else none
noncomputable def inE (σ:St) (k d:V):Option Bool:=match asList σ d with
 | some l=>pyIn k l
 | none=>(asDict σ d).bind (inD k)
noncomputable def cmpI (a b:V) (f:Int→Int→Bool):Option Bool:=(asInt a).bind fun a=>(asInt b).map fun b=>f a b
noncomputable def cmpE (σ:St) (o:Cop) (a b:V):Option Bool:=match o with
 | .eq=>pyEq a b
 | .ne=>(pyEq a b).map (!·)
 | .lt=>cmpI a b fun a b=>decide (a < b)
 | .gt=>cmpI a b fun a b=>decide (b < a)
 | .ge=>cmpI a b fun a b=>decide (b≤a)
 | .in_=>inE σ a b
 | .notIn=>(inE σ a b).map (!·)
noncomputable def itemE (σ:St) (o i:V):Option V:=match i with
 | .int k=>(asList σ o).bind fun l=>(idx l.length k).bind fun j=>l[j]?
 | .str s=>(asDict σ o).bind fun d=>dget (.str s) d
 | _=>none
noncomputable def strOf:V→Option Nat
 | .str s=>if shortS s then some s else none
 | .int i=>if (0≤i∧i≤1000000)∧shortS (encL (digs i.toNat)) = true then some (encL (digs i.toNat)) else none
 | _=>none
noncomputable def methO (P:Prog) (k n:Nat):Option SObj→Option (Nat × Nat)
 | some (.inst c fs)=>if (getA fs n).isSome then none else (P.meth c n).map fun f=>(k,f)
 | _=>none
noncomputable def findMeth (P:Prog) (v:V) (n:Nat) (σ:St):Option (Nat × Nat):=match v with
 | .loc k=>methO P k n σ[k]?
 | _=>none
set_option genCtorIdx false in
inductive Out where
 | next (ρ:REnv) (σ:St)
 | ret (v:V) (σ:St)
noncomputable def setObjO (k v:V) (n:Nat) (σ:St):Option SObj→Option St
 | some (.list l)=>(asInt k).bind fun i=>if (0≤i∧i.toNat < l.length)∧l.length≤capL then some (σ.set n (.list (l.set i.toNat v))) else none
 | some (.dict d)=>if keyOk k && decide (d.length≤capL) then some (σ.set n (.dict (dset k v d))) else none
 | _=>none
noncomputable def setObj (o:V) (k v:V) (σ:St):Option St:=match o with
 | .loc n=>setObjO k v n σ σ[n]?
 | _=>none
noncomputable def setFldO (f:Nat) (v:V) (n:Nat) (σ:St):Option SObj→Option St
 | some (.inst c fs)=>if decide (fs.length≤1000) then some (σ.set n (.inst c (setA fs f v))) else none
 | _=>none
noncomputable def setFld (o:V) (f:Nat) (v:V) (σ:St):Option St:=match o with
 | .loc n=>setFldO f v n σ σ[n]?
 | _=>none
noncomputable def isS:V→Bool
 | .str _=>true
 | _=>false
noncomputable def removeV (v:V) (l:List V):Option (List V):=if l.all isS && isS v && decide (l.length≤capL) then (l.findIdx? fun y=>V.beq y v).map fun j=>l.eraseIdx j else none
noncomputable def mthO (σ:St) (v:V) (n:Nat) (m:Mth):Option SObj→Option St
 | some (.list l)=>match m with
  | .app=>(okLen (l++[v])).map fun l=>σ.set n (.list l)
  | .ext=>(asList σ v).bind fun k=>(okLen (l++k)).map fun l=>σ.set n (.list l)
  | .rem=>(removeV v l).map fun l=>σ.set n (.list l)
 | _=>none
noncomputable def conO:Option SObj→Bool
 | some (.list _)=>true
 | _=>false
noncomputable def isCon (w:V) (σ:St):Bool:=match w with
 | .loc n=>conO σ[n]?
 | _=>false
noncomputable def mthE (m:Mth) (w v:V) (σ:St):Option St:=match w with
 | .loc n=>mthO σ v n m σ[n]?
 | _=>none
noncomputable def objOf:V→Option SObj
 | .list l=>some (.list l)
 | .dict l=>some (.dict l)
 | _=>none
noncomputable def enter (d:FDef) (args:List V):REnv:=args.map some++List.replicate (d.slots - args.length) none
noncomputable def oK {α:Type}:Option α→(α→Prop)→Prop
 | some a,k=>k a
 | none,_=>False
noncomputable def bK (b:Bool) (p:Prop):Prop:=match b with
 | true=>p
 | false=>False
noncomputable def iK (b:Bool) (p q:Prop):Prop:=match b with
 | true=>p
 | false=>q
noncomputable def fldO (f:Nat):Option SObj→Option V
 | some (.inst _ fs)=>getA fs f
 | _=>none
noncomputable def attrE (v:V) (f:Nat) (σ:St):Option V:=match v with
 | .loc n=>fldO f σ[n]?
 | _=>none
noncomputable def sidxE (cs:List V) (v:V):Option V:=(asInt v).bind fun k=>(idx cs.length k).bind fun j=>cs[j]?
noncomputable def cut {α:Type} (l:List α) (lo hi:Option Int):List α:=(l.take (hi.elim l.length (clip l.length))).drop (lo.elim 0 (clip l.length))
noncomputable def cutE (v:V) (lo hi:Option Int):Option V:=match v with
 | .list l=>if l.length≤capL then some (.list (cut l lo hi)) else none
 | .tup l=>if l.length≤capL then some (.tup (cut l lo hi)) else none
 | _=>none
noncomputable def endE:V→Option (Option Int)
 | .none=>some none
 | .int i=>some (some i)
 | _=>none
noncomputable def sliceE (v a h:V):Option V:=(endE a).bind fun a=>(endE h).bind fun h=>cutE v a h
noncomputable def rangeE (v:V):Option (List V):=(asInt v).bind fun n=>if -1000000≤n∧n≤1000000 then some ((List.range n.toNat).map fun (k:Nat)=>V.int k) else none
structure TabK where
 call:Nat→List V→St→(V→St→Prop)→Prop
noncomputable def kLoopC0 (st:St→Bool) (bnd:V→Option REnv) (ifs:REnv→St→(Bool→St→Prop)→Prop) (body:List V→REnv→St→(List V→St→Prop)→Prop):List V→List V→St→(List V→St→Prop)→Prop
 | [],ds,σ,k=>bK (st σ) (k ds σ)
 | v :: r,ds,σ,k=>bK (st σ) (oK (bnd v) fun ρ=>ifs ρ σ fun t σ=>iK t (body ds ρ σ fun ds σ=>kLoopC0 st bnd ifs body r ds σ k) (kLoopC0 st bnd ifs body r ds σ k))
@[irreducible] noncomputable def kLoopC (st:St→Bool) (bnd:V→Option REnv) (ifs:REnv→St→(Bool→St→Prop)→Prop) (body:List V→REnv→St→(List V→St→Prop)→Prop) (l ds:List V) (σ:St) (k:List V→St→Prop):Prop:=kLoopC0 st bnd ifs body l ds σ k
section
variable (P:Prog) (T:TabK)
mutual
noncomputable def kE:X→REnv→St→(V→St→Prop)→Prop
 | .cst v,_,σ,k=>k v σ
 | .var i,ρ,σ,k=>oK ((ρ[i]?).bind id) fun v=>k v σ
 | .glob g,_,σ,k=>oK (P.glob g) fun v=>k v σ
 | .tup es,ρ,σ,k=>kEs es ρ σ fun l σ=>k (.tup l) σ
 | .list es,ρ,σ,k=>kEs es ρ σ fun l σ=>k (.list l) σ
 | .dict es,ρ,σ,k=>kEs es ρ σ fun l σ=>oK (pairUp l []) fun d=>k (.dict d) σ
 | .mut e,ρ,σ,k=>kE e ρ σ fun v σ=>oK (objOf v) fun o=>k (.loc σ.length) (σ++[o])
 | .attr e f,ρ,σ,k=>kE e ρ σ fun v σ=>oK (attrE v f σ) fun w=>k w σ
 | .item e i,ρ,σ,k=>kE e ρ σ fun a σ=>kE i ρ σ fun b σ=>oK (itemE σ a b) fun w=>k w σ
 | .sidx cs i,ρ,σ,k=>kE i ρ σ fun b σ=>oK (sidxE cs b) fun w=>k w σ
 | .sl e l h,ρ,σ,k=>kE e ρ σ fun a σ=>kE l ρ σ fun b σ=>kE h ρ σ fun c σ=>oK (sliceE a b c) fun w=>k w σ
 | .bin o a b,ρ,σ,k=>kE a ρ σ fun x σ=>kE b ρ σ fun y σ=>oK (binE σ o x y) fun w=>k w σ
 | .and es,ρ,σ,k=>kAnd es ρ σ k
 | .or es,ρ,σ,k=>kOr es ρ σ k
 | .cmp o a b,ρ,σ,k=>kE a ρ σ fun x σ=>kE b ρ σ fun y σ=>oK (cmpE σ o x y) fun t=>k (.bool t) σ
 | .ite c a b,ρ,σ,k=>kE c ρ σ fun t σ=>oK t.truthy fun t=>iK t (kE a ρ σ k) (kE b ρ σ k)
 | .call f as,ρ,σ,k=>kEs as ρ σ fun l σ=>T.call f l σ k
 | .meth o n as,ρ,σ,k=>kE o ρ σ fun v σ=>oK (findMeth P v n σ) fun kf=>kEs as ρ σ fun l σ=>T.call kf.2 (.loc kf.1 :: l) σ k
 | .new c as,ρ,σ,k=>kEs as ρ σ fun l σ=>oK (P.init c) fun f=>T.call f (.loc σ.length :: l) (σ++[.inst c []]) fun r σ'=>bK (V.beq r .none) (k (.loc σ.length) σ')
 | .bi b as,ρ,σ,k=>kEs as ρ σ fun l σ=>oK (biE σ b l) fun w=>k w σ
 | .get e as,ρ,σ,k=>kE e ρ σ fun d σ=>bK (asDict σ d).isSome (kEs as ρ σ fun l σ=>oK (asDict σ d) fun d=>oK (getL d l) fun w=>k w σ)
 | .comp c,ρ,σ,k=>kC c [] (clr c.slots ρ) σ fun l σ=>k (.list l) σ
 | .fstr es,ρ,σ,k=>kFs es 0 ρ σ fun z σ=>k (.str z) σ
 | .not e,ρ,σ,k=>kE e ρ σ fun v σ=>oK v.truthy fun b=>k (.bool (!b)) σ
 | .rev e,ρ,σ,k=>kE e ρ σ fun v σ=>oK (asListL v) fun l=>bK (decide (l.length≤capL)) (k (.list l.reverse) σ)
 | .isN e,ρ,σ,k=>kE e ρ σ fun v σ=>k (.bool (isNv v)) σ
 | .emp e,ρ,σ,k=>kE e ρ σ fun v σ=>oK (asListL v) fun l=>k (.bool l.isEmpty) σ
 | .cat a b,ρ,σ,k=>kE a ρ σ fun x σ=>kE b ρ σ fun y σ=>oK (asLst σ x) fun l=>oK (asLst σ y) fun k'=>bK (decide ((l++k').length≤capL)) (k (.list (l++k')) σ)
 | .sfind e,ρ,σ,k=>kE e ρ σ fun v σ=>oK (sfindE v) fun w=>k w σ
noncomputable def kEs:List X→REnv→St→(List V→St→Prop)→Prop
 | [],_,σ,k=>k [] σ
 | e :: r,ρ,σ,k=>kE e ρ σ fun v σ=>kEs r ρ σ fun l σ=>k (v :: l) σ
noncomputable def kFs:List X→Nat→REnv→St→(Nat→St→Prop)→Prop
 | [],z,_,σ,k=>bK (shortS z) (k z σ)
 | e :: r,z,ρ,σ,k=>kE e ρ σ fun v σ=>oK (strOf v) fun y=>bK (shortS (catS z y)) (kFs r (catS z y) ρ σ k)
noncomputable def kAnd:List X→REnv→St→(V→St→Prop)→Prop
 | [],_,_,_=>False
 | e :: r,ρ,σ,k=>kE e ρ σ fun v σ=>iK r.isEmpty (k v σ) (oK v.truthy fun t=>iK t (kAnd r ρ σ k) (k (.bool false) σ))
noncomputable def kOr:List X→REnv→St→(V→St→Prop)→Prop
 | [],_,_,_=>False
 | e :: r,ρ,σ,k=>kE e ρ σ fun v σ=>iK r.isEmpty (k v σ) (oK v.truthy fun t=>iK t (k (.bool true) σ) (kOr r ρ σ k))
noncomputable def kIfs:List X→REnv→St→(Bool→St→Prop)→Prop
 | [],_,σ,k=>k true σ
 | e :: r,ρ,σ,k=>kE e ρ σ fun v σ=>oK v.truthy fun t=>iK t (kIfs r ρ σ k) (k false σ)
noncomputable def kSrc:Src→REnv→St→(List V × Option Nat→St→Prop)→Prop
 | .val e,ρ,σ,k=>kE e ρ σ fun v σ=>oK (asList σ v) fun l=>k (l,locOf v) σ
 | .range e,ρ,σ,k=>kE e ρ σ fun v σ=>oK (rangeE v) fun l=>k (l,none) σ
 | .enum e,ρ,σ,k=>kE e ρ σ fun v σ=>oK (asListL v) fun l=>k (((List.range l.length).zip l |>.map fun (q:Nat × V)=>V.tup [.int q.1,q.2]),none) σ
noncomputable def kC:C→List V→REnv→St→(List V→St→Prop)→Prop
 | .elt e,ds,ρ,σ,k=>kE e ρ σ fun v σ=>bK (decide (ds.length≤capL)) (k (ds++[v]) σ)
 | .gen t s ifs r,ds,ρ,σ,k=>kSrc s ρ σ fun lg σ=>kLoopC (stillB lg.2 lg.1) (bindTg ρ t) (fun ρ σ k=>kIfs ifs ρ σ k) (fun ds ρ σ k=>kC r ds ρ σ k) lg.1 ds σ k
end
end
noncomputable def kLoopS (st:St→Bool) (bnd:V→REnv→Option REnv) (body:REnv→St→(Out→Prop)→Prop):List V→REnv→St→(Out→Prop)→Prop
 | [],ρ,σ,k=>bK (st σ) (k (.next ρ σ))
 | v :: r,ρ,σ,k=>bK (st σ) (oK (bnd v ρ) fun ρ=>body ρ σ fun o=>match o with
  | .next ρ σ=>kLoopS st bnd body r ρ σ k
  | .ret v σ=>k (.ret v σ))
noncomputable def kWhile0 (c:REnv→St→(Bool→St→Prop)→Prop) (body:REnv→St→(Out→Prop)→Prop):Nat→REnv→St→(Out→Prop)→Prop
 | 0,_,_,_=>False
 | n + 1,ρ,σ,k=>c ρ σ fun t σ=>iK t (body ρ σ fun o=>match o with
  | .next ρ σ=>kWhile0 c body n ρ σ k
  | .ret v σ=>k (.ret v σ)) (k (.next ρ σ))
@[irreducible] noncomputable def kWhile (c:REnv→St→(Bool→St→Prop)→Prop) (body:REnv→St→(Out→Prop)→Prop) (n:Nat) (ρ:REnv) (σ:St) (k:Out→Prop):Prop:=kWhile0 c body n ρ σ k
noncomputable def rvs {α:Type} (w:Bool) (l:List α):List α:=match w with
 | true=>l.reverse
 | false=>l
section
variable (P:Prog) (T:TabK)
noncomputable def kAsg (e:X) (ρ:REnv) (σ:St) (k:Out→Prop):Tgt→Prop
 | .name i=>kE P T e ρ σ fun v σ=>k (.next (ρ.set i (some v)) σ)
 | .attr o f=>kE P T e ρ σ fun v σ=>kE P T o ρ σ fun w σ=>oK (setFld w f v σ) fun σ=>k (.next ρ σ)
 | .item o i=>kE P T e ρ σ fun v σ=>kE P T o ρ σ fun w σ=>kE P T i ρ σ fun j σ=>oK (setObj w j v σ) fun σ=>k (.next ρ σ)
noncomputable def kSto (v:V) (ρ:REnv) (σ:St) (k:REnv→St→Prop):Tgt→Prop
 | .name i=>k (ρ.set i (some v)) σ
 | .attr o f=>kE P T o ρ σ fun w σ=>oK (setFld w f v σ) fun σ=>k ρ σ
 | .item o i=>kE P T o ρ σ fun w σ=>kE P T i ρ σ fun j σ=>oK (setObj w j v σ) fun σ=>k ρ σ
mutual
noncomputable def kS:S→REnv→St→(Out→Prop)→Prop
 | .asg t e,ρ,σ,k=>kAsg P T e ρ σ k t
 | .asgT is e,ρ,σ,k=>kE P T e ρ σ fun v σ=>oK (bindTg ρ (.many is) v) fun ρ=>k (.next ρ σ)
 | .asgTs w is es,ρ,σ,k=>kEs P T es ρ σ fun l σ=>bK (decide (is.length = l.length)) (k (.next (setMany (rvs w is) (rvs w l) ρ) σ))
 | .mth m o e,ρ,σ,k=>kE P T o ρ σ fun w σ=>bK (isCon w σ) (kE P T e ρ σ fun v σ=>oK (mthE m w v σ) fun σ=>k (.next ρ σ))
 | .expr e,ρ,σ,k=>kE P T e ρ σ fun _ σ=>k (.next ρ σ)
 | .ite c a b,ρ,σ,k=>kE P T c ρ σ fun t σ=>oK t.truthy fun t=>iK t (kSs a ρ σ k) (kSs b ρ σ k)
 | .for_ t s body,ρ,σ,k=>kSrc P T s ρ σ fun lg σ=>kLoopS (stillB lg.2 lg.1) (fun v ρ=>bindTg ρ t v) (fun ρ σ k=>kSs body ρ σ k) lg.1 ρ σ k
 | .while_ c body,ρ,σ,k=>kWhile (fun ρ σ k=>kE P T c ρ σ fun t σ=>oK t.truthy fun t=>k t σ) (fun ρ σ k=>kSs body ρ σ k) 5000 ρ σ k
 | .ret e,ρ,σ,k=>kE P T e ρ σ fun v σ=>k (.ret v σ)
 | .raise,_,_,_=>False
noncomputable def kSs:List S→REnv→St→(Out→Prop)→Prop
 | [],ρ,σ,k=>k (.next ρ σ)
 | s :: r,ρ,σ,k=>kS s ρ σ fun o=>match o with
  | .next ρ σ=>kSs r ρ σ k
  | .ret v σ=>k (.ret v σ)
end
end
noncomputable def outK (k:V→St→Prop):Out→Prop
 | .next _ σ=>k .none σ
 | .ret v σ=>k v σ
noncomputable def callK (P:Prog):Nat→Nat→List V→St→(V→St→Prop)→Prop
 | 0,_,_,_,_=>False
 | n + 1,f,args,σ,k=>oK (P.fn f) fun d=>bK (decide (args.length = d.params)) (kSs P ⟨callK P n⟩ d.body (enter d args) σ (outK k))
end Mine.Internal
namespace Mine.Internal
open PySem PySem.W PyProof.Rows
noncomputable abbrev PV:=PySem.Value
noncomputable abbrev PE:=PySem.Expr
noncomputable abbrev PEnv:=PySem.Env
noncomputable def encS (x:Str):Nat:=encL x.cps.toList
noncomputable def strOk (x:Str):Bool:=x.cps.toList.all fun c=>decide (c < 1114112)
theorem encL_snoc (l:List Nat) (c:Nat):encL (l++[c]) = encL l * 2097152 + (c + 1):=by
 delta encL; rw [List.foldl_append,List.foldl_cons,List.foldl_nil]
theorem dec_step {a c:Nat} (h:c < 2097151):(a * 2097152 + (c + 1)) / 2097152 = a∧(a * 2097152 + (c + 1)) % 2097152 - 1 = c:=by
 have h:c + 1 < 2097152:=Nat.succ_lt_succ h
 rw [Nat.add_comm (a * 2097152)]
 exact ⟨by rw [Nat.add_mul_div_right _ _ (by decide),Nat.div_eq_of_lt h,Nat.zero_add],by rw [Nat.add_mul_mod_self_right,Nat.mod_eq_of_lt h,Nat.add_sub_cancel]⟩
theorem enc_step {a b c d:Nat} (hc:c < 2097151) (hd:d < 2097151) (h:a * 2097152 + (c + 1) = b * 2097152 + (d + 1)):a = b∧c = d :=
 have x:=dec_step (a:=a) hc
 have y:=dec_step (a:=b) hd
 ⟨x.1.symm.trans ((congrArg (· / 2097152) h).trans y.1),x.2.symm.trans ((congrArg (· % 2097152 - 1) h).trans y.2)⟩
theorem enc_rev:∀ (a b:List Nat),(∀ c∈a,c < 2097151)→(∀ c∈b,c < 2097151)→encL a.reverse = encL b.reverse→a = b
 | [],[],_,_,_=>rfl
 | [],y :: t,_,_,h=>by rw [List.reverse_cons,encL_snoc] at h; exact absurd h (Nat.ne_of_lt (Nat.lt_of_lt_of_le (Nat.succ_pos y) (Nat.le_add_left _ _)))
 | x :: r,[],_,_,h=>by rw [List.reverse_cons,encL_snoc] at h; exact absurd h.symm (Nat.ne_of_lt (Nat.lt_of_lt_of_le (Nat.succ_pos x) (Nat.le_add_left _ _)))
 | x :: r,y :: t,ha,hb,h=>by
  rw [List.reverse_cons,List.reverse_cons,encL_snoc,encL_snoc] at h
  have e:=enc_step (ha x (List.mem_cons_self ..)) (hb y (List.mem_cons_self ..)) h
  rw [e.2,enc_rev r t (fun c hc=>ha c (List.mem_cons_of_mem _ hc)) (fun c hc=>hb c (List.mem_cons_of_mem _ hc)) e.1]
theorem encS_inj {x y:Str} (hx:strOk x = true) (hy:strOk y = true) (h:encS x = encS y):x = y:=by
 have up:∀ {z:Str},strOk z = true→∀ c∈z.cps.toList.reverse,c < 2097151:=fun hz c hc=>Nat.lt_trans (of_decide_eq_true (List.all_eq_true.mp hz c (List.mem_reverse.mp hc))) (by decide)
 have e:=enc_rev x.cps.toList.reverse y.cps.toList.reverse (up hx) (up hy) (by rw [List.reverse_reverse,List.reverse_reverse]; exact h)
 cases x; cases y
 exact congrArg Str.mk (Array.toList_inj.mp (List.reverse_inj.mp e))
noncomputable abbrev Mp:=List (Addr × Addr)
noncomputable def chg (μ:Mp) (a:Addr):Prop:=∃ p∈μ,p.2 = a
noncomputable def IsTp (h:Heap) (a:Addr) (vs:Array PV):Prop:=∃ k,h.get? a = some { cls:=.type "tuple",dict:=none,data:=.seq vs k,slots:=#[] }
noncomputable def IsLs (h:Heap) (a:Addr) (vs:Array PV):Prop:=∃ k,h.get? a = some { cls:=.type "list",dict:=none,data:=.seq vs k,slots:=#[] }
theorem IsTp.tup {h:Heap} {a:Addr} {vs:Array PV} (x:IsTp h a vs):h.IsTuple a vs:=x.elim fun k ho=>⟨_,ho,rfl,k,rfl⟩
theorem IsLs.list {h:Heap} {a:Addr} {vs:Array PV} (x:IsLs h a vs):h.IsList a vs:=x.elim fun k ho=>⟨_,ho,rfl,k,rfl⟩
structure Wd where
 prog:Program
 w:World
 K:Frag
 base:Heap
 fa:Nat→Addr
 ca:Nat→Addr
 nc:Nat
noncomputable abbrev SK (D:Wd):=strKind D.prog D.w
structure Nx where
 μ:Mp
 W:Addr→Prop
 σ:St
 s:Shared
noncomputable def Nx.has (y:Nx) (a:Addr):Prop:=(y.s.heap.get? a).isSome = true
noncomputable def IsDc (D:Wd) (h:Heap) (a:Addr) (kvs:List (Str × PV)):Prop:=1 < a∧h.DictOf (SK D) a kvs
section
variable (D:Wd) (y:Nx)
mutual
noncomputable def RV:V→PV→Prop
 | .none,v=>v = .none
 | .bool b,v=>v = .bool b
 | .int i,v=>∃ t,v = .int i t
 | .str s,v=>∃ x t,v = .str x t∧strOk x = true∧encS x = s
 | .tup l,v=>∃ a vs,v = .ref a∧y.W a∧IsTp y.s.heap a vs∧RVs l vs.toList
 | .list l,v=>∃ a vs,v = .ref a∧y.W a∧IsLs y.s.heap a vs∧RVs l vs.toList
 | .dict l,v=>∃ a kvs,v = .ref a∧y.W a∧IsDc D y.s.heap a kvs∧RVd l kvs
 | .loc n,v=>∃ p,v = .ref p.1∧y.μ[n]? = some p
noncomputable def RVs:List V→List PV→Prop
 | [],vs=>vs = []
 | d :: r,vs=>∃ v t,vs = v :: t∧RV d v∧RVs r t
noncomputable def RVd:List (V × V)→List (Str × PV)→Prop
 | [],vs=>vs = []
 | (k,d) :: r,vs=>∃ n v t,vs = (n,v) :: t∧(k = .str (encS n)∧strOk n = true)∧RV d v∧RVd r t
end
end
structure Le (y z:Nx):Prop where
 w:∀ a o,y.W a→y.s.heap.get? a = some o→z.s.heap.get? a = some o∧z.W a
 m:∀ (n:Nat) (p:Addr × Addr),y.μ[n]? = some p→z.μ[n]? = some p
theorem Le.refl (y:Nx):Le y y:=⟨fun _ _ w e=>⟨e,w⟩,fun _ _ e=>e⟩
theorem Le.trans {x y z:Nx} (a:Le x y) (b:Le y z):Le x z:=⟨fun _ _ w e=>b.w _ _ (a.w _ _ w e).2 (a.w _ _ w e).1,fun _ _ e=>b.m _ _ (a.m _ _ e)⟩
theorem IsTp.le {y z:Nx} (l:Le y z) {a:Addr} {vs:Array PV} (w:y.W a) (x:IsTp y.s.heap a vs):z.W a∧IsTp z.s.heap a vs:=x.elim fun k e=>⟨(l.w _ _ w e).2,k,(l.w _ _ w e).1⟩
theorem IsLs.le {y z:Nx} (l:Le y z) {a:Addr} {vs:Array PV} (w:y.W a) (x:IsLs y.s.heap a vs):z.W a∧IsLs z.s.heap a vs:=x.elim fun k e=>⟨(l.w _ _ w e).2,k,(l.w _ _ w e).1⟩
theorem IsDc.at {D:Wd} {h h':Heap} {a:Addr} {kvs:List (Str × PV)} (x:IsDc D h a kvs) (e:∀ o,h.get? a = some o→h'.get? a = some o):IsDc D h' a kvs:=⟨x.1,x.2.at e⟩
theorem IsDc.le {D:Wd} {y z:Nx} (l:Le y z) {a:Addr} {kvs:List (Str × PV)} (w:y.W a) (x:IsDc D y.s.heap a kvs):z.W a∧IsDc D z.s.heap a kvs :=
 ⟨Exists.elim x.2 fun o q=>Exists.elim q fun es q=>Exists.elim q fun k q=>(l.w _ _ w q.1).2,x.at fun o e=>(l.w _ _ w e).1⟩
section
variable {D:Wd} {y z:Nx}
mutual
theorem RV_le (l:Le y z):∀ (d:V) (v:PV),RV D y d v→RV D z d v
 | .none,v,r=>r
 | .bool _,v,r=>r
 | .int _,v,r=>r
 | .str _,v,r=>r
 | .tup k,v,⟨a,vs,e,w,t,rs⟩=>have q:=t.le l w; ⟨a,vs,e,q.1,q.2,RVs_le l k _ rs⟩
 | .list k,v,⟨a,vs,e,w,t,rs⟩=>have q:=t.le l w; ⟨a,vs,e,q.1,q.2,RVs_le l k _ rs⟩
 | .dict k,v,⟨a,vs,e,w,t,rs⟩=>have q:=t.le l w; ⟨a,vs,e,q.1,q.2,RVd_le l k _ rs⟩
 | .loc n,v,⟨p,e,q⟩=>⟨p,e,l.m n p q⟩
theorem RVs_le (l:Le y z):∀ (d:List V) (v:List PV),RVs D y d v→RVs D z d v
 | [],v,r=>r
 | d :: k,v,⟨u,t,e,r1,r2⟩=>⟨u,t,e,RV_le l d u r1,RVs_le l k t r2⟩
theorem RVd_le (l:Le y z):∀ (d:List (V × V)) (v:List (Str × PV)),RVd D y d v→RVd D z d v
 | [],v,r=>r
 | (k,d) :: r,v,⟨n,u,t,e,k1,r1,r2⟩=>⟨n,u,t,e,k1,RV_le l d u r1,RVd_le l r t r2⟩
end
theorem RVs_length:∀ {d:List V} {v:List PV},RVs D y d v→v.length = d.length
 | [],v,r=>congrArg List.length r
 | _ :: l,v,⟨u,t,e,_,r2⟩=>(congrArg List.length e).trans (congrArg (· + 1) (RVs_length r2))
theorem RVs_get:∀ {d:List V} {v:List PV},RVs D y d v→∀ {i:Nat} {x:V},d[i]? = some x→∃ u,v[i]? = some u∧RV D y x u:=by
 intro d
 induction d with
 | nil=>intro v r i x e; cases e
 | cons x0 l ih =>
  intro v r i x e
  obtain ⟨u,t,rfl,r1,r2⟩:=r
  cases i with
  | zero=>exact ⟨u,rfl,Option.some.inj e ▸ r1⟩
  | succ i=>exact ih r2 (i:=i) e
theorem RVs_append:∀ {d:List V} {v:List PV} {d':List V} {v':List PV},RVs D y d v→RVs D y d' v'→RVs D y (d++d') (v++v')
 | [],v,d',v',r,r'=>(show v = [] from r) ▸ r'
 | _ :: l,v,d',v',⟨u,t,e,r1,r2⟩,r'=>⟨u,t++v',congrArg (·++v') e,r1,RVs_append r2 r'⟩
theorem RVs_take:∀ {d:List V} {v:List PV} (n:Nat),RVs D y d v→RVs D y (d.take n) (v.take n)
 | _,_,0,_=>rfl
 | [],v,n + 1,r=>congrArg (List.take (n + 1)) r
 | _ :: l,v,n + 1,⟨u,t,e,r1,r2⟩=>⟨u,t.take n,congrArg (List.take (n + 1)) e,r1,RVs_take n r2⟩
theorem RVs_drop {d:List V}:∀ {v:List PV} (n:Nat),RVs D y d v→RVs D y (d.drop n) (v.drop n):=by
 induction d with
 | nil =>
  intro v n r
  cases n with
  | zero=>exact r
  | succ n=>exact congrArg (List.drop (n + 1)) r
 | cons x l ih =>
  intro v n r
  cases n with
  | zero=>exact r
  | succ n =>
   obtain ⟨u,t,rfl,r1,r2⟩:=r
   exact ih n r2
end
noncomputable def RC (D:Wd) (y:Nx) (a:Addr):V→Prop
 | .list l=>∃ vs,IsLs y.s.heap a vs∧RVs D y l vs.toList
 | .dict l=>∃ kvs,IsDc D y.s.heap a kvs∧RVd D y l kvs
 | _=>False
section
variable (D:Wd) (y:Nx)
noncomputable def FldOk (m:Str→Option PV) (fs:List (Nat × V)):Prop :=
 ∀ x:Str,strOk x = true→match getA fs (encS x) with
  | some d=>∃ v,m x = some v∧RV D y d v
  | none=>m x = none
noncomputable def OR (p:Addr × Addr):SObj→Prop
 | .inst c fs=>(c < D.nc∧y.s.heap.get? p.1 = some (instObj (D.ca c) p.2))∧p.1 ≠ p.2∧∃ m ns,y.s.heap.Ns1 p.2 m∧FldOk D y m fs∧Within m ns∧ns.length≤fs.length
 | .dict l=>p.1 = p.2∧RC D y p.1 (.dict l)
 | .list l=>p.1 = p.2∧RC D y p.1 (.list l)
structure Sm:Prop where
 gi:∀ a o,D.base.get? a = some o→y.s.heap.get? a = some o
 big:∃ a,1 < a∧y.W a
 len:y.μ.length = y.σ.length
 nodup:(y.μ.map (·.2)).Nodup
 new:∀ p∈y.μ,D.base.get? p.2 = none
 apart:∀ p∈y.μ,∀ q∈y.μ,p.1 = q.2→p.1 = p.2
 wk:∀ a,y.W a→¬ chg y.μ a
 wd:∀ a,y.W a→y.has a
 cs:∀ a,(D.base.get? a).isSome = true→y.W a
 lt:∀ p∈y.μ,y.has p.1∧y.has p.2
 obj:∀ (n:Nat) (o:SObj) (p:Addr × Addr),y.σ[n]? = some o→y.μ[n]? = some p→OR D y p o
structure Aft (F:Addr→Prop) (z:Nx):Prop where
 sm:Sm D z
 le:Le y z
 kp:∀ a o,y.s.heap.get? a = some o→¬ chg y.μ a→¬ F a→z.s.heap.get? a = some o
 ex:∀ a,y.has a→z.has a
 mn:∀ p∈z.μ,p∈y.μ ∨ (¬ y.has p.1∧¬ y.has p.2)
 wn:∀ a,z.W a→y.W a ∨ ¬ y.has a
 gens:z.s.gens = y.s.gens
 os:z.s.os = y.s.os
end
structure Pv (y:Nx) (b:Addr):Prop where
 lt:y.has b
 nw:¬ y.W b
 nm:∀ p∈y.μ,p.1 ≠ b∧p.2 ≠ b
noncomputable def noA:Addr→Prop:=fun _=>False
section
variable {D:Wd} {x y z:Nx} {F:Addr→Prop}
theorem RC_le (l:Le y z) {a:Addr} {d:V} (h:∀ o,y.s.heap.get? a = some o→z.s.heap.get? a = some o) (r:RC D y a d):RC D z a d:=by
 cases d with
 | list k=>exact r.elim fun vs q=>⟨vs,q.1.elim fun n e=>⟨n,h _ e⟩,RVs_le l k _ q.2⟩
 | dict k=>exact r.elim fun vs q=>⟨vs,q.1.at h,RVd_le l k _ q.2⟩
 | _=>exact r
theorem RC_RV {a:Addr} {d:V} (w:y.W a) (r:RC D y a d):RV D y d (.ref a):=by
 cases d with
 | list k=>exact r.elim fun vs q=>⟨a,vs,rfl,w,q⟩
 | dict k=>exact r.elim fun vs q=>⟨a,vs,rfl,w,q⟩
 | _=>exact r.elim
theorem FldOk_le (l:Le y z) {m:Str→Option PV} {fs:List (Nat × V)} (f:FldOk D y m fs):FldOk D z m fs:=fun x hx=>by
 have:=f x hx
 cases e:getA fs (encS x) with
 | some d=>rw [e] at this; exact this.elim fun v q=>⟨v,q.1,RV_le l d v q.2⟩
 | none=>rw [e] at this; exact this
theorem OR_le (l:Le y z) {p:Addr × Addr} (h1:∀ o,y.s.heap.get? p.1 = some o→z.s.heap.get? p.1 = some o) (h2:∀ o,y.s.heap.get? p.2 = some o→z.s.heap.get? p.2 = some o) {o:SObj} (r:OR D y p o):OR D z p o:=by
 cases o with
 | inst c fs=>exact ⟨⟨r.1.1,h1 _ r.1.2⟩,r.2.1,r.2.2.elim fun m q=>q.elim fun ns q=>⟨m,ns,q.1.at h2,FldOk_le l q.2.1,q.2.2⟩⟩
 | dict k=>exact ⟨r.1,RC_le l h1 r.2⟩
 | list k=>exact ⟨r.1,RC_le l h1 r.2⟩
theorem has_of {a:Addr} {o:Obj} (e:y.s.heap.get? a = some o):y.has a:=Option.isSome_iff_exists.mpr ⟨o,e⟩
theorem has_lt {a:Addr} (h:y.has a):a < y.s.heap.objs.size:=(Option.isSome_iff_exists.mp h).elim fun o e=>Heap.lt_size e
theorem Sm.one (m:Sm D y):1 < y.s.heap.objs.size:=m.big.elim fun a h=>Nat.lt_trans h.1 (has_lt (m.wd a h.2))
theorem no_new:¬ y.has y.s.heap.objs.size:=fun h=>Nat.lt_irrefl _ (has_lt h)
theorem Aft.refl (s:Sm D y):Aft D y F y:=⟨s,.refl y,fun _ _ e _ _=>e,fun _ h=>h,fun _ h=>.inl h,fun _ h=>.inl h,rfl,rfl⟩
theorem Aft.chg (a:Aft D y F z) {b:Addr} (l:y.has b) (n:¬ chg y.μ b):¬ chg z.μ b:=fun ⟨p,hp,e⟩=>(a.mn p hp).elim (fun h=>n ⟨p,h,e⟩) fun h=>h.2 (by rw [e]; exact l)
theorem Aft.trans (a:Aft D x F y) (b:Aft D y F z):Aft D x F z :=
 ⟨b.sm,a.le.trans b.le,fun c o e n f=>b.kp c o (a.kp c o e n f) (a.chg (has_of e) n) f,fun c h=>b.ex c (a.ex c h),fun p h=>(b.mn p h).elim (a.mn p) fun h=>.inr ⟨fun g=>h.1 (a.ex _ g),fun g=>h.2 (a.ex _ g)⟩,
  fun c w=>(b.wn c w).elim (a.wn c) fun h=>.inr fun g=>h (a.ex _ g),b.gens.trans a.gens,b.os.trans a.os⟩
theorem Aft.up (a:Aft D x noA y):Aft D x F y:=⟨a.sm,a.le,fun c o e n _=>a.kp c o e n id,a.ex,a.mn,a.wn,a.gens,a.os⟩
theorem Aft.hide (a:Aft D y F z) (h:∀ b,F b→¬ y.has b):Aft D y noA z:=⟨a.sm,a.le,fun b o e n _=>a.kp b o e n fun f=>h b f (has_of e),a.ex,a.mn,a.wn,a.gens,a.os⟩
theorem Aft.old (a:Aft D y noA z) {b:Addr} {o:Obj} (n:¬ Mine.Internal.chg y.μ b) (e:y.s.heap.get? b = some o):z.s.heap.get? b = some o:=a.kp b o e n id
theorem Pv.go {b:Addr} (p:Pv y b) (a:Aft D y F z):Pv z b :=
 ⟨a.ex b p.lt,fun w=>(a.wn b w).elim p.nw fun h=>h p.lt,fun q h=>(a.mn q h).elim (p.nm q) fun h=>⟨fun e=>h.1 (by rw [e]; exact p.lt),fun e=>h.2 (by rw [e]; exact p.lt)⟩⟩
theorem Pv.nc {b:Addr} (p:Pv y b):¬ chg y.μ b:=fun ⟨q,h,e⟩=>(p.nm q h).2 e
noncomputable def Nx.at (y:Nx) (s:Shared):Nx:=⟨y.μ,y.W,y.σ,s⟩
theorem has_kept {s:Shared} (k:∀ b o,y.s.heap.get? b = some o→¬ F b→s.heap.get? b = some o) {a:Addr} (h:y.has a) (f:¬ F a):(y.at s).has a:=(Option.isSome_iff_exists.mp h).elim fun o e=>Option.isSome_iff_exists.mpr ⟨o,k a o e f⟩
theorem Sm.turn {s:Shared} (m:Sm D y) (hF:∀ b,F b→Pv y b) (k:∀ b o,y.s.heap.get? b = some o→¬ F b→s.heap.get? b = some o):Le y (y.at s)∧Sm D (y.at s) :=
 have l:Le y (y.at s):=⟨fun a o w e=>⟨k a o e fun f=>(hF a f).nw w,w⟩,fun _ _ e=>e⟩
 have f1:∀ p∈y.μ,¬ F p.1∧¬ F p.2:=fun p h=>⟨fun f=>((hF _ f).nm p h).1 rfl,fun f=>((hF _ f).nm p h).2 rfl⟩
 have f2:∀ a,y.W a→¬ F a:=fun a w f=>(hF a f).nw w
 ⟨l,fun a o e=>k a o (m.gi a o e) (f2 a (m.cs a (Option.isSome_iff_exists.mpr ⟨o,e⟩))),m.big,m.len,m.nodup,m.new,m.apart,m.wk,fun a w=>has_kept k (m.wd a w) (f2 a w),m.cs,
  fun p h=>⟨has_kept k (m.lt p h).1 (f1 p h).1,has_kept k (m.lt p h).2 (f1 p h).2⟩,fun n o p e1 e2=>have h:=f1 p (List.mem_of_getElem? e2)
   OR_le l (fun o e=>k _ o e h.1) (fun o e=>k _ o e h.2) (m.obj n o p e1 e2)⟩
theorem Aft.turn {s:Shared} (m:Sm D y) (hF:∀ b,F b→Pv y b) (k:∀ b o,y.s.heap.get? b = some o→¬ F b→s.heap.get? b = some o) (z:∀ a,F a→(y.at s).has a) (g:s.gens = y.s.gens) (os:s.os = y.s.os):Aft D y F (y.at s) :=
 ⟨(m.turn hF k).2,(m.turn hF k).1,fun a o e _ f=>k a o e f,fun a h=>(Classical.em (F a)).elim (z a) (has_kept k h),fun _ h=>.inl h,fun _ h=>.inl h,g,os⟩
theorem Aft.turn1 {b:Addr} {h':Heap} {t:Nat} (m:Sm D y) (p:Pv y b) (k:∀ c o,c ≠ b→y.s.heap.get? c = some o→h'.get? c = some o) (e:∃ o,h'.get? b = some o):Aft D y (fun c=>c = b) (y.at { y.s with heap:=h',toks:=t }) :=
 Aft.turn m (fun c e=>e ▸ p) (fun c o e n=>k c o n e) (fun a q=>by rw [q]; exact Option.isSome_iff_exists.mpr e) rfl rfl
theorem Aft.lose {P:Addr→Prop} {s:Shared} (a:Aft D x F y) (n:∀ b,P b→¬ x.has b) (p:∀ b,P b→Pv y b) (k:∀ c o,y.s.heap.get? c = some o→¬ P c→s.heap.get? c = some o) (g:s.gens = y.s.gens) (os:s.os = y.s.os):Aft D x F (y.at s) :=
 have w:=a.sm.turn (F:=P) p k
 ⟨w.2,a.le.trans w.1,fun c o e h h'=>k c o (a.kp c o e h h') fun q=>n c q (has_of e),fun c h=>has_kept k (a.ex c h) fun q=>n c q h,a.mn,a.wn,g.trans a.gens,os.trans a.os⟩
theorem Aft.then {P:Addr→Prop} (a:Aft D x F y) (b:Aft D y P z) (n:∀ c,P c→¬ x.has c):Aft D x F z :=
 ⟨b.sm,a.le.trans b.le,fun c o e h f=>b.kp c o (a.kp c o e h f) (a.chg (has_of e) h) fun q=>n c q (has_of e),fun c h=>b.ex c (a.ex c h),fun p h=>(b.mn p h).elim (a.mn p) fun h=>.inr ⟨fun g=>h.1 (a.ex _ g),fun g=>h.2 (a.ex _ g)⟩,
  fun c w=>(b.wn c w).elim (a.wn c) fun h=>.inr fun g=>h (a.ex _ g),b.gens.trans a.gens,b.os.trans a.os⟩
structure More (y:Nx) (s:Shared):Prop where
 k:∀ b o,y.s.heap.get? b = some o→s.heap.get? b = some o
 g:s.gens = y.s.gens
 o:s.os = y.s.os
theorem More.refl (y:Nx):More y y.s:=⟨fun _ _ e=>e,rfl,rfl⟩
theorem More.push {s:Shared} (m:More y s) (o:Obj):More y { s with heap:=s.heap.push o }:=⟨fun b o e=>Heap.get?_push_of_some _ (m.k b o e),m.g,m.o⟩
theorem More.toks {s:Shared} (m:More y s) (t:Nat):More y { s with toks:=t }:=⟨m.k,m.g,m.o⟩
theorem More.ex {s:Shared} (m:More y s) (a:Addr) (h:y.has a):(y.at s).has a:=(Option.isSome_iff_exists.mp h).elim fun o g=>Option.isSome_iff_exists.mpr ⟨o,m.k a o g⟩
theorem More.aft {s:Shared} (m:More y s) (h:Sm D y):Aft D y noA (y.at s):=Aft.turn h (fun _ f=>f.elim) (fun b o e _=>m.k b o e) (fun _ f=>f.elim) m.g m.o
theorem More.no {s:Shared} (m:More y s):¬ y.has s.heap.objs.size:=fun h=>no_new (m.ex _ h)
theorem More.pv {s:Shared} (m:More y s) (h:Sm D y) {b:Addr} {o:Obj} (h1:¬ y.has b) (h2:s.heap.get? b = some o):Pv (y.at s) b :=
 ⟨Option.isSome_iff_exists.mpr ⟨o,h2⟩,fun w=>h1 (h.wd b w),fun p hp=>⟨fun e=>h1 (e ▸ (h.lt p hp).1),fun e=>h1 (e ▸ (h.lt p hp).2)⟩⟩
noncomputable def Nx.wi (y:Nx) (b:Addr):Nx:=⟨y.μ,fun a=>y.W a ∨ a = b,y.σ,y.s⟩
theorem Le.wi {b:Addr}:Le y (y.wi b):=⟨fun _ _ w e=>⟨e,.inl w⟩,fun _ _ e=>e⟩
theorem Aft.wi {b:Addr} (a:Aft D x F y) (p:Pv y b) (h:¬ x.has b):Aft D x F (y.wi b) :=
 have m:=a.sm
 ⟨⟨m.gi,m.big.elim fun a h=>⟨a,h.1,.inl h.2⟩,m.len,m.nodup,m.new,m.apart,fun a w=>w.elim (m.wk a) fun e=>e ▸ p.nc,fun a w=>w.elim (m.wd a) fun e=>by rw [e]; exact p.lt,fun a h=>.inl (m.cs a h),m.lt,fun n o q e1 e2=>OR_le Le.wi (fun _ e=>e) (fun _ e=>e) (m.obj n o q e1 e2)⟩,
  a.le.trans Le.wi,a.kp,a.ex,a.mn,fun c w=>w.elim (a.wn c) fun e=>.inr (e ▸ h),a.gens,a.os⟩
noncomputable def Nx.lo (y:Nx) (p:Addr × Addr) (o:SObj):Nx:=⟨y.μ++[p],y.W,y.σ++[o],y.s⟩
theorem at_end {α:Type} {l:List α} {x:α}:(l++[x])[l.length]? = some x:=by rw [List.getElem?_append_right (Nat.le_refl _),Nat.sub_self]; rfl
theorem at_snoc {α:Type} {l:List α} {x z:α} {n:Nat} (e:(l++[x])[n]? = some z):l[n]? = some z ∨ (n = l.length∧z = x):=by
 rcases Nat.lt_trichotomy n l.length with h | h | h
 ·exact .inl ((List.getElem?_append_left h).symm.trans e)
 ·exact .inr ⟨h,Option.some.inj ((h ▸ e).symm.trans at_end)⟩
 ·have:=(List.getElem?_eq_some_iff.mp e).1
  rw [List.length_append] at this
  exact absurd h (Nat.not_lt.mpr (Nat.le_of_lt_succ this))
theorem Le.lo {p:Addr × Addr} {o:SObj}:Le y (y.lo p o):=⟨fun _ _ w e=>⟨e,w⟩,fun n q e=>(List.getElem?_append_left (List.getElem?_eq_some_iff.mp e).1).trans e⟩
theorem mem_snoc {α:Type} {l:List α} {x z:α} (h:z∈l++[x]):z∈l ∨ z = x:=(List.mem_append.mp h).imp id List.mem_singleton.mp
theorem Aft.lo {p:Addr × Addr} {o:SObj} (a:Aft D x F y) (p1:Pv y p.1) (p2:Pv y p.2) (h:¬ x.has p.1∧¬ x.has p.2) (hb:D.base.get? p.2 = none) (r:OR D (y.lo p o) p o):Aft D x F (y.lo p o):=by
 have m:=a.sm
 refine ⟨⟨m.gi,m.big,?_,?_,fun q h=>(mem_snoc h).elim (m.new q) fun e=>e ▸ hb,fun q h r h' e=>?_,fun c w ⟨q,h,e⟩=>(mem_snoc h).elim (fun h=>m.wk c w ⟨q,h,e⟩) fun g=>p2.nw (by rw [← g]; exact e ▸ w),m.wd,m.cs,fun q h=>(mem_snoc h).elim (m.lt q) fun e=>by rw [e]; exact ⟨p1.lt,p2.lt⟩,fun n o' q e1 e2=>?_⟩,
  a.le.trans Le.lo,a.kp,a.ex,fun q g=>(mem_snoc g).elim (a.mn q) fun e=>.inr (e ▸ h),a.wn,a.gens,a.os⟩
 ·show (y.μ++[p]).length = (y.σ++[o]).length
  rw [List.length_append,List.length_append,m.len]; rfl
 ·show ((y.μ++[p]).map (·.2)).Nodup
  rw [List.map_append]
  refine List.nodup_append.mpr ⟨m.nodup,List.nodup_cons.mpr ⟨List.not_mem_nil,.nil⟩,fun c h1 d h2 e=>?_⟩
  obtain ⟨q,hq,rfl⟩:=List.mem_map.mp h1
  exact (p2.nm q hq).2 (e.trans (List.mem_singleton.mp h2))
 ·rcases mem_snoc h with h | g <;> rcases mem_snoc h' with h' | g'
  ·exact m.apart q h r h' e
  ·exact absurd (g' ▸ e) (p2.nm q h).1
  ·exact absurd (g ▸ e).symm (p1.nm r h').2
  ·rw [g] at e ⊢; rw [g'] at e; exact e
 ·rcases at_snoc e1 with e1 | ⟨e,g⟩ <;> rcases at_snoc e2 with e2 | ⟨e',g'⟩
  ·exact OR_le Le.lo (fun _ e=>e) (fun _ e=>e) (m.obj n o' q e1 e2)
  ·exact absurd ((List.getElem?_eq_some_iff.mp e1).1:n < y.σ.length) (by rw [e',m.len]; exact Nat.lt_irrefl _)
  ·exact absurd ((List.getElem?_eq_some_iff.mp e2).1:n < y.μ.length) (by rw [e,m.len]; exact Nat.lt_irrefl _)
  ·rw [g,g']; exact r
end
end Mine.Internal
namespace Mine.Internal
open PySem PySem.W PyProof.Rows
structure Ck where
 names:List (Str × Nat)
 sc:Scope
 own:Str→Bool
noncomputable def allOwn:Str→Bool:=fun _=>true
noncomputable def ownC (sc:Scope) (x:Str):Bool:=sc.names.lookup x == some .cell
noncomputable def isLoc:Option NameKind→Bool
 | some .local=>true
 | some .cell=>true
 | some .free=>true
 | _=>false
noncomputable def At (h:Heap) (env:PEnv) (x:Str) (u:PV):Prop :=
 (env.kindOf x = some .local∧∃ m,h.Ns env.locals m∧m x = some u) ∨
 ((env.kindOf x = some .cell ∨ env.kindOf x = some .free)∧∃ c,env.cells.lookup x = some c∧h.IsCell c (some u))
structure Eo (c:Ck) (env:PEnv) (y:Nx):Prop where
 sc:env.scope = c.sc
 kind:env.scope.kind = .function
 gl:env.globals = mainGlobals
 bi:env.builtins = builtinsNs
 loc:y.has env.locals∧¬ chg y.μ env.locals
 cells:∀ q∈env.cells,y.has q.2∧¬ chg y.μ q.2
 fr:env.frame.isSome = true
 cx:∀ x,c.sc.names.lookup x = some .cell ∨ c.sc.names.lookup x = some .free→(env.cells.lookup x).isSome = true
structure Room (n u:Nat) (A:Around):Prop where
 depth:A.depth + 5 * n + min u 2 + 2 < recursionLimit
 units:A.units + 100 * n + u < cLine
 hand:A.handled = none
structure Bd where
 D:Wd
 P:Prog
 T:TabK
 n:Nat
structure Ev where
 env:PEnv
 A:Around
 ρ:REnv
noncomputable def Fe (D:Wd) (c:Ck) (e:Ev) (y:Nx):Prop :=
 ∀ x i d,c.names.lookup x = some i→isLoc (e.env.kindOf x) = true→e.ρ[i]? = some (some d)→∃ u,At y.s.heap e.env x u∧RV D y d u
section
variable (B:Bd)
structure Go (u:Nat) (c:Ck) (e:Ev) (y:Nx):Prop where
 rm:Room B.n u e.A
 eo:Eo c e.env y
 fe:Fe B.D c e y
 sm:Sm B.D y
noncomputable abbrev Val (y:Nx) (d:V) (v:PV):Prop:=RV B.D y d v
noncomputable abbrev Vals (y:Nx) (d:List V) (v:List PV):Prop:=RVs B.D y d v
noncomputable def Wp (e:Ev) (y:Nx) {α:Type} (t:Sem α) (Q:α→Shared→Prop) (E:PV→Shared→Prop):Prop:=wpAny (model B.D.prog B.D.w) e.A t Q E y.s
noncomputable def kX (e:Ev) (y:Nx) (x:X) (K:V→St→Prop):Prop:=kE B.P B.T x e.ρ y.σ K
noncomputable def kXs (e:Ev) (y:Nx) (x:List X) (K:List V→St→Prop):Prop:=kEs B.P B.T x e.ρ y.σ K
noncomputable def TE (u:Nat) (c:Ck) (x:X) (t:PEnv→Sem PV):Prop :=
 ∀ (e:Ev) (y:Nx) (Q E:PV→Shared→Prop) (K:V→St→Prop),Go B u c e y→kX B e y x K→(∀ d Y v,K d Y.σ→Aft B.D y noA Y→Val B Y d v→Q v Y.s)→Wp B e y (t e.env) Q E
noncomputable def TEs (u:Nat) (c:Ck) (xs:List X) (t:PEnv→Sem (List PV)):Prop :=
 ∀ (e:Ev) (y:Nx) (Q:List PV→Shared→Prop) (E:PV→Shared→Prop) (K:List V→St→Prop),Go B u c e y→kXs B e y xs K→(∀ d Y v,K d Y.σ→d.length = xs.length→Aft B.D y noA Y→Vals B Y d v→Q v Y.s)→Wp B e y (t e.env) Q E
noncomputable def TB (u:Nat) (c:Ck) (x:X) (t:PEnv→Sem Bool):Prop :=
 ∀ (e:Ev) (y:Nx) (Q:Bool→Shared→Prop) (E:PV→Shared→Prop) (K:Bool→St→Prop),Go B u c e y→kX B e y x (fun d σ=>oK d.truthy fun b=>K b σ)→(∀ b Y,K b Y.σ→Aft B.D y noA Y→Q b Y.s)→Wp B e y (t e.env) Q E
noncomputable def TF (u:Nat) (c:Ck) (x:X) (t:PEnv→Sem PV):Prop :=
 ∀ (e:Ev) (y:Nx) (Q E:PV→Shared→Prop) (K:V→St→Prop),Go B u c e y→kX B e y x K→(∀ d Y a,K d Y.σ→Aft B.D y noA Y→¬ y.has a→Pv Y a→RC B.D Y a d→Q (.ref a) Y.s)→Wp B e y (t e.env) Q E
end
section
variable {B:Bd} {u:Nat} {c:Ck} {e:Ev} {y Y Z:Nx}
theorem mem_of_lookup {α β:Type} [BEq α] [LawfulBEq α] {x:α} {y:β}:∀ {l:List (α × β)},l.lookup x = some y→(x,y)∈l
 | (a,b) :: r,e=>by
  rw [List.lookup_cons] at e
  by_cases q:(x == a) = true
  ·rw [q] at e; cases e; rw [eq_of_beq q]; exact List.mem_cons_self ..
  ·rw [Bool.eq_false_iff.mpr q] at e; exact List.mem_cons_of_mem _ (mem_of_lookup e)
theorem At.keep {h h':Heap} {env:PEnv} {x:Str} {u:PV} (a:At h env x u) (k1:∀ o,h.get? env.locals = some o→h'.get? env.locals = some o) (k2:∀ b o,env.cells.lookup x = some b→h.get? b = some o→h'.get? b = some o):At h' env x u :=
 a.imp (fun q=>⟨q.1,q.2.elim fun m q=>⟨m,q.1.at k1,q.2⟩⟩) fun q=>⟨q.1,q.2.elim fun b q=>⟨b,q.1,q.2.elim fun o r=>⟨o,k2 b o q.1 r.1,r.2⟩⟩⟩
theorem Eo.go (h:Eo c e.env y) {F:Addr→Prop} (a:Aft B.D y F Y):Eo c e.env Y :=
 ⟨h.sc,h.kind,h.gl,h.bi,⟨a.ex _ h.loc.1,a.chg h.loc.1 h.loc.2⟩,fun q hq=>⟨a.ex _ (h.cells q hq).1,a.chg (h.cells q hq).1 (h.cells q hq).2⟩,h.fr,h.cx⟩
theorem Go.to (H:Go B u c e y) (a:Aft B.D y noA Y):Go B u c e Y:=⟨H.rm,H.eo.go a,fun x i d h1 h2 h3 =>
 (H.fe x i d h1 h2 h3).elim fun w q=>⟨w,q.1.keep (fun o g=>a.old H.eo.loc.2 g) fun b o g1 g2=>a.old (H.eo.cells (x,b) (mem_of_lookup g1)).2 g2,RV_le a.le d w q.2⟩,a.sm⟩
theorem Val.on {d:V} {v:PV} {F:Addr→Prop} (a:Aft B.D y F Y) (r:Val B y d v):Val B Y d v:=RV_le a.le d v r
theorem Vals.on {d:List V} {v:List PV} {F:Addr→Prop} (a:Aft B.D y F Y) (r:Vals B y d v):Vals B Y d v:=RVs_le a.le d v r
theorem Go.refl (H:Go B u c e y):Aft B.D y noA y:=Aft.refl H.sm
noncomputable def Nx.tk (y:Nx) (t:Nat):Nx:=y.at { y.s with toks:=t }
theorem toks_ok (m:Sm B.D y) (t:Nat):Aft B.D y noA (y.tk t):=(More.toks (More.refl y) t).aft m
theorem Go.toks (H:Go B u c e y) (t:Nat):Aft B.D y noA (y.tk t):=toks_ok H.sm t
noncomputable def Nx.psh (y:Nx) (o:Obj):Nx:=y.at { y.s with heap:=y.s.heap.push o }
theorem push_at {h:Heap} {o:Obj} (f:o.isFreed = false):(h.push o).get? h.objs.size = some o:=Heap.get?_push_size _ f
theorem push_ok (m:Sm B.D y) {o:Obj} (f:o.isFreed = false):Aft B.D y noA (y.psh o)∧Pv (y.psh o) y.s.heap.objs.size :=
 have w:=More.push (More.refl y) o
 ⟨w.aft m,w.pv m no_new (push_at f)⟩
noncomputable def Nx.tre (y:Nx) (o:Obj):Nx:=(y.psh o).wi y.s.heap.objs.size
theorem tre_ok (m:Sm B.D y) {o:Obj} (f:o.isFreed = false):Aft B.D y noA (y.tre o):=(push_ok m f).1.wi (push_ok m f).2 no_new
theorem len_ok {l:List PV} {k:Nat} (h:l.length≤k) (hk:k≤1000000):l.length≤sizeLine:=Nat.le_trans h (Nat.le_trans hk (by rw [sizeLine_eq]; decide))
theorem TF.te {x:X} {t:PEnv→Sem PV} (h:TF B u c x t):TE B u c x t:=fun e y Q E K H q z=>h e y Q E K H q fun d Y a k f l p r =>
 z d (Y.wi a) _ k (f.wi p l) (RC_RV (.inr rfl) (RC_le Le.wi (fun _ e=>e) r))
theorem oK_of {α:Type} {o:Option α} {k:α→Prop} (h:oK o k) {Z:Prop} (z:∀ a,o = some a→k a→Z):Z:=by
 cases o with
 | none=>exact False.elim h
 | some a=>exact z a rfl h
theorem obj_of {d:V} {K:SObj→Prop} (h:oK (objOf d) K) {a:Addr} {y:Nx} {D:Wd} (r:RC D y a d):∃ o,K o∧OR D y (a,a) o:=by
 cases d <;> first | exact ⟨_,h,rfl,r⟩ | exact False.elim h
theorem base_none {D:Wd} (m:Sm D y) {b:Addr} (h:¬ y.has b):D.base.get? b = none:=by
 cases e:D.base.get? b with
 | none=>rfl
 | some o=>exact absurd (has_of (m.gi b o e)) h
theorem te_mut {x:X} {t:PEnv→Sem PV} (h:TF B u c x t):TE B u c (.mut x) t:=fun e y Q E K H q z=>h e y Q E _ H q fun d Y a k f l p r =>
 let ⟨o,k2,w⟩:=obj_of k r
 z (.loc Y.σ.length) (Y.lo (a,a) o) _ k2 (f.lo p p ⟨l,l⟩ (base_none H.sm l) (OR_le Le.lo (fun _ e=>e) (fun _ e=>e) w)) ⟨(a,a),rfl,by rw [← f.sm.len]; exact at_end⟩
theorem te_none {k:Nat} {p:Pos}:TE B u c (.cst .none) (fun env=>eval (.Constant .none k p) env) :=
 fun e y Q E K H q z=>wpAny_Constant_none (z .none y _ q H.refl rfl)
theorem te_bool {b:Bool} {k:Nat} {p:Pos}:TE B u c (.cst (.bool b)) (fun env=>eval (.Constant (.bool b) k p) env) :=
 fun e y Q E K H q z=>wpAny_Constant_bool (z (.bool b) y _ q H.refl rfl)
theorem te_int {i:Int} {k:Nat} {p:Pos}:TE B u c (.cst (.int i)) (fun env=>eval (.Constant (.int i) k p) env) :=
 fun e y Q E K H q z=>wpAny_Constant_int (z (.int i) (y.tk _) _ q (H.toks _) ⟨_,rfl⟩)
theorem te_neg {j:Int} {k:Nat} {p p':Pos}:TE B u c (.cst (.int (-j))) (fun env=>eval (.UnaryOp .USub (.Constant (.int j) k p) p') env) :=
 fun e y Q E K H q z=>UnaryOp_ (wpAny_Constant_int (neg_int (z (.int (-j)) (y.tk _) _ q (H.toks _) ⟨_,rfl⟩)))
theorem te_str {x:Str} {s:Nat} {k:Nat} {p:Pos} (h1:strOk x = true) (h2:encS x = s):TE B u c (.cst (.str s)) (fun env=>eval (.Constant (.str x) k p) env) :=
 fun e y Q E K H q z=>wpAny_Constant_str (z (.str s) (y.tk _) _ q (H.toks _) ⟨x,_,rfl,h1,h2⟩)
theorem var_of {ρ:REnv} {i:Nat} {v:V} (h:(ρ[i]?).bind id = some v):ρ[i]? = some (some v):=by
 cases e:ρ[i]? with
 | none=>rw [e] at h; cases h
 | some o=>rw [e] at h; exact congrArg some h
theorem Eo.kd (h:Eo c e.env y) (x:Str):e.env.kindOf x = c.sc.names.lookup x:=congrArg (fun s:Scope=>s.names.lookup x) h.sc
theorem te_var {i:Nat} {x:Str} {p:Pos} (h1:c.names.lookup x = some i) (h2:isLoc (c.sc.names.lookup x) = true) (h3:(x == ("__debug__":Str)) = false) (h4:(x == ("__classdict__":Str)) = false) :
  TE B u c (.var i) (fun env=>eval (.Name x p) env):=fun e y Q E K H q z=>oK_of q fun v hv hk =>
 (H.fe x i v h1 ((H.eo.kd x).symm ▸ h2) (var_of hv)).elim fun w r =>
  have fin:=z v y w hk H.refl r.2
  wpAny_Name (r.1.elim (fun r=>r.2.elim fun m n=>wpAny_loadName_local H.eo.kind r.1 n.1 n.2 fin) fun r=>r.2.elim fun b n =>
   r.1.elim (fun k=>wpAny_loadName_cell H.eo.kind k n.1 n.2 fin) fun k=>wpAny_loadName_free H.eo.kind k n.1 n.2 fin h4) h3
theorem tes_nil {p:Pos}:TEs B u c [] (fun env=>spliced (backTo p (starEach [] env))) :=
 fun e y Q E K H q z=>wpAny_pure (z [] y [] q rfl H.refl rfl)
theorem starEach_cons {e:PE} {r:List PE} {env:PEnv} (h:isStarred e = false):starEach (e :: r) env = (false,eval e env) :: starEach r env:=by
 cases e <;> first | rfl | cases h
theorem tes_cons {x:X} {xs:List X} {t:PE} {ts:List PE} {p:Pos} (hs:isStarred t = false) (h1:TE B u c x (fun env=>eval t env)) (h2:TEs B u c xs (fun env=>spliced (backTo p (starEach ts env)))) :
  TEs B u c (x :: xs) (fun env=>spliced (backTo p (starEach (t :: ts) env))):=fun e y Q E K H q z=>by
 show wpAny _ e.A (spliced (backTo p (starEach (t :: ts) e.env))) Q E y.s
 rw [starEach_cons hs]
 exact Calls.spliced_cons (h1 e y _ E _ H q fun d1 Y v1 k1 a1 r1=>h2 e Y _ E _ (H.to a1) k1 fun d2 Z v2 k2 l2 a2 r2 =>
  z (d1 :: d2) Z _ k2 (congrArg (· + 1) l2) (a1.trans a2) ⟨v1,v2,rfl,Val.on a2 r1,r2⟩)
theorem seq_len {d:List V} {v:List PV} {n:Nat} (r:Vals B y d v) (l:d.length = n) (h:n≤1000):v.length≤sizeLine:=len_ok (k:=1000) (by rw [RVs_length r,l]; exact h) (by decide)
theorem te_tup {xs:List X} {ts:List PE} {k:Nat} {p:Pos} (hl:xs.length≤1000) (h1:TEs B u c xs (fun env=>spliced (backTo p (starEach ts env)))) :
  TE B u c (.tup xs) (fun env=>eval (.Tuple ts k p) env):=fun e y Q E K H q z =>
 Tuple_ (h1 e y _ E _ H q fun d Y v k1 l1 a r=>wpAny_newTuple (z (.tup d) (Y.tre _) _ k1 (a.trans (tre_ok a.sm rfl)) ⟨_,_,rfl,.inr rfl,⟨_,push_at rfl⟩,Vals.on (tre_ok a.sm rfl) r⟩) (seq_len r l1 hl))
theorem tf_list {xs:List X} {ts:List PE} {p:Pos} (hl:xs.length≤1000) (h1:TEs B u c xs (fun env=>spliced (backTo p (starEach ts env)))) :
  TF B u c (.list xs) (fun env=>eval (.List ts p) env):=fun e y Q E K H q z =>
 List_ (h1 e y _ E _ H q fun d Y v k1 l1 a r=>wpAny_newList (z (.list d) (Y.psh _) _ k1 (a.trans (push_ok a.sm rfl).1) (fun h=>no_new (a.ex _ h)) (push_ok a.sm rfl).2 ⟨_,⟨_,push_at rfl⟩,Vals.on (push_ok a.sm rfl).1 r⟩) (seq_len r l1 hl))
theorem TB.ite {x x1 x2:X} {t f g:PE} {p:Pos} (h1:TB B u c x (fun env=>isTrue t env (eval t env))) (h2:TB B u c x1 (fun env=>isTrue f env (eval f env))) (h3:TB B u c x2 (fun env=>isTrue g env (eval g env))) :
  TB B u c (.ite x x1 x2) (fun env=>isTrue (.IfExp t f g p) env (eval (.IfExp t f g p) env)):=fun e y Q E K H q z =>
 isTrue_IfExp (h1 e y _ E _ H q fun b Y k1 a=>match b,k1 with
  | true,k1=>h2 e Y Q E K (H.to a) k1 fun b2 Z k2 a2=>z b2 Z k2 (a.trans a2)
  | false,k1=>h3 e Y Q E K (H.to a) k1 fun b2 Z k2 a2=>z b2 Z k2 (a.trans a2))
theorem te_ite {x x1 x2:X} {t f g:PE} {p:Pos} (h1:TB B u c x (fun env=>isTrue t env (eval t env))) (h2:TE B u c x1 (fun env=>eval f env)) (h3:TE B u c x2 (fun env=>eval g env)) :
  TE B u c (.ite x x1 x2) (fun env=>eval (.IfExp t f g p) env):=fun e y Q E K H q z =>
 wpAny_bind (h1 e y _ E _ H q fun b Y k1 a=>match b,k1 with
  | true,k1=>h2 e Y Q E K (H.to a) k1 fun d2 Z v2 k2 a2 r2=>z d2 Z v2 k2 (a.trans a2) r2
  | false,k1=>h3 e Y Q E K (H.to a) k1 fun d2 Z v2 k2 a2 r2=>z d2 Z v2 k2 (a.trans a2) r2)
noncomputable def plainTest (e:PE):Bool:=![0,3,5,15].contains e.ctorIdx
theorem isTrue_eq {e:PE} {env:PEnv} {whole:Sem PV} (h:plainTest e = true):isTrue e env whole = (do let v ← whole; standAt e.pos; holding [v] (truthy v)):=by
 cases e <;> first | rfl | exact absurd h Bool.false_ne_true
theorem truthy_of {d:V} {K:Bool→Prop} (h:oK d.truthy K):∃ b,d = .bool b∧K b:=by
 cases d <;> first | exact ⟨_,rfl,h⟩ | exact False.elim h
theorem tb_te {x:X} {t:PE} (he:plainTest t = true) (h:TE B u c x (fun env=>eval t env)):TB B u c x (fun env=>isTrue t env (eval t env)):=fun e y Q E K H q z =>
 isTrue_plain (h e y _ E _ H q fun d Y v k1 a r=>by
  obtain ⟨b,rfl,k2⟩:=truthy_of k1
  cases (r:v = .bool b)
  exact wpAny_truthy_bool (z b Y k2 a)) (isTrue_eq he)
inductive All2 {α β:Type} (R:α→β→Prop):List α→List β→Prop
 | nil:All2 R [] []
 | cons {a b l k}:R a b→All2 R l k→All2 R (a :: l) (b :: k)
noncomputable def Bks (o:Bool) (B:Bd) (e:Ev) (y:Nx) (xs:List X) (K:V→St→Prop):Prop:=match o with
 | true=>kOr B.P B.T xs e.ρ y.σ K
 | false=>kAnd B.P B.T xs e.ρ y.σ K
theorem tb_all (o:Bool) {xs:List X} {ts:List PE} (h:All2 (fun x t=>TB B u c x (fun env=>isTrue t env (eval t env))) xs ts):∀ (e:Ev) (y:Nx) (Q:Bool→Shared→Prop) (E:PV→Shared→Prop) (K:Bool→St→Prop),Go B u c e y →
  Bks o B e y xs (fun d σ=>oK d.truthy fun b=>K b σ)→(∀ b Y,K b Y.σ→Aft B.D y noA Y→Q b Y.s)→Wp B e y (allTrue (bif o then .Or else .And) ts e.env) Q E:=by
 induction h with
 | nil=>cases o <;> exact fun e y Q E K H q z=>False.elim q
 | cons h1 h2 ih=>cases o with
  | false=>cases h2 with
   | nil=>exact fun e y Q E K H q z=>wpAny_allTrue_And_cons (h1 e y _ E _ H q fun b Y k1 a=>match b,k1 with
    | true,k1=>wpAny_allTrue_And_nil (z _ Y k1 a)
    | false,k1=>z _ Y k1 a)
   | cons _ _=>exact fun e y Q E K H q z=>wpAny_allTrue_And_cons (h1 e y _ E _ H q fun b Y k1 a=>match b,k1 with
    | true,k1=>ih e Y Q E K (H.to a) k1 fun b2 Y2 k2 a2=>z b2 Y2 k2 (a.trans a2)
    | false,k1=>z _ Y k1 a)
  | true=>cases h2 with
   | nil=>exact fun e y Q E K H q z=>wpAny_allTrue_Or_cons (h1 e y _ E _ H q fun b Y k1 a=>match b,k1 with
    | false,k1=>wpAny_allTrue_Or_nil (z _ Y k1 a)
    | true,k1=>z _ Y k1 a)
   | cons _ _=>exact fun e y Q E K H q z=>wpAny_allTrue_Or_cons (h1 e y _ E _ H q fun b Y k1 a=>match b,k1 with
    | false,k1=>ih e Y Q E K (H.to a) k1 fun b2 Y2 k2 a2=>z b2 Y2 k2 (a.trans a2)
    | true,k1=>z _ Y k1 a)
theorem tb_and {xs:List X} {ts:List PE} {p:Pos} (h:All2 (fun x t=>TB B u c x (fun env=>isTrue t env (eval t env))) xs ts):TB B u c (.and xs) (fun env=>isTrue (.BoolOp .And ts p) env (eval (.BoolOp .And ts p) env)) :=
 fun e y Q E K H q z=>wpAny_isTrue_BoolOp (tb_all false h e y Q E K H q z)
theorem tb_or {xs:List X} {ts:List PE} {p:Pos} (h:All2 (fun x t=>TB B u c x (fun env=>isTrue t env (eval t env))) xs ts):TB B u c (.or xs) (fun env=>isTrue (.BoolOp .Or ts p) env (eval (.BoolOp .Or ts p) env)) :=
 fun e y Q E K H q z=>wpAny_isTrue_BoolOp (tb_all true h e y Q E K H q z)
theorem te_and {xs:List X} {ts:List PE} {p:Pos} (h:All2 (fun x t=>TE B u c x (fun env=>eval t env)) xs ts):TE B u c (.and xs) (fun env=>eval (.BoolOp .And ts p) env):=by
 induction h with
 | nil=>exact fun e y Q E K H q z=>False.elim q
 | cons h1 h2 ih=>cases h2 with
  | nil=>exact fun e y Q E K H q z=>BoolOp_one (h1 e y Q E K H q z)
  | cons _ _=>exact fun e y Q E K H q z=>BoolOp_and (h1 e y _ E _ H q fun d Y v k1 a r=>by
    obtain ⟨b,rfl,k2⟩:=truthy_of k1
    cases (r:v = .bool b)
    refine wpAny_truthy_bool ?_
    cases b with
    | true=>exact ih e Y Q E K (H.to a) k2 fun d2 Y2 v2 k2 a2 r2=>z d2 Y2 v2 k2 (a.trans a2) r2
    | false=>exact z (.bool _) Y _ k2 a rfl)
theorem te_or {xs:List X} {ts:List PE} {p:Pos} (h:All2 (fun x t=>TE B u c x (fun env=>eval t env)) xs ts):TE B u c (.or xs) (fun env=>eval (.BoolOp .Or ts p) env):=by
 induction h with
 | nil=>exact fun e y Q E K H q z=>False.elim q
 | cons h1 h2 ih=>cases h2 with
  | nil=>exact fun e y Q E K H q z=>BoolOp_one (h1 e y Q E K H q z)
  | cons _ _=>exact fun e y Q E K H q z=>BoolOp_or (h1 e y _ E _ H q fun d Y v k1 a r=>by
    obtain ⟨b,rfl,k2⟩:=truthy_of k1
    cases (r:v = .bool b)
    refine wpAny_truthy_bool ?_
    cases b with
    | false=>exact ih e Y Q E K (H.to a) k2 fun d2 Y2 v2 k2 a2 r2=>z d2 Y2 v2 k2 (a.trans a2) r2
    | true=>exact z (.bool _) Y _ k2 a rfl)
theorem te_void {k:Nat} {t:PEnv→Sem PV} (h:B.P.glob k = none):TE B u c (.glob k) t:=fun e y Q E K H q z=>by
 have q:oK (B.P.glob k) fun v=>K v y.σ:=q
 rw [h] at q; exact False.elim q
end
end Mine.Internal
namespace Mine.Internal
open PySem PySem.W PyProof.Rows
inductive PP:V→PyData→Prop
 | none:PP .none .none
 | bool (b):PP (.bool b) (.bool b)
 | int (i):PP (.int i) (.int i)
 | str (x):strOk x = true→PP (.str (encS x)) (.str x)
 | tup {l ps}:All2 PP l ps→PP (.tup l) (.tuple ps)
 | list {l ps}:All2 PP l ps→PP (.list l) (.list ps)
theorem strOk_of {x:Str} (h:strOk x = true):PyData.strOk x = true:=by
 delta PyData.strOk
 rw [← Array.all_toList]
 exact h
structure Rd (h:Heap) (n:Nat) (d:V) (v:PV) (p:PyData):Prop where
 rd:∃ as,Reads h v p as
 pp:PP d p
 ly:p.canLay0 = true
 dp:p.depth≤n
structure Rds (h:Heap) (n:Nat) (d:List V) (v:List PV) (p:List PyData):Prop where
 rd:∃ as,ReadsAll h v p as
 pp:All2 PP d p
 ly:PyData.canLayAll0 p = true
 dp:PyData.depthAll p≤n
section
variable {D:Wd} {N:Nx} {h:Heap}
theorem Rd.cons {n:Nat} {d:V} {v:PV} {p:PyData} {l:List V} {t:List PV} {ps:List PyData} (a:Rd h n d v p) (b:Rds h n l t ps):Rds h n (d :: l) (v :: t) (p :: ps) :=
 ⟨a.rd.elim fun as ra=>b.rd.elim fun bs rb=>⟨as++bs,.cons ra rb⟩,.cons a.pp b.pp,Bool.and_eq_true_iff.mpr ⟨a.ly,b.ly⟩,Nat.max_le.mpr ⟨a.dp,b.dp⟩⟩
noncomputable def cok (n:Nat) (d:V):Prop:=eqOk n d = true ∨ isBool d = true
noncomputable def RA (D:Wd) (N:Nx):V→PV→Prop
 | .list l,v=>∃ a,v = .ref a∧RC D N a (.list l)
 | d,v=>RV D N d v
theorem RV.ra {d:V} {v:PV} (r:RV D N d v):RA D N d v:=by
 cases d with
 | list l=>exact r.elim fun a q=>q.elim fun vs q=>⟨a,q.1,vs,q.2.2⟩
 | _=>exact r
theorem RVs_reads {n:Nat} (ih:∀ d v,cok n d→RA D N d v→∃ p,Rd N.s.heap n d v p):∀ {l:List V} {vs:List PV},(∀ d∈l,cok n d)→RVs D N l vs→∃ ps,Rds N.s.heap n l vs ps
 | [],_,_,r=>(show _ = [] from r) ▸ ⟨[],⟨[],.nil⟩,.nil,rfl,Nat.zero_le _⟩
 | d :: l,_,hk,⟨v,t,e,r1,r2⟩=>(ih d v (hk d (List.mem_cons_self ..)) r1.ra).elim fun p a=>(RVs_reads ih (fun e he=>hk e (List.mem_cons_of_mem _ he)) r2).elim fun ps b=>e ▸ ⟨_,a.cons b⟩
theorem cok_items {n:Nat} {l:List V} (h:l.all (eqOk n) = true):∀ d∈l,cok n d:=fun d m=>.inl (List.all_eq_true.mp h d m)
theorem RV_reads (n:Nat):∀ (d:V) (v:PV),cok n d→RA D N d v→∃ p,Rd N.s.heap n d v p:=by
 induction n with
 | zero =>
  intro d v hk r
  cases d with
  | none=>exact (show v = .none from r) ▸ ⟨.none,⟨[],.none⟩,.none,rfl,Nat.zero_le _⟩
  | bool b=>exact (show v = .bool b from r) ▸ ⟨.bool b,⟨[],.bool b⟩,.bool b,rfl,Nat.zero_le _⟩
  | int i=>obtain ⟨t,rfl⟩:=r; exact ⟨.int i,⟨[],.int i t⟩,.int i,rfl,Nat.zero_le _⟩
  | str s=>obtain ⟨x,t,rfl,h1,rfl⟩:=r; exact ⟨.str x,⟨[],.str x t⟩,.str x h1,strOk_of h1,Nat.zero_le _⟩
  | _=>exact hk.elim (fun e=>nomatch e) fun e=>nomatch e
 | succ n ih =>
  intro d v hk r
  cases d with
  | none=>exact (show v = .none from r) ▸ ⟨.none,⟨[],.none⟩,.none,rfl,Nat.zero_le _⟩
  | bool b=>exact (show v = .bool b from r) ▸ ⟨.bool b,⟨[],.bool b⟩,.bool b,rfl,Nat.zero_le _⟩
  | int i=>obtain ⟨t,rfl⟩:=r; exact ⟨.int i,⟨[],.int i t⟩,.int i,rfl,Nat.zero_le _⟩
  | str s=>obtain ⟨x,t,rfl,h1,rfl⟩:=r; exact ⟨.str x,⟨[],.str x t⟩,.str x h1,strOk_of h1,Nat.zero_le _⟩
  | tup l =>
   obtain ⟨a,vs,rfl,_,⟨k,ho⟩,rs⟩:=r
   exact (RVs_reads ih (cok_items (hk.elim id fun e=>nomatch e)) rs).elim fun ps b=>b.rd.elim fun as b1=>⟨.tuple ps,⟨as,.tuple ho rfl rfl b1⟩,.tup b.pp,b.ly,Nat.succ_le_succ b.dp⟩
  | list l =>
   obtain ⟨a,rfl,vs,⟨k,ho⟩,rs⟩:=r
   exact (RVs_reads ih (cok_items (hk.elim id fun e=>nomatch e)) rs).elim fun ps b=>b.rd.elim fun as b1=>⟨.list ps,⟨a :: as,.list ho rfl rfl b1⟩,.list b.pp,b.ly,Nat.succ_le_succ b.dp⟩
  | _=>exact hk.elim (fun e=>nomatch e) fun e=>nomatch e
end
theorem eqOk_bool {n:Nat} {b:Bool} (h:eqOk n (.bool b) = true):False:=by cases n <;> exact nomatch h
theorem eqOk_items {n:Nat} {l:List V} (h:eqOk n (.tup l) = true):∃ k,n = k + 1∧l.all (eqOk k) = true:=match n,h with
 | k + 1,h=>⟨k,rfl,h⟩
theorem eqOk_items' {n:Nat} {l:List V} (h:eqOk n (.list l) = true):∃ k,n = k + 1∧l.all (eqOk k) = true:=match n,h with
 | k + 1,h=>⟨k,rfl,h⟩
theorem str_beq {x y:Str} (hx:strOk x = true) (hy:strOk y = true):(x == y) = decide (encS x = encS y) :=
 Bool.eq_iff_iff.mpr (beq_iff_eq.trans (Iff.trans ⟨fun e=>e ▸ rfl,fun e=>encS_inj hx hy e⟩ decide_eq_true_iff.symm))
noncomputable def EqvAt (n k:Nat):Prop:=∀ (d e:V) (p q:PyData),eqOk n d = true→eqOk k e = true→PP d p→PP e q→PyData.eqv p q = V.beq d e
theorem eqv_all {n k:Nat} (ih:EqvAt n k) {l:List V} {ps:List PyData} (a:All2 PP l ps):∀ {j:List V} {qs:List PyData},All2 PP j qs→l.all (eqOk n) = true→j.all (eqOk k) = true→PyData.eqvAll ps qs = beqs l j:=by
 induction a with
 | nil=>intro j qs b _ _; cases b <;> rfl
 | cons a1 a2 ih2 =>
  intro j qs b h1 h2
  cases b with
  | nil=>rfl
  | cons b1 b2 =>
   have h1:=Bool.and_eq_true_iff.mp h1
   have h2:=Bool.and_eq_true_iff.mp h2
   exact congr (congrArg and (ih _ _ _ _ h1.1 h2.1 a1 b1)) (ih2 b2 h1.2 h2.2)
theorem PP_eqv:∀ (n k:Nat),EqvAt n k:=fun n=>by
 induction n with
 | zero =>
  intro k d e p q h1 h2 a b
  cases a <;> first | exact absurd h1 Bool.false_ne_true | (cases b <;> first | rfl | exact (eqOk_bool h2).elim | exact str_beq ‹_› ‹_›)
 | succ n ih =>
  intro k d e p q h1 h2 a b
  cases a <;> first | exact absurd h1 Bool.false_ne_true | (cases b <;> first | rfl | exact (eqOk_bool h2).elim | exact str_beq ‹_› ‹_› | (obtain ⟨k,rfl,h2⟩:=eqOk_items h2; exact eqv_all (ih k) ‹_› ‹_› h1 h2) | (obtain ⟨k,rfl,h2⟩:=eqOk_items' h2; exact eqv_all (ih k) ‹_› ‹_› h1 h2))
section
variable {B:Bd} {u:Nat} {c:Ck} {G:Ev} {N Y Z:Nx} {Q E:PV→Shared→Prop}
theorem if_of {α:Type} {p:Prop} [Decidable p] {o:Option α} {K:α→Prop} (h:oK (if p then o else none) K):p∧oK o K:=by
 by_cases hp:p
 ·rw [if_pos hp] at h; exact ⟨hp,h⟩
 ·rw [if_neg hp] at h; exact False.elim h
theorem eqv_bool {a b:V} {p q:PyData} (h1:isBool a = true) (h2:isBool b = true) (x:PP a p) (y:PP b q):PyData.eqv p q = V.beq a b:=by
 cases x <;> first | exact absurd h1 Bool.false_ne_true | (cases y <;> first | rfl | exact absurd h2 Bool.false_ne_true)
theorem eq_sides {a b:V} (h:(pyEq a b).isSome = true):(eqOk 24 a = true∧eqOk 24 b = true) ∨ (isBool a = true∧isBool b = true):=by
 by_cases g:((eqOk 24 a && eqOk 24 b) || (isBool a && isBool b)) = true
 ·exact (Bool.or_eq_true_iff.mp g).imp Bool.and_eq_true_iff.mp Bool.and_eq_true_iff.mp
 ·rw [pyEq,if_neg g] at h; cases h
theorem eq_ok {a b:V} {x y:PV} {K:Bool→Prop} (sm:Sm B.D N) (e:oK (pyEq a b) K) (ra:Val B N a x) (rb:Val B N b y) (hu:G.A.units + 24 < cLine) :
  ((∀ r,K r→Q (.bool r) N.s)→Wp B G N (compareOp .Eq x y) Q E)∧((∀ r,K r→Q (.bool (!r)) N.s)→Wp B G N (compareOp .NotEq x y) Q E):=by
 have ra:=ra.ra
 have rb:=rb.ra
 have fin:cok 24 a→cok 24 b→(∀ p q,PP a p→PP b q→PyData.eqv p q = V.beq a b)→K (V.beq a b)→((∀ r,K r→Q (.bool r) N.s)→Wp B G N (compareOp .Eq x y) Q E)∧((∀ r,K r→Q (.bool (!r)) N.s)→Wp B G N (compareOp .NotEq x y) Q E):=fun ca cb hq hK=>by
  obtain ⟨p,⟨as,a1⟩,a2,a3,a4⟩:=RV_reads 24 a x ca ra
  obtain ⟨q,⟨bs,b1⟩,b2,b3,b4⟩:=RV_reads 24 b y cb rb
  rw [← hq p q a2 b2] at hK
  have un:∀ n,G.A.units + min p.depth n < cLine:=fun n=>Nat.lt_of_le_of_lt (Nat.add_le_add_left (Nat.le_trans (Nat.min_le_left _ _) a4) _) hu
  exact ⟨fun z=>PySem.SeqAt.eqOverData _ _ _ _ _ _ _ _ _ _ _ _ a1 b1 a3 b3 (un _) (z _ hK),fun z=>PySem.SeqAt.neOverData _ _ _ _ _ _ _ _ _ _ _ _ a1 b1 a3 b3 (un _) (z _ hK)⟩
 obtain ⟨h,hK⟩:=if_of e
 exact (Bool.or_eq_true_iff.mp h).elim (fun h=>have h:=Bool.and_eq_true_iff.mp h; fin (.inl h.1) (.inl h.2) (fun p q=>PP_eqv 24 24 a b p q h.1 h.2) hK)
  fun h=>have h:=Bool.and_eq_true_iff.mp h; fin (.inr h.1) (.inr h.2) (fun p q=>eqv_bool h.1 h.2) hK
end
noncomputable def copOf:Cop→CmpOp
 | .eq=>.Eq | .ne=>.NotEq | .lt=>.Lt | .gt=>.Gt | .ge=>.GtE | .in_=>.In | .notIn=>.NotIn
section
variable {D:Wd} {N:Nx}
theorem RVd_get {z:Str} (hz:strOk z = true) {Z:Prop}:∀ {l:List (V × V)} {kvs:List (Str × PV)},RVd D N l kvs →
  (dget (.str (encS z)) l = none→valueAt kvs z = none→Z)→(∀ d v,dget (.str (encS z)) l = some d→valueAt kvs z = some v→RV D N d v→Z)→Z
 | [],kvs,r,k1,_=>by cases (r:_ = []); exact k1 rfl rfl
 | (k,d) :: l,kvs,r,k1,k2=>by
  obtain ⟨x,v,t,rfl,⟨rfl,hx⟩,r1,r2⟩:=r
  by_cases e:x = z
  ·subst e
   exact k2 d v (if_pos (decide_eq_true rfl)) (by simp [valueAt]) r1
  ·have e1:dget (.str (encS z)) ((.str (encS x),d) :: l) = dget (.str (encS z)) l:=if_neg fun q=>e (encS_inj hx hz (of_decide_eq_true q))
   have e2:valueAt ((x,v) :: t) z = valueAt t z:=by simp [valueAt,e]
   rw [e1,e2] at k1
   exact RVd_get hz r2 k1 fun d v h1 h2=>k2 d v (e1.trans h1) (e2.trans h2)
end
section
variable {B:Bd} {u:Nat} {c:Ck} {G:Ev} {N Y Z:Nx} {Q E:PV→Shared→Prop}
theorem oK_map {α β:Type} {o:Option α} {f:α→β} {K:β→Prop} (h:oK (o.map f) K):oK o fun a=>K (f a):=by
 cases o <;> exact h
theorem oK_bind {α β:Type} {o:Option α} {f:α→Option β} {K:β→Prop} (h:oK (o.bind f) K):oK o fun a=>oK (f a) K:=by
 cases o <;> exact h
theorem bK_of {b:Bool} {p:Prop} (h:bK b p):b = true∧p:=by cases b <;> first | exact ⟨rfl,h⟩ | exact False.elim h
theorem and_l {a b:Bool} (h:(a && b) = true):a = true:=(Bool.and_eq_true_iff.mp h).1
theorem and_r {a b:Bool} (h:(a && b) = true):b = true:=(Bool.and_eq_true_iff.mp h).2
theorem st_of {k:Nat} {p:Addr × Addr} {f:Option SObj→Prop} (sm:Sm B.D N) (hp:N.μ[k]? = some p) (h:f N.σ[k]?) (h0:f none→False):∃ o,f (some o)∧OR B.D N p o∧N.σ[k]? = some o:=by
 cases hl:N.σ[k]? with
 | none=>rw [hl] at h; exact (h0 h).elim
 | some o=>rw [hl] at h; exact ⟨o,h,sm.obj k o p hl hp,rfl⟩
noncomputable def SqAt (N:Nx) (a:Addr) (vs:Array PV):Prop:=N.s.heap.IsList a vs ∨ N.s.heap.IsTuple a vs
theorem seq_of {v:V} {x:PV} {K:List V→Prop} {Z:Prop} (sm:Sm B.D N) (e:oK (asList N.σ v) K) (r:Val B N v x) (z:∀ l a vs,K l→x = .ref a→SqAt N a vs→Vals B N l vs.toList→Z):Z:=by
 cases v with
 | tup k=>exact r.elim fun a q=>q.elim fun vs q=>z k a vs e q.1 (.inr q.2.2.1.tup) q.2.2.2
 | list k=>exact r.elim fun a q=>q.elim fun vs q=>z k a vs e q.1 (.inl q.2.2.1.list) q.2.2.2
 | loc k=>exact r.elim fun p q=>(st_of (f:=fun o=>oK (locL o) K) sm q.2 e id).elim fun o h=>match o,h with
  | .list l,h=>h.2.1.2.elim fun vs w=>z l p.1 vs h.1 q.1 (.inl w.1.list) w.2
  | .inst _ _,h=>h.1.elim
  | .dict _,h=>h.1.elim
 | _=>exact False.elim e
theorem SqAt.reads {a:Addr} {vs:Array PV} (ht:SqAt N a vs) {ps:List PyData} {as:List Addr} (r:ReadsAll N.s.heap vs.toList ps as):(∃ bs,Reads N.s.heap (.ref a) (.list ps) bs) ∨ ∃ bs,Reads N.s.heap (.ref a) (.tuple ps) bs :=
 ht.imp (fun h=>h.elim fun o h=>h.2.2.elim fun k hd=>⟨_,.list h.1 h.2.1 hd r⟩) fun h=>h.elim fun o h=>h.2.2.elim fun k hd=>⟨_,.tuple h.1 h.2.1 hd r⟩
theorem dict_of {v:V} {x:PV} {K:List (V × V)→Prop} {Z:Prop} (sm:Sm B.D N) (e:oK (asDict N.σ v) K) (r:Val B N v x) (z:∀ l a kvs,K l→x = .ref a→IsDc B.D N.s.heap a kvs→RVd B.D N l kvs→Z):Z:=by
 cases v with
 | dict k=>exact r.elim fun a q=>q.elim fun vs q=>z k a vs e q.1 q.2.2.1 q.2.2.2
 | loc k=>exact r.elim fun p q=>(st_of (f:=fun o=>oK (locD o) K) sm q.2 e id).elim fun o h=>match o,h with
  | .dict l,h=>h.2.1.2.elim fun vs w=>z l p.1 vs h.1 q.1 w.1 w.2
  | .inst _ _,h=>h.1.elim
  | .list _,h=>h.1.elim
 | _=>exact False.elim e
theorem not_sys {a:Addr} (h:1 < a):(a == sysModules) = false:=beq_eq_false_iff_ne.mpr fun e=>absurd (e ▸ h:1 < sysModules) (by decide)
theorem key_of {k:V} {x:PV} (h:keyOk k = true) (r:Val B N k x):∃ z t,k = .str (encS z)∧strOk z = true∧x = .str z t∧(SK B.D).is z x = true:=by
 cases k with
 | str y=>obtain ⟨z,t,rfl,h1,rfl⟩:=r; exact ⟨z,t,rfl,h1,rfl,strKind_is _ _ _ _⟩
 | _=>exact absurd h Bool.false_ne_true
theorem any0:(#[]:Array PV).any (fun _=>false) = false:=by simp
theorem un_lt {k n m:Nat} (h:n + m < cLine) (hk:k≤m):n + k < cLine:=Nat.lt_of_le_of_lt (Nat.add_le_add_left hk _) h
noncomputable def Both (B:Bd) (G:Ev) (N:Nx) (E:PV→Shared→Prop) (K:Bool→Prop) (Q:PV→Shared→Prop) (o o':CmpOp) (x y:PV):Prop :=
 ((∀ r t,K r→Q (.bool r) (N.tk t).s)→Wp B G N (compareOp o x y) Q E)∧((∀ r t,K r→Q (.bool (!r)) (N.tk t).s)→Wp B G N (compareOp o' x y) Q E)
theorem any_beq {k:V} {p:PyData} (rp:PP k p) {j:List V} {qs:List PyData} (a:All2 PP j qs):(∀ d∈j,(pyEq d k).isSome = true)→(qs.any fun y=>PyData.eqv y p) = j.any fun y=>V.beq y k:=by
 induction a with
 | nil=>exact fun _=>rfl
 | cons a1 a2 ih=>exact fun h1=>congr (congrArg or ((eq_sides (h1 _ (List.mem_cons_self ..))).elim (fun h=>PP_eqv 24 24 _ k _ p h.1 h.2 a1 rp) fun h=>eqv_bool h.1 h.2 a1 rp)) (ih fun d m=>h1 d (List.mem_cons_of_mem _ m))
theorem in_seq {k:V} {l:List V} {x:PV} {a:Addr} {vs:Array PV} {K:Bool→Prop} (e:oK (pyIn k l) K) (rk:Val B N k x) (rl:Vals B N l vs.toList) (hu:G.A.units + 30 < cLine) (ht:SqAt N a vs):Both B G N E K Q .In .NotIn x (.ref a):=by
 obtain ⟨h,hK⟩:=if_of e
 have h1:=List.all_eq_true.mp h
 cases l with
 | nil =>
  cases (Array.toList_eq_nil_iff.mp rl:vs = #[])
  have hK:K ((#[]:Array PV).any fun _=>false):=any0.symm ▸ hK
  exact ht.elim (fun il=>⟨fun z=>SeqAt.in_listAt (fun _=>false) il (fun y hy=>nomatch hy) (z _ N.s.toks hK),fun z=>SeqAt.notIn_listAt (fun _=>false) il (fun y hy=>nomatch hy) (z _ N.s.toks hK)⟩)
   fun it=>⟨fun z=>SeqAt.in_tupleAt (fun _=>false) it (fun y hy=>nomatch hy) (z _ N.s.toks hK),fun z=>SeqAt.notIn_tupleAt (fun _=>false) it (fun y hy=>nomatch hy) (z _ N.s.toks hK)⟩
 | cons d0 l0 =>
  obtain ⟨p,⟨bs,b1⟩,b2,b3,_⟩:=RV_reads 24 k x ((eq_sides (h1 d0 (List.mem_cons_self ..))).imp (·.2) (·.2)) rk.ra
  obtain ⟨ps,⟨as,a1⟩,a2,a3,a4⟩:=RVs_reads (RV_reads 24) (fun d hd=>(eq_sides (h1 d hd)).imp (·.1) (·.1)) rl
  have hK:K (ps.any fun y=>PyData.eqv y p):=(any_beq b2 a2 h1).symm ▸ hK
  rcases ht.reads a1 with ⟨cs,rc⟩ | ⟨cs,rc⟩
  ·exact ⟨fun z=>SeqAt.in_list_reads rc b1 a3 b3 (by (first | lia | omega)) (z _ N.s.toks hK),fun z=>SeqAt.notIn_list_reads rc b1 a3 b3 (by (first | lia | omega)) (z _ N.s.toks hK)⟩
  ·exact ⟨fun z=>SeqAt.in_tuple_reads rc b1 a3 b3 (by (first | lia | omega)) (z _ N.s.toks hK),fun z=>SeqAt.notIn_tuple_reads rc b1 a3 b3 (by (first | lia | omega)) (z _ N.s.toks hK)⟩
theorem in_dict {k:V} {l:List (V × V)} {x:PV} {a:Addr} {kvs:List (Str × PV)} {K:Bool→Prop} (e:oK (inD k l) K) (rk:Val B N k x) (t:IsDc B.D N.s.heap a kvs) (rs:RVd B.D N l kvs) (hu:G.A.units + 1 < cLine):Both B G N E K Q .In .NotIn x (.ref a):=by
 obtain ⟨hk,e⟩:=if_of e
 have e:K (dget k l).isSome:=e
 obtain ⟨y,tk,rfl,hz,rfl,is⟩:=key_of hk rk
 have e':K (valueAt kvs y).isSome:=RVd_get hz rs (fun h1 h2=>by rw [h1] at e; rw [h2]; exact e) fun d v h1 h2 _=>by rw [h1] at e; rw [h2]; exact e
 exact ⟨fun z=>wpAny_in_of is (not_sys t.1) t.2.mapOf (z _ _ e'),fun z=>wpAny_notIn_of is (not_sys t.1) t.2.mapOf (z _ _ e')⟩
theorem in_ok {a b:V} {x y:PV} {K:Bool→Prop} (sm:Sm B.D N) (e:oK (inE N.σ a b) K) (ra:Val B N a x) (rb:Val B N b y) (hu:G.A.units + 30 < cLine):Both B G N E K Q .In .NotIn x y:=by
 delta inE at e
 cases hl:asList N.σ b with
 | some l =>
  rw [hl] at e
  exact seq_of (K:=fun l=>oK (pyIn a l) K) sm (by rw [hl]; exact e) rb fun l c vs e h t rs=>h ▸ in_seq e ra rs hu t
 | none =>
  rw [hl] at e
  exact dict_of sm (oK_bind e) rb fun l c vs e h t rs=>h ▸ in_dict e ra t rs (un_lt hu (by decide))
theorem asInt_of {v:V} {x:PV} {K:Int→Prop} (e:oK (asInt v) K) (r:Val B N v x):∃ i t,x = .int i t∧v = .int i∧K i:=by
 cases v with
 | int i=>exact r.elim fun t e1=>⟨i,t,e1,rfl,e⟩
 | _=>exact False.elim e
theorem cmpI_of {a b:V} {x y:PV} {f:Int→Int→Bool} {K:Bool→Prop} (e:oK (cmpI a b f) K) (ra:Val B N a x) (rb:Val B N b y):∃ i t j t',x = .int i t∧y = .int j t'∧K (f i j) :=
 (asInt_of (oK_bind e) ra).elim fun i q=>q.elim fun t q=>(asInt_of (oK_map q.2.2) rb).elim fun j w=>w.elim fun t' w=>⟨i,t,j,t',q.1,w.1,w.2.2⟩
theorem cmp_ok {o:Cop} {a b:V} {x y:PV} {K:Bool→Prop} (sm:Sm B.D N) (e:oK (cmpE N.σ o a b) K) (ra:Val B N a x) (rb:Val B N b y) (hu:G.A.units + 30 < cLine)
  (z:∀ r t,K r→Q (.bool r) (N.tk t).s):Wp B G N (compareOp (copOf o) x y) Q E:=by
 cases o with
 | eq=>exact (eq_ok sm e ra rb (un_lt hu (by decide))).1 fun r h=>z r N.s.toks h
 | ne=>exact (eq_ok sm (oK_map e) ra rb (un_lt hu (by decide))).2 fun r h=>z (!r) N.s.toks h
 | lt=>obtain ⟨i,t,j,t',rfl,rfl,e⟩:=cmpI_of e ra rb; exact lt_int (z _ N.s.toks e)
 | gt=>obtain ⟨i,t,j,t',rfl,rfl,e⟩:=cmpI_of e ra rb; exact gt_int (z _ N.s.toks e)
 | ge=>obtain ⟨i,t,j,t',rfl,rfl,e⟩:=cmpI_of e ra rb; exact ge_int (z _ N.s.toks e)
 | in_=>exact (in_ok sm e ra rb hu).1 z
 | notIn=>exact (in_ok sm (oK_map e) ra rb hu).2 fun r t h=>z (!r) t h
theorem Room.un {n u:Nat} {A:Around} (r:Room n u A) {k:Nat} (h:k≤u):A.units + k < cLine:=Nat.lt_of_le_of_lt (Nat.add_le_add (Nat.le_add_right _ _) h) r.units
theorem two {x y:X} {l r:PEnv→Sem PV} (h1:TE B u c x l) (h2:TE B u c y r) (H:Go B u c G N) {K:V→V→St→Prop} (q:kX B G N x fun a σ=>kE B.P B.T y G.ρ σ fun b σ=>K a b σ) {Q:PV→PV→Shared→Prop}
  (z:∀ a b Y v w,K a b Y.σ→Aft B.D N noA Y→Val B Y a v→Val B Y b w→Q v w Y.s):Wp B G N (l G.env) (fun v s=>wpAny (model B.D.prog B.D.w) G.A (r G.env) (Q v) E s) E :=
 h1 G N _ E _ H q fun a Y v k1 a1 r1=>h2 G Y _ E _ (H.to a1) k1 fun b Z w k2 a2 r2=>z a b Z v w k2 (a1.trans a2) (Val.on a2 r1) r2
theorem te_cmp {o:Cop} {x y:X} {l r:PE} {p:Pos} (hu:30≤u) (hm:behindInMarks (copOf o) r = false) (h1:TE B u c x (fun env=>eval l env)) (h2:TE B u c y (fun env=>eval r env)) :
  TE B u c (.cmp o x y) (fun env=>eval (.Compare l [copOf o] [r] p) env):=fun G N Q E K H q z =>
 wpAny_Compare1 (two h1 h2 H q fun a b Y v w k1 a1 r1 r2=>cmp_ok a1.sm k1 r1 r2 (H.rm.un hu) fun r t k2=>z (.bool r) _ _ k2 (a1.trans (toks_ok a1.sm t)) rfl) hm
theorem tb_cmp {o:Cop} {x y:X} {l r:PE} {p:Pos} (hu:30≤u) (hm:behindInMarks (copOf o) r = false) (h1:TE B u c x (fun env=>eval l env)) (h2:TE B u c y (fun env=>eval r env)) :
  TB B u c (.cmp o x y) (fun env=>isTrue (.Compare l [copOf o] [r] p) env (eval (.Compare l [copOf o] [r] p) env)):=fun G N Q E K H q z =>
 wpAny_isTrue_Compare1 (two h1 h2 H q fun a b Y v w k1 a1 r1 r2=>cmp_ok a1.sm k1 r1 r2 (H.rm.un hu) fun r t k2=>wpAny_truthy_bool (z r _ k2 (a1.trans (toks_ok a1.sm t)))) hm
end
end Mine.Internal
namespace Mine.Internal
open PySem PySem.W PyProof.Rows
theorem if_or {α:Type} {p:Prop} [Decidable p] {o o':Option α} {K:α→Prop} {Z:Prop} (h:oK (if p then o else o') K) (h1:p→oK o K→Z) (h2:¬ p→oK o' K→Z):Z:=by
 by_cases hp:p
 ·rw [if_pos hp] at h; exact h1 hp h
 ·rw [if_neg hp] at h; exact h2 hp h
structure Idx (n:Nat) (i:Int) (j:Nat):Prop where
 lo:-1000000≤i
 hi:i≤1000000
 sq:seqIndex? i n = some j
 at_:(0≤i∧j = i.toNat) ∨ (i < 0∧0≤i + (n:Int)∧j = (i + (n:Int)).toNat)
theorem idx_of {n:Nat} {i:Int} {K:Nat→Prop} (e:oK (idx n i) K):∃ j,K j∧Idx n i j:=by
 refine if_or e (fun h e=>?_) fun h e=>?_ <;> obtain ⟨h2,e⟩:=if_of e
 ·refine ⟨_,e,Int.le_trans (by decide) h,h2.2,?_,.inl ⟨h,rfl⟩⟩
  delta seqIndex?
  rw [if_neg (Int.not_lt.mpr h)]
  exact if_pos (by simp; (first | lia | omega))
 ·have h:=Int.not_le.mp h
  rw [Int.add_comm] at h2
  refine ⟨_,e,h2.2,Int.le_trans (Int.le_of_lt h) (by decide),?_,.inr ⟨h,h2.1,by rw [Int.add_comm]⟩⟩
  delta seqIndex?
  rw [if_pos h,Int.add_comm (n:Int)]
  exact if_pos (by simp; (first | lia | omega))
section
variable {B:Bd} {u:Nat} {c:Ck} {G:Ev} {N Y Z:Nx} {Q E:PV→Shared→Prop}
theorem RVs_at {d:List V} {vs:Array PV} (r:Vals B N d vs.toList) {i:Nat} {K:V→Prop} (e:oK d[i]? K):∃ x v,K x∧vs[i]? = some v∧Val B N x v :=
 oK_of e fun x hx k=>(RVs_get r hx).elim fun v q=>⟨x,v,k,Array.getElem?_toList.symm.trans q.1,q.2⟩
theorem item_ok {value slice:PE} {o i:V} {x y:PV} {K:V→Prop} (sm:Sm B.D N) (e:oK (itemE N.σ o i) K) (ro:Val B N o x) (ri:Val B N i y) (hs:subscripted slice false x y = operate [x,y] (getItem x y))
  (z:∀ d t v,K d→Val B N d v→Q v (N.tk t).s):Wp B G N (subscriptTail value slice x y) Q E:=by
 cases i with
 | int k =>
  obtain ⟨t,rfl⟩:=ri
  refine seq_of sm (oK_bind e) ro fun l a vs e hx il rs=>?_
  subst hx
  obtain ⟨j,e,I⟩:=idx_of (oK_bind e)
  obtain ⟨d,v,e,hv,rv⟩:=RVs_at rs e
  have fin:=z d N.s.toks v e rv
  have ln:l.length = vs.size:=(RVs_length rs).symm.trans Array.length_toList
  refine il.elim (fun il=>tail_any il.typeIs slot_list_getitem.lookup (I.at_.elim (fun c=>?_) fun c=>?_) hs) fun it=>tail_any it.typeIs slot_tuple_getitem.lookup (getItem_tuple it (Int.lt_of_lt_of_le (by decide) I.lo |> Int.le_of_lt) (Int.lt_of_le_of_lt I.hi (by decide)) (ln ▸ I.sq) hv fin) hs
  ·exact wpAny_getItem_list il c.1 (Int.lt_of_le_of_lt I.hi (by decide)) (c.2 ▸ hv) fin
  ·exact wpAny_getItem_list_neg il c.1 (by rw [← ln]; have:=c.2.1; (first | lia | omega)) (Int.lt_of_lt_of_le (by decide) I.lo |> Int.le_of_lt) (ln ▸ c.2.2 ▸ hv) fin
 | str k =>
  obtain ⟨n,tk,rfl,hz,rfl⟩:=ri
  refine dict_of sm (oK_bind e) ro fun l a kvs e hx t rs=>?_
  subst hx
  exact RVd_get hz rs (fun h1 _=>by rw [h1] at e; exact False.elim e) fun d v h1 h2 rv=>by
   rw [h1] at e
   exact tail_any t.2.typeIs slot_dict_getitem.lookup (wpAny_getItem_of (strKind_is _ _ _ _) t.2.mapOf h2 (z d _ v e rv)) hs
 | _=>exact False.elim e
noncomputable def notSlice (e:PE):Bool:=!(e.ctorIdx == 26)
theorem subscripted_plain {slice:PE} {o i:PV} (h:notSlice slice = true):subscripted slice false o i = operate [o,i] (getItem o i):=by
 cases slice <;> first | rfl | exact absurd h Bool.false_ne_true
theorem te_item {x y:X} {e f:PE} {p:Pos} (hs:notSlice f = true) (h1:TE B u c x (fun env=>eval e env)) (h2:TE B u c y (fun env=>eval f env)) :
  TE B u c (.item x y) (fun env=>eval (.Subscript e f p) env):=fun G N Q E K H q z =>
 Subscript_ (two h1 h2 H q fun a b Y v w k1 a1 r1 r2=>item_ok a1.sm k1 r1 r2 (subscripted_plain hs) fun d t v k2 rv=>z d _ v k2 (a1.trans (toks_ok a1.sm t)) (Val.on (toks_ok a1.sm t) rv))
theorem te_sidx {x:Str} {cs:List V} {y:X} {f:PE} {k:Nat} {p0 p:Pos} (hx:strOk x = true) (hc:cs = x.cps.toList.map fun c=>V.str (encL [c])) (hs:notSlice f = true) (h:TE B u c y (fun env=>eval f env)) :
  TE B u c (.sidx cs y) (fun env=>eval (.Subscript (.Constant (.str x) k p0) f p) env):=fun G N Q E K H q z =>
 have tk:=H.toks (N.s.toks + 1)
 Subscript_ (wpAny_Constant_str (h G (N.tk (N.s.toks + 1)) _ E _ (H.to tk) q fun d1 Y v k1 a r=>by
  obtain ⟨i,t,rfl,rfl,k1⟩:=asInt_of (oK_bind k1) r
  obtain ⟨j,k1,I⟩:=idx_of (oK_bind k1)
  subst hc
  have sq:=I.sq
  rw [List.length_map] at sq
  rw [List.getElem?_map] at k1
  refine oK_of (oK_map k1) fun cc ec k1=>?_
  have hlen:x.length = x.cps.toList.length:=(Array.length_toList).symm
  refine tail_any (typeIs_str _ _ _) F.slot_str_getitem.lookup (PySem.P.getItem_str (have:=I.hi; by simp; have:=I.lo; (first | lia | omega)) (c:=cc) ?_ ?_) (subscripted_plain hs)
  ·rw [hlen,sq]; simpa using ec
  ·exact z _ (Y.tk _) _ k1 ((tk.trans a).trans (toks_ok a.sm _)) ⟨⟨#[cc]⟩,_,rfl,Bool.and_eq_true_iff.mpr ⟨List.all_eq_true.mp hx cc (List.mem_of_getElem? ec),rfl⟩,rfl⟩))
end
end Mine.Internal
namespace Mine.Internal
open PySem PySem.W PyProof.Rows
theorem slicePick_cut (vs:Array PV) (lo hi:Option Int):(slicePick vs lo hi none).toList = cut vs.toList lo hi:=by
 rw [slicePick_plain]
 delta cut
 rw [List.drop_take,Array.length_toList]
 rfl
theorem RVs_cut {D:Wd} {N:Nx} {d:List V} {v:List PV} (lo hi:Option Int) (r:RVs D N d v):RVs D N (cut d lo hi) (cut v lo hi):=by
 delta cut
 rw [← RVs_length r]
 exact RVs_drop _ (RVs_take _ r)
section
variable {prog:Program} {w:World} {A:Around} {E:PV→Shared→Prop} {s:Shared}
theorem slicePart_of {v:PV} {k:Option Int} {Q:Option Int→Shared→Prop} (hv:IsPart v k) (h:Q k s):wpAny (model prog w) A (Builtin.Slice.slicePartIndex v) Q E s:=by
 cases hv with
 | none=>exact slicePart_none h
 | int i t=>exact slicePart_int h
theorem adjust_one (v:Int) (n:Nat):(if v < 0 then max (v + n) 0 else min v n) = ((clip n v:Nat):Int):=by
 delta clip
 rw [Int.toNat_of_nonneg (Int.le_max_left _ _)]
 by_cases h:v < 0
 ·rw [if_pos h,if_pos h,Int.min_eq_left (Int.add_le_of_le_sub_right (Int.sub_self _ ▸ Int.le_of_lt h)),Int.max_comm]
 ·rw [if_neg h,if_neg h,Int.max_eq_right (Int.le_min.mpr ⟨Int.not_lt.mp h,Int.natCast_nonneg _⟩)]
theorem adjust_plain (lo hi:Option Int) (n:Nat):Builtin.Slice.sliceAdjust lo hi 1 (n:Int) = (((lo.elim 0 (clip n):Nat):Int),((hi.elim n (clip n):Nat):Int)):=by
 delta Builtin.Slice.sliceAdjust
 have h1:¬ ((1:Int) < 0):=by decide
 simp only [h1,if_false]
 cases lo <;> cases hi <;> simp only [Option.elim,adjust_one] <;> rfl
theorem places_plain (a b:Nat):Builtin.Slice.slicePlaces (a:Int) (b:Int) 1 = b - a:=by
 delta Builtin.Slice.slicePlaces
 rw [if_pos (by decide),Int.ediv_one]
 by_cases h:(a:Int) < b
 ·rw [if_pos h,Int.sub_add_cancel,Int.toNat_sub]
 ·rw [if_neg h,Nat.sub_eq_zero_of_le (Int.ofNat_le.mp (Int.not_lt.mp h))]; rfl
theorem sliceApplied_plain {sl:Addr} {vl vu:PV} {lo hi:Option Int} {n:Nat} {Q:Int × Int × Nat→Shared→Prop} (hs:s.heap.IsSliceOf sl vl vu .none) (pl:IsPart vl lo) (pu:IsPart vu hi)
  (h:Q (((lo.elim 0 (clip n):Nat):Int),1,hi.elim n (clip n) - lo.elim 0 (clip n)) s) :
  wpAny (model prog w) A (Builtin.Slice.sliceApplied (.ref sl) (pure (n:Int))) Q E s:=by
 obtain ⟨os,hos,hcs,hds⟩:=hs
 delta Builtin.Slice.sliceApplied Builtin.Slice.sliceFields
 refine wpAny_bind (wpAny_bind (wpAny_field hos hds (x:=vl) rfl (wpAny_bind (wpAny_field hos hds (x:=vu) rfl (wpAny_bind (wpAny_field hos hds (x:=.none) rfl (wpAny_pure ?_)))))))
 refine wpAny_bind (slicePart_none ?_)
 show wpAny _ _ (if ((1:Int) == 0) = true then _ else _) _ _ s
 rw [if_neg (by decide)]
 refine wpAny_bind (slicePart_of pl (wpAny_bind (slicePart_of pu (wpAny_bind (wpAny_pure ?_)))))
 show wpAny _ _ (match Builtin.Slice.sliceAdjust lo hi 1 (n:Int) with | (lo,hi)=>pure (lo,(1:Int),Builtin.Slice.slicePlaces lo hi 1)) _ _ s
 rw [adjust_plain]
 refine wpAny_pure ?_
 rw [places_plain]
 exact h
theorem pick_plain (xs:Array PV) (a k:Nat):((List.range k).filterMap fun (j:Nat)=>xs[((a:Int) + (j:Int) * 1).toNat]?) = (xs.toList.drop a).take k:=by
 have e:(fun (j:Nat)=>xs[((a:Int) + (j:Int) * 1).toNat]?) = fun j=>xs[a + j]?:=funext fun j=>by rw [Int.mul_one]; rfl
 rw [e,← pick_run xs a k,List.filterMap_map]
 rfl
theorem cut_len {α:Type} (l:List α) (lo hi:Option Int):(cut l lo hi).length≤l.length:=by
 delta cut
 rw [List.length_drop,List.length_take]
 exact Nat.le_trans (Nat.sub_le _ _) (Nat.min_le_right _ _)
theorem cap_line {n:Nat} (h:n≤1000000):n≤sizeLine:=Nat.le_trans h (by rw [sizeLine_eq]; decide)
theorem getItem_tuple_cut {t sl:Addr} {items:Array PV} {vl vu:PV} {lo hi:Option Int} {Q:PV→Shared→Prop} (ht:IsTup s.heap t items) (hs:s.heap.IsSliceOf sl vl vu .none) (pl:IsPart vl lo) (pu:IsPart vu hi)
  (h1:cut items.toList lo hi = items.toList→Q (.ref t) s)
  (h:Q (.ref s.heap.objs.size) { s with heap:=s.heap.push { cls:=.type "tuple",data:=.seq (cut items.toList lo hi).toArray } })
  (hsz:items.size≤1000000):wpAny (model prog w) A (getItem (.ref t) (.ref sl)) Q E s:=by
 have ec:(items.toList.drop (lo.elim 0 (clip items.size))).take (hi.elim items.size (clip items.size) - lo.elim 0 (clip items.size)) = cut items.toList lo hi:=by
  delta cut; rw [List.drop_take,Array.length_toList]
 have hdrop:sizeOk (.seq (cut items.toList lo hi).toArray):=cap_line (Nat.le_trans (Nat.le_of_eq List.size_toArray) (Nat.le_trans (cut_len items.toList lo hi) (Nat.le_trans (Nat.le_of_eq Array.length_toList) hsz)))
 obtain ⟨os,hos,hcs,hds⟩:=id hs
 delta getItem
 try with_reducible refine wpAny_holding ?_
 first | refine wpAny_bind (wpAny_pure ?_) | skip
 refine wpAny_bind (wpAny_sequenceKey ht.typeIs (by decide) ?_)
 refine wpAny_bind (wpAny_callSpecial?_slot (name:=Str.ofString "__getitem__") ht.typeIs slot_tuple_getitem
  (wpAny_call_entry slot_tuple_getitem ht.typeIs entry_tuple_getitem ?_ (args_tuple_getitem _ _)))
 show wpAny _ _ (Builtin.Tuple.tupleItemsOf (.ref t) >>= _) _ _ s
 refine wpAny_bind (tupleItemsOf_ ht ?_)
 refine wpAny_bind (wpAny_typeOf ⟨os,hos,hcs⟩ ?_)
 rw [if_pos (by decide)]
 refine wpAny_bind (sliceApplied_plain hs pl pu ?_)
 dsimp only
 split
 ·rename_i hw
  simp only [Bool.and_eq_true,beq_iff_eq] at hw
  have q:=h1 (by
   rw [← ec,hw.2,show lo.elim 0 (clip items.size) = 0 from Int.ofNat_inj.mp hw.1.1,List.drop_zero,List.take_of_length_le (Nat.le_of_eq Array.length_toList)])
  delta Builtin.Tuple.tupleIsExact
  refine wpAny_bind (wpAny_bind (wpAny_typeOf ht.typeIs (wpAny_pure ?_)))
  rw [if_pos (by decide)]
  exact wpAny_bind (wpAny_rule (wpAny_bind (wpAny_pure (wpAny_pure ⟨_,rfl,wpAny_pure q⟩))))
 ·rw [pick_plain,ec]
  first
   | exact wpAny_bind (m:=Builtin.Tuple.tupleExact _) (wpAny_newObj_type (wpAny_pure ⟨_,rfl,wpAny_pure h⟩) hdrop)
   | exact wpAny_bind (m:=Builtin.Tuple.tupleExact _) (wpAny_newObj_type (wpAny_bind (wpAny_pure (wpAny_pure ⟨_,rfl,wpAny_pure h⟩))) hdrop)
   | exact wpAny_bind (wpAny_bind (m:=Builtin.Tuple.tupleExact _) (wpAny_newObj_type (wpAny_pure (wpAny_pure ⟨_,rfl,wpAny_pure h⟩)) hdrop))
   | exact wpAny_bind (wpAny_bind (m:=Builtin.Tuple.tupleExact _) (wpAny_newObj_type (wpAny_pure ⟨_,rfl,wpAny_pure h⟩) hdrop))
end
section
variable {B:Bd} {u:Nat} {c:Ck} {G:Ev} {N Y Z:Nx} {Q E:PV→Shared→Prop}
theorem More.seq {s:Shared} (m:More N s) (sm:Sm B.D N) {b:Addr} {o:Obj} (h1:¬ N.has b) (e:s.heap.get? b = some o):Aft B.D N noA ((N.at s).wi b):=(m.aft sm).wi (m.pv sm h1 e) h1
noncomputable abbrev lsO (vs:Array PV):Obj:={ cls:=.type "list",data:=.seq vs }
noncomputable abbrev tpO (vs:Array PV):Obj:={ cls:=.type "tuple",data:=.seq vs }
theorem new_list {s:Shared} {l:List V} {vs:Array PV} (m:More N s) (sm:Sm B.D N) (rs:Vals B N l vs.toList):Aft B.D N noA ((N.at { s with heap:=s.heap.push (lsO vs) }).wi s.heap.objs.size)∧Val B ((N.at { s with heap:=s.heap.push (lsO vs) }).wi s.heap.objs.size) (.list l) (.ref s.heap.objs.size) :=
 have a:=(m.push (lsO vs)).seq sm m.no (push_at rfl)
 ⟨a,_,vs,rfl,.inr rfl,⟨0,push_at rfl⟩,Vals.on a rs⟩
theorem new_tup {s:Shared} {l:List V} {vs:Array PV} (m:More N s) (sm:Sm B.D N) (rs:Vals B N l vs.toList):Aft B.D N noA ((N.at { s with heap:=s.heap.push (tpO vs) }).wi s.heap.objs.size)∧Val B ((N.at { s with heap:=s.heap.push (tpO vs) }).wi s.heap.objs.size) (.tup l) (.ref s.heap.objs.size) :=
 have a:=(m.push (tpO vs)).seq sm m.no (push_at rfl)
 ⟨a,_,vs,rfl,.inr rfl,⟨0,push_at rfl⟩,Vals.on a rs⟩
noncomputable def slObj (vl vu:PV):Obj:={ cls:=.type "slice",data:=.fields #[vl,vu,.none] }
theorem cut_all {l:List V} {vs:List PV} {lo hi:Option Int} (rs:Vals B N l vs) (e:cut vs lo hi = vs):cut l lo hi = l :=
 ((List.drop_sublist _ _).trans (List.take_sublist _ _):(cut l lo hi).Sublist l).eq_of_length ((RVs_length (RVs_cut lo hi rs)).symm.trans ((congrArg List.length e).trans (RVs_length rs)))
theorem arr_len {l:List V} {vs:Array PV} {n:Nat} (rs:Vals B N l vs.toList) (h:l.length≤n):vs.size≤n:=Nat.le_trans (Nat.le_of_eq (Array.length_toList.symm.trans (RVs_length rs))) h
theorem cut_tail {value:PE} {lower upper:Option PE} {p:Pos} {d1:V} {x vl vu:PV} {lo hi:Option Int} {K:V→Prop} (sm:Sm B.D N) (r:Val B N d1 x) (pl:IsPart vl lo) (pu:IsPart vu hi) (e:oK (cutE d1 lo hi) K)
  (z:∀ d Y v,K d→Aft B.D N noA Y→Y.σ = N.σ→Val B Y d v→Q v Y.s) :
  wpAny (model B.D.prog B.D.w) G.A (subscriptTail value (.Slice lower upper none p) x (.ref N.s.heap.objs.size)) Q E { N.s with heap:=N.s.heap.push (slObj vl vu) }:=by
 have m1:=(More.refl N).push (slObj vl vu)
 have hsl:=Heap.IsSliceOf.new N.s.heap vl vu .none
 cases d1 with
 | list l =>
  obtain ⟨hl,e⟩:=if_of e
  obtain ⟨a,vs,rfl,_,il,rs⟩:=r
  have il':(N.s.heap.push (slObj vl vu)).IsList a vs:=il.list.at fun o e=>m1.k _ _ e
  have w:=new_list m1 sm (vs:=slicePick vs lo hi none) (l:=cut l lo hi) (by rw [slicePick_cut]; exact RVs_cut lo hi rs)
  exact tail_any il'.typeIs slot_list_getitem.lookup (wpAny_getItem_list_slice il' hsl pl pu .none (by simp) (z _ _ _ e w.1 rfl w.2) (cap_line (arr_len rs hl))) (ops:=[.ref N.s.heap.objs.size,.ref a]) rfl
 | tup l =>
  obtain ⟨hl,e⟩:=if_of e
  have r0:=r
  obtain ⟨a,vs,rfl,wa,it,rs⟩:=r
  have it':(N.s.heap.push (slObj vl vu)).IsTuple a vs:=it.tup.at fun o e=>m1.k _ _ e
  have w:=new_tup m1 sm (vs:=(cut vs.toList lo hi).toArray) (RVs_cut lo hi rs)
  exact tail_any it'.typeIs slot_tuple_getitem.lookup (getItem_tuple_cut it' hsl pl pu (fun e1=>z _ (N.at _) _ (cut_all rs e1 ▸ e) (m1.aft sm) rfl (Val.on (m1.aft sm) r0)) (z _ _ _ e w.1 rfl w.2) (arr_len rs hl)) (ops:=[.ref N.s.heap.objs.size,.ref a]) rfl
 | _=>exact False.elim e
noncomputable def TO (B:Bd) (u:Nat) (c:Ck) (x:X) (o:Option PE):Prop:=match o with
 | some f=>TE B u c x (fun env=>eval f env)
 | none=>x = .cst .none
theorem to_ok {x:X} {o:Option PE} (h:TO B u c x o) (H:Go B u c G N) {K:V→St→Prop} {Q:PV→Shared→Prop} (q:kX B G N x K) (z:∀ d Y v,K d Y.σ→Aft B.D N noA Y→Val B Y d v→Q v Y.s):Wp B G N (evalPart o G.env) Q E:=by
 cases o with
 | some f=>exact wpAny_evalPart_some (h G N _ E _ H q z)
 | none=>cases (h:x = _); exact wpAny_evalPart_none (z .none N _ q H.refl rfl)
theorem endE_of {v:V} {x:PV} {K:Option Int→Prop} (e:oK (endE v) K) (r:Val B N v x):∃ i,IsPart x i∧K i:=by
 cases v with
 | none=>cases (r:x = .none); exact ⟨none,.none,e⟩
 | int i=>obtain ⟨t,rfl⟩:=r; exact ⟨some i,.int i t,e⟩
 | _=>exact False.elim e
theorem te_sl {x y w:X} {f:PE} {lo hi:Option PE} {p1 p:Pos} (h1:TE B u c x (fun env=>eval f env)) (h2:TO B u c y lo) (h3:TO B u c w hi):TE B u c (.sl x y w) (fun env=>eval (.Subscript f (.Slice lo hi none p1) p) env):=fun G N Q E K H q z =>
 Subscript_ (h1 G N _ E _ H q fun d1 Y1 v1 k1 a1 r1=>wpAny_Slice (to_ok h2 (H.to a1) k1 fun d2 Y2 v2 k2 a2 r2=>to_ok h3 (H.to (a1.trans a2)) k2 fun d3 Y3 v3 k3 a3 r3=>wpAny_evalPart_none
  (let ⟨i,p1,k3⟩:=endE_of (oK_bind k3) (Val.on a3 r2)
   let ⟨j,p2,k3⟩:=endE_of (oK_bind k3) r3
   cut_tail (G:=G) a3.sm (Val.on (a2.trans a3) r1) p1 p2 k3 fun d Y v k4 a es r=>z d Y v (es ▸ k4) ((a1.trans (a2.trans a3)).trans a) r)))
noncomputable def bopOf:Bop→Operator
 | .add=>.Add | .sub=>.Sub | .mul=>.Mult | .mod=>.Mod
theorem asTup_of {v:V} {K:List V→Prop} (e:oK (asTup v) K):∃ l,v = .tup l∧K l:=by
 cases v <;> first | exact ⟨_,rfl,e⟩ | exact False.elim e
theorem cap_size {a b:List V} {vs us:Array PV} (h:(a++b).length≤capL) (r1:Vals B N a vs.toList) (r2:Vals B N b us.toList):vs.size + us.size≤sizeLine:=by
 rw [← Array.length_toList,← Array.length_toList (xs:=us),RVs_length r1,RVs_length r2,← List.length_append]
 exact cap_line h
theorem emp_of {l:List V} {vs:Array PV} (r:Vals B N l vs.toList) (h:vs.isEmpty = true):l = []:=by
 cases Array.isEmpty_iff.mp h
 cases l with
 | nil=>rfl
 | cons=>obtain ⟨v,t,e,_⟩:=r; cases e
theorem add_tup_ok {l k:List V} {x y:PV} (sm:Sm B.D N) (hz:(l++k).length≤capL) (ra:Val B N (.tup l) x) (rb:Val B N (.tup k) y) (z:∀ Y v,Aft B.D N noA Y→Y.σ = N.σ→Val B Y (.tup (l++k)) v→Q v Y.s):Wp B G N (binaryOp .Add x y) Q E:=by
 have ra':=ra
 have rb':=rb
 obtain ⟨a,vs,rfl,wa,⟨i,ia⟩,rs⟩:=ra
 obtain ⟨b,us,rfl,wb,⟨j,ib⟩,qs⟩:=rb
 have ta:N.s.TypeIs (.ref a) "tuple":=⟨_,ia,rfl⟩
 have tb:N.s.TypeIs (.ref b) "tuple":=⟨_,ib,rfl⟩
 by_cases h1:vs.isEmpty = true
 ·cases emp_of rs h1
  exact concat_meets ta tb noFill_tuple_add seq_tuple_add F.slot_tuple_add F.entry_tuple_add (F.args_tuple_add_2 _ _) (AutoSeq1.tuple___add___tuple_tuple_0 a vs i b us j h1) ⟨ia,ib,z N _ (.refl sm) rfl rb'⟩
 ·by_cases h2:us.isEmpty = true
  ·cases emp_of qs h2
   rw [List.append_nil] at z
   exact concat_meets ta tb noFill_tuple_add seq_tuple_add F.slot_tuple_add F.entry_tuple_add (F.args_tuple_add_2 _ _) (AutoSeq1.tuple___add___tuple_tuple_1 a vs i b us j h1 h2) ⟨ia,ib,z N _ (.refl sm) rfl ra'⟩
  ·have w:=new_tup (More.refl N) sm (vs:=vs++us) (l:=l++k) (by rw [Array.toList_append]; exact RVs_append rs qs)
   exact concat_meets ta tb noFill_tuple_add seq_tuple_add F.slot_tuple_add F.entry_tuple_add (F.args_tuple_add_2 _ _) (AutoSeq1.tuple___add___tuple_tuple_2 a vs i b us j h1 h2 (cap_size hz rs qs)) ⟨ia,ib,z _ _ w.1 rfl w.2⟩
theorem lst_of {v:V} {x:PV} {K:List V→Prop} {Z:Prop} (sm:Sm B.D N) (e:oK (asLst N.σ v) K) (r:Val B N v x) (z:∀ l a,K l→x = .ref a→RC B.D N a (.list l)→Z):Z:=by
 cases v with
 | list k=>exact r.elim fun a q=>q.elim fun vs q=>z k a e q.1 ⟨vs,q.2.2⟩
 | loc k=>exact r.elim fun p q=>(st_of (f:=fun o=>oK (locL o) K) sm q.2 e id).elim fun o h=>match o,h with
  | .list l,h=>z l p.1 h.1 q.1 h.2.1.2
  | .inst _ _,h=>h.1.elim
  | .dict _,h=>h.1.elim
 | _=>exact False.elim e
theorem add_list_ok {l k:List V} {a b:Addr} (sm:Sm B.D N) (hz:(l++k).length≤capL) (ra:RC B.D N a (.list l)) (rb:RC B.D N b (.list k)) (z:∀ Y v,Aft B.D N noA Y→Y.σ = N.σ→Val B Y (.list (l++k)) v→Q v Y.s):Wp B G N (binaryOp .Add (.ref a) (.ref b)) Q E:=by
 obtain ⟨vs,⟨i,ia⟩,rs⟩:=ra
 obtain ⟨us,⟨j,ib⟩,qs⟩:=rb
 have w:=new_list (More.refl N) sm (vs:=vs++us) (l:=l++k) (by rw [Array.toList_append]; exact RVs_append rs qs)
 exact P.add_list ia ib (z _ _ w.1 rfl w.2) (cap_size hz rs qs)
theorem bin_ok {o:Bop} {a b:V} {x y:PV} {K:V→Prop} (sm:Sm B.D N) (e:oK (binE N.σ o a b) K) (ra:Val B N a x) (rb:Val B N b y) (z:∀ d Y v,K d→Aft B.D N noA Y→Y.σ = N.σ→Val B Y d v→Q v Y.s):Wp B G N (binaryOp (bopOf o) x y) Q E:=by
 have tk:=fun {i} (hk:K (.int i))=>z (.int i) (N.tk (N.s.toks + 1)) (.int i N.s.toks) hk (toks_ok sm _) rfl ⟨_,rfl⟩
 have lst:oK ((asLst N.σ a).bind fun a=>(asLst N.σ b).bind fun b=>(okLen (a++b)).map V.list) K→Wp B G N (binaryOp .Add x y) Q E:=fun e =>
  lst_of sm (oK_bind e) ra fun l a e e1 ra=>lst_of sm (oK_bind e) rb fun k b e e2 rb=>have w:=if_of (oK_map e)
   e1 ▸ e2 ▸ add_list_ok sm w.1 ra rb fun Y v=>z _ Y v w.2
 cases o with
 | add=>cases a with
  | int i =>
   obtain ⟨t,rfl⟩:=ra
   obtain ⟨j,t',rfl,rfl,e⟩:=asInt_of (oK_map e) rb
   exact add_int (tk e)
  | tup l =>
   obtain ⟨k,rfl,e⟩:=asTup_of (oK_bind e)
   obtain ⟨hz,e⟩:=if_of (oK_map e)
   exact add_tup_ok sm hz ra rb fun Y v=>z _ Y v e
  | list l=>exact lst e
  | loc l=>exact lst e
  | _=>exact False.elim e
 | sub =>
  obtain ⟨i,t,rfl,rfl,e⟩:=asInt_of (oK_bind e) ra
  obtain ⟨j,t',rfl,rfl,e⟩:=asInt_of (oK_map e) rb
  exact sub_int (tk e)
 | mul =>
  obtain ⟨i,t,rfl,rfl,e⟩:=asInt_of (oK_bind e) ra
  obtain ⟨j,t',rfl,rfl,e⟩:=asInt_of (oK_bind e) rb
  obtain ⟨hb,e⟩:=if_of e
  exact mul_int (tk e) (IntMulOk.of_left (intBits_le_64 (by (first | lia | omega)) (by (first | lia | omega))))
 | mod =>
  obtain ⟨i,t,rfl,rfl,e⟩:=asInt_of (oK_bind e) ra
  obtain ⟨j,t',rfl,rfl,e⟩:=asInt_of (oK_bind e) rb
  obtain ⟨hb,e⟩:=if_of e
  refine mod_int (Int.ne_of_gt hb) ?_
  rw [Int.fmod_eq_emod_of_nonneg i (Int.le_of_lt hb)]
  exact tk e
theorem te_bin {o:Bop} {x y:X} {l r:PE} {p:Pos} (h1:TE B u c x (fun env=>eval l env)) (h2:TE B u c y (fun env=>eval r env)):TE B u c (.bin o x y) (fun env=>eval (.BinOp l (bopOf o) r p) env):=fun G N Q E K H q z =>
 wpAny_BinOp (two h1 h2 H q fun a b Y v w k1 a1 r1 r2=>bin_ok (G:=G) a1.sm k1 r1 r2 fun d Z v k2 a es r=>z d Z v (es ▸ k2) (a1.trans a) r)
theorem tf_cat {x y:X} {l r:PE} {p:Pos} (h1:TE B u c x (fun env=>eval l env)) (h2:TE B u c y (fun env=>eval r env)):TF B u c (.cat x y) (fun env=>eval (.BinOp l .Add r p) env):=fun G N Q E K H q z =>
 wpAny_BinOp (two h1 h2 H q fun d1 d2 Y v w k1 a1 r1 r2=>lst_of a1.sm k1 r1 fun l a k1 e1 ra=>lst_of a1.sm k1 r2 fun k b k1 e2 rb=>by
  obtain ⟨hz,k1⟩:=bK_of k1
  subst e1 e2
  obtain ⟨vs,⟨i,ia⟩,rs⟩:=ra
  obtain ⟨us,⟨j,ib⟩,qs⟩:=rb
  have w:=push_ok (o:=lsO (vs++us)) a1.sm rfl
  exact P.add_list ia ib (z (.list (l++k)) (Y.psh _) _ k1 (a1.trans w.1) (fun h=>no_new (a1.ex _ h)) w.2 ⟨_,⟨_,push_at rfl⟩,by rw [Array.toList_append]; exact RVs_append (Vals.on w.1 rs) (Vals.on w.1 qs)⟩) (cap_size (of_decide_eq_true hz) rs qs))
theorem fm_map {α β:Type} {f:α→Option β} {g:α→β} {l:List α} (h:∀ x∈l,f x = some (g x)):l.filterMap f = l.map g:=by
 induction l with
 | nil=>rfl
 | cons x l ih=>rw [List.filterMap_cons,h x (List.mem_cons_self ..),List.map_cons,ih fun y hy=>h y (List.mem_cons_of_mem _ hy)]
theorem slicePick_rev (vs:Array PV):(slicePick vs none none (some (-1))).toList = vs.toList.reverse:=by
 delta slicePick
 have e:sliceBounds none none (some (-1)) vs.size = ((vs.size:Int) - 1,-1,-1):=rfl
 rw [e]
 delta sliceRange
 dsimp only
 rw [if_neg (by decide)]
 have h:(if (vs.size:Int) - 1 > -1 then ((vs.size:Int) - 1 - -1 - -1 - 1) / (- -1) else 0).toNat = vs.size:=by
  by_cases h:(vs.size:Int) - 1 > -1
  ·rw [if_pos h,show (- -1:Int) = 1 from rfl,Int.ediv_one]; (first | lia | omega)
  ·rw [if_neg h]; (first | lia | omega)
 rw [h,List.filterMap_map]
 have k:∀ j∈List.range vs.size,((fun x=>vs[x]?) ∘ fun (k:Nat)=>((vs.size:Int) - 1 + -1 * (k:Int)).toNat) j = some ((vs.toList.reverse).getD j .none):=fun j hj=>by
  have hj:=List.mem_range.mp hj
  have e:((vs.size:Int) - 1 + -1 * (j:Int)).toNat = vs.size - 1 - j:=by (first | lia | omega)
  show vs[((vs.size:Int) - 1 + -1 * (j:Int)).toNat]? = _
  rw [e,← Array.getElem?_toList,List.getD_eq_getElem?_getD,List.getElem?_reverse (by rw [Array.length_toList]; exact hj),Array.length_toList,List.getElem?_eq_getElem (by rw [Array.length_toList]; (first | lia | omega))]
  rfl
 rw [fm_map k]
 refine List.ext_getElem (by simp) fun i h1 h2=>?_
 rw [List.getElem_map,List.getElem_range,List.getD_eq_getElem?_getD,List.getElem?_eq_getElem h2]
 rfl
theorem RVs_rev {D:Wd} {d:List V} {v:List PV} (r:RVs D N d v):RVs D N d.reverse v.reverse:=by
 induction d generalizing v with
 | nil=>cases (show v = [] from r); rfl
 | cons a d ih =>
  obtain ⟨x,t,rfl,r1,r2⟩:=r
  rw [List.reverse_cons,List.reverse_cons]
  exact RVs_append (ih r2) ⟨x,[],rfl,r1,rfl⟩
theorem te_rev {x:X} {f st:PE} {p1 p:Pos} (h1:TE B u c x (fun env=>eval f env)) (h2:TE B u c (.cst (.int (-1))) (fun env=>eval st env)):TE B u c (.rev x) (fun env=>eval (.Subscript f (.Slice none none (some st) p1) p) env):=fun G N Q E K H q z =>
 Subscript_ (h1 G N _ E _ H q fun d1 Y1 v1 k1 a1 r1=>wpAny_Slice (wpAny_evalPart_none (wpAny_evalPart_none (wpAny_evalPart_some (h2 G Y1 _ E (fun d σ=>d = .int (-1)∧oK (asListL d1) fun l=>bK (decide (l.length≤capL)) (K (.list l.reverse) σ)) (H.to a1) ⟨rfl,k1⟩ fun d2 Y v k2 a2 r2=>by
  obtain ⟨rfl,k⟩:=k2
  obtain ⟨tk,rfl⟩:=r2
  cases d1 with
  | list l =>
   obtain ⟨hl,k⟩:=bK_of k
   have m1:=(More.refl Y).push { cls:=.type "slice",data:=.fields #[.none,.none,.int (-1) tk] }
   have hsl:=Heap.IsSliceOf.new Y.s.heap .none .none (.int (-1) tk)
   obtain ⟨a,vs,rfl,_,il,rs⟩:=Val.on a2 r1
   have il':(Y.s.heap.push { cls:=.type "slice",data:=.fields #[.none,.none,.int (-1) tk] }).IsList a vs:=il.list.at fun o e=>m1.k _ _ e
   have w:=new_list m1 a2.sm (vs:=slicePick vs none none (some (-1))) (l:=l.reverse) (by rw [slicePick_rev]; exact RVs_rev rs)
   exact tail_any il'.typeIs slot_list_getitem.lookup (wpAny_getItem_list_slice il' hsl .none .none (.int (-1) tk) (by decide) (z _ ((Y.at _).wi _) _ k ((a1.trans a2).trans w.1) w.2) (cap_line (arr_len rs (of_decide_eq_true hl)))) (ops:=[.ref a,.ref Y.s.heap.objs.size]) rfl
  | _=>exact False.elim k)))))
end
end Mine.Internal
namespace Mine.Internal
open PySem PySem.W PyProof.Rows
structure Gt where
 fns:List (Str × Nat)
 clss:List (Str × Nat)
 consts:List (Str × Nat)
 flds:List Str
 mths:List Str
structure ClsOk (K:Frag) (C:Addr):Prop where
 ga:findIn K (.ref C) "__getattribute__" = some (some (.builtin "object.__getattribute__"))
 gA:findIn K (.ref C) "__getattr__" = some none
 sa:findIn K (.ref C) "__setattr__" = some (some (.builtin "object.__setattr__"))
 po:plainOver K C = true
 hd:(clsIn K C).any (·.hasDict) = true
 ci:(clsIn K C).isSome = true
 mkc:makesIn K C = true
 kp:keepIn K (.ref C) = true
noncomputable def fldInO (K:Frag):Option (Option Value)→Bool
 | some none=>true
 | some (some a)=>takesIn K a == some false && (specialIn K a "__get__").isSome
 | none=>false
noncomputable def fldIn (K:Frag) (C:Addr) (x:Str):Bool:=fldInO K (findIn K (.ref C) x)
theorem fldIn_find {K:Frag} {C:Addr} {x:Str} {od:Option Obj} {cd:ClassData} {v:Value} (h:fldIn K C x = true) (hc:clsIn K C = some cd) (ho:PySem.W.ownOf cd od x = some (some v)):findObj K C od x = some (.value v):=by
 show (clsIn K C).bind _ = _
 rw [hc]
 show (findIn K (.ref C) x).bind _ = _
 have h:fldInO K (findIn K (.ref C) x) = true:=h
 cases e:findIn K (.ref C) x with
 | none=>rw [e] at h; cases h
 | some o=>cases o with
  | none =>
   show (PySem.W.ownOf cd od x).bind _ = _
   rw [ho]; rfl
  | some a =>
   rw [e] at h
   have h:(takesIn K a == some false && (specialIn K a "__get__").isSome) = true:=h
   obtain ⟨gt,hg⟩:=Option.isSome_iff_exists.mp (Bool.and_eq_true_iff.mp h).2
   show (specialIn K a "__get__").bind _ = _
   rw [hg]
   cases gt with
   | none =>
    show (PySem.W.ownOf cd od x).bind _ = _
    rw [ho]; rfl
   | some g =>
    show (takesIn K a).bind _ = _
    rw [beq_iff_eq.mp (Bool.and_eq_true_iff.mp h).1]
    show (PySem.W.ownOf cd od x).bind _ = _
    rw [ho]; rfl
structure Facts (B:Bd) (g:Gt):Prop where
 X:B.D.K.In B.D.base
 lim:B.D.base.NoLimit
 fn:∀ x i,g.fns.lookup x = some i→nsIn B.D.K mainGlobals x = some (some (.ref (B.D.fa i)))
 fk:∀ i,(B.P.fn i).isSome = true→keepIn B.D.K (.ref (B.D.fa i)) = true
 cl:∀ x i,g.clss.lookup x = some i→nsIn B.D.K mainGlobals x = some (some (.ref (B.D.ca i)))∧i < B.D.nc
 ck:∀ i,i < B.D.nc→ClsOk B.D.K (B.D.ca i)
 fl:∀ x,x∈g.flds→∀ i,i < B.D.nc→fldIn B.D.K (B.D.ca i) x = true
 mt:∀ x,x∈g.mths→∀ i f,B.P.meth i (encS x) = some f→i < B.D.nc∧findIn B.D.K (.ref (B.D.ca i)) x = some (some (.ref (B.D.fa f)))∧typeIn B.D.K (.ref (B.D.fa f)) = some (.type "function")∧(B.P.fn f).isSome = true
 ini:∀ i f,B.P.init i = some f→i < B.D.nc→findIn B.D.K (.ref (B.D.ca i)) "__init__" = some (some (.ref (B.D.fa f)))∧typeIn B.D.K (.ref (B.D.fa f)) = some (.type "function")
 co:∀ x k,g.consts.lookup x = some k→∀ d,B.P.glob k = some d→∃ v,nsIn B.D.K mainGlobals x = some (some v)∧∀ N,Sm B.D N→Val B N d v
noncomputable def TOk (B:Bd):Prop :=
 ∀ (A:Around) (N:Nx) (f:Nat) (ds:List V) (vs:List PV) (K:V→St→Prop),B.T.call f ds N.σ K→Room B.n 0 A→Sm B.D N→Vals B N ds vs→(B.P.fn f).isSome = true ∧
  ∀ (R:Result→Shared→Prop),(∀ d Y v,K d Y.σ→Aft B.D N noA Y→Val B Y d v→R (.ok (.ret v)) Y.s)→codeAny (model B.D.prog B.D.w) A (.call (.ref (B.D.fa f)) ⟨vs,[]⟩) R N.s
section
variable {B:Bd} {u:Nat} {c:Ck} {G:Ev} {N Y Z:Nx} {Q E:PV→Shared→Prop} {g:Gt}
theorem TOk.run (h:TOk B) {f:Nat} {ds:List V} {vs:List PV} {K:V→St→Prop} (e:B.T.call f ds N.σ K) (rm:Room B.n 0 G.A) (sm:Sm B.D N) (rs:Vals B N ds vs)
  (z:∀ d Y v,K d Y.σ→Aft B.D N noA Y→Val B Y d v→Q v Y.s):Wp B G N (call (.ref (B.D.fa f)) vs) Q E:=wpAny_call ((h G.A N f ds vs K e rm sm rs).2 _ z)
theorem Facts.x (F:Facts B g) (sm:Sm B.D N):B.D.K.In N.s.heap:=F.X.keeps sm.gi
theorem Room.zero {n u:Nat} {A:Around} (r:Room n u A):Room n 0 A:=⟨Nat.lt_of_le_of_lt (Nat.add_le_add_right (Nat.add_le_add_left (Nat.zero_le _) _) _) r.depth,Nat.lt_of_le_of_lt (Nat.add_le_add_left (Nat.zero_le _) _) r.units,r.hand⟩
theorem load_eq {x:Str} (H:Go B u c G N) (hx:c.sc.names.lookup x = some .globalImplicit):loadName G.env x = loadGlobal G.env x:=by
 have hx:G.env.kindOf x = some .globalImplicit:=(H.eo.kd x).trans hx
 have hb:G.env.blockKind = .function:=by delta Env.blockKind; rw [H.eo.kind]; rfl
 delta loadName
 rw [hb,hx,H.eo.kind]; rfl
theorem load_glo {x:Str} {v:PV} (H:Go B u c G N) (F:Facts B g) (hx:c.sc.names.lookup x = some .globalImplicit) (h:nsIn B.D.K mainGlobals x = some (some v)) (q:Q v N.s):Wp B G N (loadName G.env x) Q E:=by
 rw [load_eq H hx]
 delta loadGlobal
 rw [H.eo.gl]
 exact wpAny_bind ((looks_nsIn (F.x H.sm) h).here (wpAny_pure q))
theorem load_blt {x:Str} {v:PV} (H:Go B u c G N) (F:Facts B g) (hx:c.sc.names.lookup x = some .globalImplicit) (h:nsIn B.D.K mainGlobals x = some none) (h2:nsIn B.D.K builtinsNs x = some (some v)) (q:Q v N.s):Wp B G N (loadName G.env x) Q E:=by
 rw [load_eq H hx]
 delta loadGlobal
 rw [H.eo.gl,H.eo.bi]
 exact wpAny_bind ((looks_nsIn (F.x H.sm) h).here (wpAny_bind ((looks_nsIn (F.x H.sm) h2).here (wpAny_pure q))))
theorem of_not {b:Bool} (h:(!b) = true):b = false:=by cases b <;> first | rfl | exact absurd h Bool.false_ne_true
theorem plain_any {env:PEnv} {pos:Pos}:∀ (l:List PE),l.all (fun e=>!isStarred e) = true→(backTo pos (starEach l env)).any (·.1) = false
 | [],_=>rfl
 | e :: r,h=>by
  have h:=Bool.and_eq_true_iff.mp h
  rw [starEach_cons (of_not h.1)]
  exact plain_any r h.2
theorem callWith_gen {Pp:Heap→Prop} {f:PV} {first:List PV} {es:List PE} {pos:Pos} (hk:∀ h,Pp h→∃ k,(k = Keeper.frame ∨ k = Keeper.machine ∨ k = Keeper.boundFrame)∧Looks (model B.D.prog B.D.w) h (keeperOf f) k) (hs:es.all (fun e=>!isStarred e) = true)
  (h:Wp B G N (spliced (backTo pos (starEach es G.env))) (fun vs s₁=>Pp s₁.heap∧wpAny (model B.D.prog B.D.w) G.A (call f (first++vs)) Q E s₁) E):Wp B G N (callWith pos f first (backTo pos (starEach es G.env)) []) Q E:=by
 have hp:=plain_any (env:=G.env) (pos:=pos) es hs
 cases es with
 | nil =>
  refine callWith_of rfl hk ?_
  show wpAny _ G.A (spliced [] >>= _) _ E N.s
  exact wpAny_bind (wpAny_mono h (fun vs s' h'=>wpAny_holding (wpAny_bind (wpAny_pure (wpAny_bind (wpAny_pure (wpAny_pure h')))))) fun _ _ x=>x)
 | cons e r =>
  rw [starEach_cons (of_not (Bool.and_eq_true_iff.mp hs).1)] at h hp ⊢
  exact callWith_of (by rw [hp]; rfl) hk (Calls.evalArgs_plain h)
theorem callWith_any {f:PV} {first:List PV} {es:List PE} {pos:Pos} (hk:keepIn B.D.K f = true) (hs:es.all (fun e=>!isStarred e) = true)
  (h:Wp B G N (spliced (backTo pos (starEach es G.env))) (fun vs s₁=>B.D.K.In s₁.heap∧wpAny (model B.D.prog B.D.w) G.A (call f (first++vs)) Q E s₁) E):Wp B G N (callWith pos f first (backTo pos (starEach es G.env)) []) Q E :=
 callWith_gen (keeps_K hk) hs h
theorem te_call {f:Nat} {x:Str} {xs:List X} {es:List PE} {np pos:Pos} (F:Facts B g) (TO:TOk B) (h0:g.fns.lookup x = some f) (hf:(B.P.fn f).isSome = true) (h1:c.sc.names.lookup x = some .globalImplicit) (h2:(x == ("__debug__":Str)) = false)
  (hs:es.all (fun e=>!isStarred e) = true) (h3:TEs B u c xs (fun env=>spliced (backTo pos (starEach es env)))):TE B u c (.call f xs) (fun env=>eval (.Call (.Name x np) es [] pos) env):=fun G N Q E K H q z =>
 wpAny_bind (wpAny_Name (load_glo H F h1 (F.fn x f h0) (callWith_any (F.fk f hf) hs (h3 G N _ E _ H q fun ds Y vs k1 l1 a1 r1=>⟨F.x a1.sm,
  TO.run (G:=G) (N:=Y) k1 H.rm.zero a1.sm r1 fun d Y2 v k2 a2 r2=>z d Y2 v k2 (a1.trans a2) r2⟩))) h2)
theorem te_glob {k:Nat} {x:Str} {p:Pos} (F:Facts B g) (h0:g.consts.lookup x = some k) (h1:c.sc.names.lookup x = some .globalImplicit) (h2:(x == ("__debug__":Str)) = false):TE B u c (.glob k) (fun env=>eval (.Name x p) env):=fun G N Q E K H q z =>
 oK_of q fun d e k1=>(F.co x k h0 d e).elim fun v w=>wpAny_Name (load_glo H F h1 w.1 (z d N v k1 H.refl (w.2 N H.sm))) h2
structure Ins (B:Bd) (N:Nx) (p:Addr × Addr) (k:Nat) (fs:List (Nat × V)) (od:Obj) (mm:Str→Option PV):Prop where
 nc:k < B.D.nc
 at_:InstAt N.s.heap p.1 (instObj (B.D.ca k) p.2) (B.D.ca k) (some od)
 fo:FldOk B.D N mm fs
 lk:∀ x,lookIn x od = some (mm x)
theorem ins_at {p:Addr × Addr} {k:Nat} {fs:List (Nat × V)} (r:OR B.D N p (.inst k fs)):∃ od mm,Ins B N p k fs od mm:=by
 obtain ⟨⟨nc,e⟩,ne,mm,nl,n1,f,_⟩:=r
 obtain ⟨od,es,ep,ho,hd,hk,hl⟩:=n1.ns
 have lk:∀ x,lookIn x od = some (mm x):=fun x=>by
  delta lookIn
  rw [hd]
  dsimp only
  have nr:es.toList.any (·.refKey) = false:=by
   rw [List.any_eq_false]
   intro d hd
   obtain ⟨y,t,ek⟩:=hk d (Array.mem_toList_iff.mp hd)
   delta DictEntry.refKey
   rw [ek]; exact Bool.false_ne_true
  have hx:=hl x
  unfold nsFind findBy at hx
  rw [← Array.find?_toList] at hx
  cases e1:es.toList.find? (fun d=>d.key.isStr x) with
  | some d=>rw [e1] at hx; exact congrArg some hx
  | none=>rw [e1] at hx; dsimp only; rw [nr]; exact congrArg some hx
 exact ⟨od,mm,nc,⟨e,rfl,rfl,ho⟩,f,lk⟩
noncomputable def argsN (e:PE):Nat:=if h:e.ctorIdx = 16 then PySem.Expr.Call.elim (motive_1:=fun _=>Nat) e h (fun _ es ks _=>es.length + ks.length) else 1
noncomputable def plainBase (e:PE):Bool:=!(argsN e == 0)
theorem attributeBase_plain {o:PE} {attr:Str} {env:PEnv} {whole:Sem PV} (h:plainBase o = true):attributeBase o attr env whole = whole:=by
 cases o with
 | Call f a k p=>cases f with
  | Name id q=>cases a with
   | nil=>cases k with
    | nil=>cases h
    | cons=>rfl
   | cons=>rfl
  | _=>rfl
 | _=>rfl
theorem inst_of {v:V} {x:PV} {f:Option SObj→Prop} (sm:Sm B.D N) (r:Val B N v x) {k:Nat} (e:v = .loc k) (h:f N.σ[k]?) (hf:∀ o,f o→∃ cc fs,o = some (.inst cc fs)) :
  ∃ p cc fs od mm,x = .ref p.1∧Ins B N p cc fs od mm∧f (some (.inst cc fs)):=by
 subst e
 obtain ⟨p,rfl,hp⟩:=r
 obtain ⟨cc,fs,e⟩:=hf _ h
 obtain ⟨od,mm,I⟩:=ins_at (sm.obj k _ p e hp)
 exact ⟨p,cc,fs,od,mm,rfl,I,e ▸ h⟩
theorem handed_val {d:V} {v:PV} (rv:Val B N d v):handedIn v = true:=by
 cases d with
 | none=>cases (rv:v = _); rfl
 | bool=>cases (rv:v = _); rfl
 | int=>obtain ⟨t,rfl⟩:=rv; rfl
 | str=>obtain ⟨y,t,rfl,_⟩:=rv; rfl
 | loc=>obtain ⟨y,rfl,_⟩:=rv; rfl
 | _=>obtain ⟨y,t,rfl,_⟩:=rv; rfl
theorem get_field {p:Addr × Addr} {k f:Nat} {fs:List (Nat × V)} {x:Str} {od:Obj} {mm:Str→Option PV} {K:V→Prop} (F:Facts B g) (sm:Sm B.D N) (hx:x∈g.flds) (ho:strOk x = true) (he:encS x = f)
  (I:Ins B N p k fs od mm) (e:oK (getA fs f) K) (z:∀ d v t,K d→Val B N d v→Q v (N.tk t).s):Wp B G N (getAttr (.ref p.1) x true) Q E:=by
 have C:=F.ck k I.nc
 have fx:=I.fo x ho
 rw [he] at fx
 refine oK_of e fun d e1 hk=>?_
 rw [e1] at fx
 obtain ⟨v,e2,rv⟩:=fx
 refine get_value (F.x sm) I.at_ C.ga ?_ (handed_val (B:=B) rv) (z d v _ hk rv)
 obtain ⟨cd,hcd⟩:=Option.isSome_iff_exists.mp C.ci
 have hdi:cd.hasDict = true:=by have:=C.hd; rw [hcd] at this; exact this
 refine fldIn_find (F.fl x hx k I.nc) hcd ?_
 show (if cd.hasDict = true then _ else _) = _
 rw [if_pos hdi]
 show lookIn x od = _
 rw [I.lk,e2]
theorem te_attr {y:X} {e:PE} {x:Str} {f:Nat} {pos:Pos} (F:Facts B g) (hb:plainBase e = true) (hx:x∈g.flds) (ho:strOk x = true) (he:encS x = f)
  (h1:TE B u c y (fun env=>eval e env)):TE B u c (.attr y f) (fun env=>eval (.Attribute e x pos) env):=fun G N Q E K H q z=>by
 have hb':eval (.Attribute e x pos) G.env = (do
   let o ← eval e G.env
   standAt pos.atName
   let r ← holding [o] (getAttr o x true)
   letTemporaryGo e o r
   pure r):=by rw [arm_eval_Attribute,attributeBase_plain hb]
 refine Attribute_any_ (h1 G N _ E _ H q fun d Y v k1 a r=>?_) hb'
 cases d with
 | loc k =>
  obtain ⟨p,cc,fs,od,mm,rfl,I,k2⟩:=inst_of (f:=fun o=>oK (fldO f o) fun w=>K w Y.σ) a.sm r rfl k1 fun o h=>by
   cases o with
   | none=>exact False.elim h
   | some o=>cases o <;> first | exact ⟨_,_,rfl⟩ | exact False.elim h
  exact get_field (G:=G) F a.sm hx ho he I k2 fun d v t k3 rv=>z d (Y.tk t) v k3 (a.trans (toks_ok a.sm t)) (Val.on (toks_ok a.sm t) rv)
 | _=>exact False.elim k1
theorem plain_all {env:PEnv} {pos:Pos}:∀ (l:List PE),l.all (fun e=>!isStarred e) = true→(backTo pos (starEach l env)).all (fun x=>!x.1) = true
 | [],_=>rfl
 | e :: r,h=>by
  have h:=Bool.and_eq_true_iff.mp h
  rw [starEach_cons (of_not h.1)]
  exact plain_all r h.2
theorem eval_methB {o:PE} {x:Str} {apos pos:Pos} {es:List PE} {env:PEnv} (hl:(apos.endLine == pos.line) = true) (hn:es.length < 29) (hs:es.all (fun e=>!isStarred e) = true) :
  eval (.Call (.Attribute o x apos) es [] pos) env = (do
   let ov ← attributeBase o x env (eval o env)
   standAt apos.atName
   let (f,first) ← holding [ov] (getMethod ov x (do return (← importBound o env).getD true))
   callWith pos f first (backTo pos (starEach es env)) []):=by
 rw [arm_eval_Call]
 have few:methodCallForm (es.length + ([]:List Keyword).length) (backTo pos (starEach es env)) (backToKw pos (keywordEach [] env)) = true:=by
  delta methodCallForm
  rw [plain_all es hs]
  show (true && true && decide (es.length + 0 + 0 < 30)) = true
  exact decide_eq_true (Nat.lt_succ_of_lt hn)
 delta methodCall
 rw [few]
 have e:∀ o env,methodCallPos true o env apos pos = pure pos:=fun o env=>if_pos (by rw [hl]; rfl)
 refine bind_congr fun ov=>bind_congr fun _=>bind_congr fun p=>?_
 rw [e]; rfl
theorem eval_method {o:PE} {x:Str} {apos pos:Pos} {es:List PE} {env:PEnv} (hb:plainBase o = true) (hl:(apos.endLine == pos.line) = true) (hn:es.length < 29) (hs:es.all (fun e=>!isStarred e) = true) :
  eval (.Call (.Attribute o x apos) es [] pos) env = (do
   let ov ← eval o env
   standAt apos.atName
   let (f,first) ← holding [ov] (getMethod ov x (do return (← importBound o env).getD true))
   callWith pos f first (backTo pos (starEach es env)) []):=by rw [eval_methB hl hn hs,attributeBase_plain hb]
theorem get_meth {p:Addr × Addr} {k f fn:Nat} {fs:List (Nat × V)} {x:Str} {od:Obj} {mm:Str→Option PV} {pl:Sem Bool} {Q:PV × List PV→Shared→Prop} (F:Facts B g) (sm:Sm B.D N) (hx:x∈g.mths) (ho:strOk x = true) (he:encS x = f)
  (I:Ins B N p k fs od mm) (e:getA fs f = none) (e2:B.P.meth k f = some fn) (z:Q (.ref (B.D.fa fn),[.ref p.1]) N.s):wpAny (model B.D.prog B.D.w) G.A (getMethod (.ref p.1) x pl) Q E N.s:=by
 have C:=F.ck k I.nc
 obtain ⟨_,m1,m2,m3⟩:=F.mt x hx k fn (he ▸ e2)
 have fx:=I.fo x ho
 rw [he,e] at fx
 exact method_fn (F.x sm) I.at_ C.ga C.gA m1 m2 (by rw [shadowIn,I.lk,fx]; rfl) z
theorem te_meth {y:X} {o:PE} {x:Str} {xs:List X} {es:List PE} {f:Nat} {apos pos:Pos} (F:Facts B g) (TO:TOk B) (hb:plainBase o = true) (hl:(apos.endLine == pos.line) = true) (hn:es.length < 29)
  (hs:es.all (fun e=>!isStarred e) = true) (hx:x∈g.mths) (ho:strOk x = true) (he:encS x = f) (h1:TE B u c y (fun env=>eval o env)) (h2:TEs B u c xs (fun env=>spliced (backTo pos (starEach es env)))) :
  TE B u c (.meth y f xs) (fun env=>eval (.Call (.Attribute o x apos) es [] pos) env):=fun G N Q E K H q z=>by
 show wpAny _ _ (eval (.Call (.Attribute o x apos) es [] pos) G.env) _ _ _
 rw [eval_method hb hl hn hs]
 refine wpAny_bind (h1 G N _ E _ H q fun d Y v k1 a r=>?_)
 have r0:=r
 cases d with
 | loc k =>
  obtain ⟨p,cc,fs,od,mm,rfl,I,k2⟩:=inst_of (f:=fun o=>oK (methO B.P k f o) fun kf=>kEs B.P B.T xs G.ρ Y.σ fun l σ=>B.T.call kf.2 (.loc kf.1 :: l) σ K) a.sm r rfl k1 fun o h=>by
   cases o with
   | none=>exact False.elim h
   | some o=>cases o <;> first | exact ⟨_,_,rfl⟩ | exact False.elim h
  cases e:getA fs f with
  | some w=>rw [methO,e] at k2; exact False.elim k2
  | none =>
   rw [methO,e] at k2
   refine oK_of (oK_map k2) fun fn e2 k3=>?_
   refine wpAny_bind (wpAny_standAt (wpAny_bind (wpAny_holding (get_meth (G:=G) F a.sm hx ho he I e e2 ?_))))
   exact callWith_any (G:=G) (F.fk fn (F.mt x hx cc fn (he ▸ e2)).2.2.2) hs (h2 G Y _ E _ (H.to a) k3 fun ds Y2 vs k4 l2 a2 r2 =>
    have b:=a.trans a2
    ⟨F.x b.sm,TO.run (G:=G) (N:=Y2) (ds:=.loc k :: ds) k4 H.rm.zero b.sm ⟨_,_,rfl,Val.on a2 r0,r2⟩ fun d3 Y3 v3 k5 a3 r3=>z d3 Y3 v3 k5 (b.trans a3) r3⟩)
 | _=>exact False.elim k1
end
end Mine.Internal
namespace Mine.Internal
open PySem PySem.W PyProof.Rows
section
variable {B:Bd} {u:Nat} {c:Ck} {G:Ev} {N Y Z:Nx} {Q E:PV→Shared→Prop} {g:Gt}
theorem stored_ne {k x:Str} {v w:PV} {t:List (Str × PV)} (h:x ≠ k):stored ((x,w) :: t) k v = (x,w) :: stored t k v:=by
 delta stored
 have hx:decide (x = k) = false:=decide_eq_false h
 simp only [List.any_cons,hx,Bool.false_or]
 split
 ·rw [List.map_cons,if_neg h]
 ·rfl
theorem stored_eq {k:Str} {v w:PV} {t:List (Str × PV)} (h:k ∉ t.map (·.1)):stored ((k,w) :: t) k v = (k,v) :: t:=by
 delta stored
 simp only [List.any_cons,decide_true,Bool.true_or,if_true,List.map_cons]
 exact congrArg _ ((List.map_congr_left (g:=id) fun p hp=>if_neg fun e=>h (List.mem_map.mpr ⟨p,hp,e⟩)).trans (List.map_id _))
theorem RVd_set {D:Wd} {z:Str} (hz:strOk z = true) {v:PV} {d:V} (rv:RV D N d v):∀ {l:List (V × V)} {kvs:List (Str × PV)},RVd D N l kvs→(kvs.map (·.1)).Nodup→RVd D N (dset (.str (encS z)) d l) (stored kvs z v)
 | [],kvs,r,_=>by cases (r:kvs = []); exact ⟨z,v,[],rfl,⟨rfl,hz⟩,rv,rfl⟩
 | (k,e) :: l,kvs,r,nd=>by
  obtain ⟨x,w,t,rfl,⟨rfl,hx⟩,r1,r2⟩:=r
  have nd:=List.nodup_cons.mp nd
  by_cases e:x = z
  ·subst e
   rw [show dset (.str (encS x)) d ((.str (encS x),_) :: l) = _ from if_pos (decide_eq_true rfl),stored_eq nd.1]
   exact ⟨x,v,t,rfl,⟨rfl,hx⟩,rv,r2⟩
  ·rw [show dset (.str (encS z)) d ((.str (encS x),_) :: l) = _ from if_neg fun q=>e (encS_inj hx hz (of_decide_eq_true q)),stored_ne e]
   exact ⟨x,w,_,rfl,⟨rfl,hx⟩,r1,RVd_set hz rv r2 nd.2⟩
theorem stored_nodup {k:Str} {v:PV}:∀ {kvs:List (Str × PV)},(kvs.map (·.1)).Nodup→((stored kvs k v).map (·.1)).Nodup:=fun {kvs} nd=>by
 by_cases h:kvs.any (fun p=>decide (p.1 = k)) = true
 ·delta stored
  rw [if_pos h,List.map_map,List.map_congr_left (g:=(·.1)) fun p _=>by show (if p.1 = k then (p.1,v) else p).1 = p.1; split <;> rfl]
  exact nd
 ·delta stored
  rw [if_neg h,List.map_append,List.nodup_append]
  refine ⟨nd,List.nodup_cons.mpr ⟨List.not_mem_nil,List.nodup_nil⟩,fun a ha b hb e=>?_⟩
  obtain ⟨p,hp,e2⟩:=List.mem_map.mp ha
  exact h (List.any_eq_true.mpr ⟨p,hp,decide_eq_true (e2.trans (e.trans (List.mem_singleton.mp hb)))⟩)
inductive Kv (B:Bd) (u:Nat) (c:Ck):List X→List (Option PE)→List PE→Prop
 | nil:Kv B u c [] [] []
 | cons {x y:X} {xs:List X} {k v:PE} {ks:List (Option PE)} {vs:List PE}:TE B u c x (fun env=>eval k env)→TE B u c y (fun env=>eval v env)→Kv B u c xs ks vs→Kv B u c (x :: y :: xs) (some k :: ks) (v :: vs)
theorem Kv.all {xs:List X} {ks:List (Option PE)} {vs:List PE} (h:Kv B u c xs ks vs):ks.all (·.isSome) = true∧ks.length = vs.length:=by
 induction h with
 | nil=>exact ⟨rfl,rfl⟩
 | cons _ _ _ ih=>exact ⟨ih.1,congrArg (· + 1) ih.2⟩
noncomputable def flatP:List (PV × PV)→List PV
 | []=>[]
 | (a,b) :: r=>a :: b :: flatP r
theorem pairs_all {xs:List X} {ks:List (Option PE)} {vs:List PE} (h:Kv B u c xs ks vs) (pos:Pos):∀ (G:Ev) (N:Nx) (Q:List (PV × PV)→Shared→Prop) (E:PV→Shared→Prop) (K:List V→St→Prop),Go B u c G N→kXs B G N xs K →
  (∀ ds Y l,K ds Y.σ→Aft B.D N noA Y→Vals B Y ds (flatP l)→Q l Y.s)→Wp B G N (evalPairs (pairTrees ks vs G.env pos)) Q E:=by
 induction h with
 | nil=>exact fun G N Q E K H q z=>evalPairs_nil (z [] N [] q H.refl rfl)
 | cons h1 h2 _ ih=>exact fun G N Q E K H q z=>evalPairs_cons (h1 G N _ E _ H q fun d1 Y1 v1 k1 a1 r1=>wpAny_bind (h2 G Y1 _ E _ (H.to a1) k1 fun d2 Y2 v2 k2 a2 r2=>wpAny_bind (wpAny_standAt (wpAny_pure
   (ih G Y2 _ E _ (H.to (a1.trans a2)) k2 fun ds Y3 l k3 a3 r3=>z _ Y3 ((v1,v2) :: l) k3 ((a1.trans a2).trans a3) ⟨_,_,rfl,Val.on (a2.trans a3) r1,_,_,rfl,Val.on a3 r2,r3⟩)))))
theorem pairs_carry {K:List (V × V)→Prop}:∀ {ds:List V} {l:List (PV × PV)} {acc:List (V × V)} {kvs:List (Str × PV)},oK (pairUp ds acc) K→Vals B N ds (flatP l)→RVd B.D N acc kvs→(kvs.map (·.1)).Nodup →
  ∃ dd k2,K dd∧Carries (SK B.D) l k2∧RVd B.D N dd (merged kvs k2)
 | [],[],acc,kvs,e,r,ra,nd=>⟨acc,[],e,trivial,ra⟩
 | [],_ :: _,acc,kvs,e,r,ra,nd=>nomatch (show _ :: _ = [] from r)
 | [_],l,acc,kvs,e,r,ra,nd=>False.elim e
 | k :: v :: ds,[],acc,kvs,e,r,ra,nd=>by obtain ⟨v,t,e,_⟩:=r; cases e
 | k :: v :: ds,(a,b) :: t,acc,kvs,e,r,ra,nd=>by
  obtain ⟨hk,e⟩:=if_of (show oK (if keyOk k then pairUp ds (dset k v acc) else none) K from e)
  obtain ⟨_,_,e1,r1,_,_,e2,r2,r3⟩:=r
  cases e1
  cases e2
  obtain ⟨z,tk,rfl,hz,rfl,is⟩:=key_of hk r1
  obtain ⟨dd,k2,h,c2,r4⟩:=pairs_carry e r3 (RVd_set hz r2 ra nd) (stored_nodup nd)
  exact ⟨dd,(z,b) :: k2,h,⟨is,rfl,c2⟩,r4⟩
noncomputable def dictObj:Obj:={ cls:=.type "dict",data:=.dict #[] }
theorem tf_dict {xs:List X} {ks:List (Option PE)} {vs:List PE} {pos:Pos} (h:Kv B u c xs ks vs) (hl:ks.length≤15):TF B u c (.dict xs) (fun env=>eval (.Dict ks vs pos) env):=fun G N Q E K H q z=>by
 obtain ⟨a,p⟩:=push_ok H.sm (o:=dictObj) rfl
 have dn:IsDc B.D (N.s.heap.push dictObj) N.s.heap.objs.size []:=⟨H.sm.one,Heap.DictOf.new N.s.heap⟩
 cases h with
 | nil=>exact wpAny_Dict_empty (z (.dict []) (N.psh _) _ q a no_new p ⟨[],dn,rfl⟩)
 | @cons x y xs k v ks vs h1 h2 h3 =>
  have hk:=(Kv.cons h1 h2 h3).all
  refine wpAny_Dict_walk (knd:=SK B.D) hk.1 hk.2 (by simp) (by (first | lia | omega)) (pairs_all (.cons h1 h2 h3) pos G (N.psh dictObj) _ E _ (H.to a) q fun ds Y l k1 a1 r1=>?_)
  obtain ⟨dd,k2,hK,c2,r2⟩:=pairs_carry (kvs:=[]) k1 r1 rfl List.nodup_nil
  refine ⟨k2,c2,dn.2.at (fun o e=>a1.old p.nc e),fun h' dh sb=>?_⟩
  have t:=Aft.turn1 (t:=Y.s.toks + l.length) a1.sm (p.go a1) (fun c o n e=>sb.extBut c o n e) (dh.elim fun o q=>q.elim fun _ q=>q.elim fun _ q=>⟨o,q.1⟩)
  exact z (.dict dd) (Y.at _) _ hK (((a.trans a1).up.trans t).hide fun b e=>by rw [e]; exact no_new) no_new ((p.go a1).go t) ⟨_,⟨H.sm.one,dh⟩,RVd_le t.le _ _ r2⟩
theorem beq_none {r:V} (h:V.beq r .none = true):r = .none:=by cases r <;> first | rfl | exact absurd h Bool.false_ne_true
noncomputable def newH (h:Heap) (C:Addr):Heap:=(h.push emptyDict).push (instObj C h.objs.size)
noncomputable def newP (h:Heap):Addr × Addr:=(h.objs.size + 1,h.objs.size)
theorem new_obj {k:Nat} (m:Sm B.D N) (hk:k < B.D.nc):Aft B.D N noA ((N.at { N.s with heap:=newH N.s.heap (B.D.ca k) }).lo (newP N.s.heap) (.inst k [])):=by
 have w:=(More.refl N).push emptyDict
 have w2:=w.push (instObj (B.D.ca k) N.s.heap.objs.size)
 have e0:(N.s.heap.push emptyDict).get? N.s.heap.objs.size = some emptyDict:=push_at rfl
 have e1:(newH N.s.heap (B.D.ca k)).get? (N.s.heap.objs.size + 1) = some (instObj (B.D.ca k) N.s.heap.objs.size):=by
  have:=Heap.get?_push_size (N.s.heap.push emptyDict) (o:=instObj (B.D.ca k) N.s.heap.objs.size) rfl
  rw [Heap.size_push] at this
  exact this
 have n1:¬ N.has (N.s.heap.objs.size + 1):=fun h=>absurd (has_lt h) (Nat.not_lt.mpr (Nat.le_succ _))
 exact (w2.aft m).lo (w2.pv m n1 e1) (w2.pv m no_new (Heap.get?_push_of_some _ e0)) ⟨n1,no_new⟩ (base_none m no_new)
  ⟨⟨hk,e1⟩,Nat.succ_ne_self _,fun _=>none,[],(Heap.Ns1.of_empty (Heap.Ns.new N.s.heap (.type "dict"))).at fun o e=>Heap.get?_push_of_some _ e,fun x _=>rfl,Within.nil,Nat.le_refl _⟩
theorem te_new {k:Nat} {x:Str} {xs:List X} {es:List PE} {np pos:Pos} (F:Facts B g) (TO:TOk B) (hu:40≤u) (h0:g.clss.lookup x = some k) (h1:c.sc.names.lookup x = some .globalImplicit) (h2:(x == ("__debug__":Str)) = false)
  (hs:es.all (fun e=>!isStarred e) = true) (h3:TEs B u c xs (fun env=>spliced (backTo pos (starEach es env)))):TE B u c (.new k xs) (fun env=>eval (.Call (.Name x np) es [] pos) env):=fun G N Q E K H q z=>by
 obtain ⟨hcl,hk⟩:=F.cl x k h0
 have C:=F.ck k hk
 refine wpAny_bind (wpAny_Name (load_glo H F h1 hcl (callWith_any C.kp hs (h3 G N _ E _ H q fun ds Y vs k1 l1 a r=>⟨F.x a.sm,?_⟩))) h2)
 refine oK_of k1 fun f hf k2=>?_
 obtain ⟨i1,i2⟩:=F.ini k f hf hk
 refine wpAny_call (make_core (makes_of (F.x a.sm) C.mkc) (looks_findIn (F.x a.sm) i1) (fun self=>bind_fn (F.x a.sm) self i2) (.inl rfl) ?_)
 have af:=new_obj (k:=k) a.sm hk
 have rl:Val B ((Y.at { Y.s with heap:=newH Y.s.heap (B.D.ca k) }).lo (newP Y.s.heap) (.inst k [])) (.loc Y.σ.length) (.ref (Y.s.heap.objs.size + 1)):=⟨newP Y.s.heap,rfl,by rw [← a.sm.len]; exact at_end⟩
 have h1:=H.rm.depth
 have h2:=H.rm.units
 refine (TO (G.A.under (.builtin "type.__call__" ⟨.ref (B.D.ca k) :: ([]++vs),[]⟩)) _ f (.loc Y.σ.length :: ds) (.ref (Y.s.heap.objs.size + 1) :: vs) _ k2
  ⟨by show G.A.depth + 1 + 5 * B.n + 0 + 2 < recursionLimit; (first | lia | omega),by show G.A.units + 1 + 100 * B.n + 0 < cLine; (first | lia | omega),H.rm.hand⟩ af.sm ⟨_,_,rfl,rl,Vals.on af r⟩).2 _ fun d Y3 v3 k3 a3 r3=>?_
 obtain ⟨hn,k4⟩:=bK_of k3
 cases beq_none hn
 exact ⟨r3,z (.loc Y.σ.length) Y3 _ k4 ((a.trans af).trans a3) (Val.on a3 rl)⟩
end
end Mine.Internal
namespace Mine.Internal
open PySem PySem.W PyProof.Rows PySem.Calls
structure BiOk (D:Wd) (c:Ck) (x:Str) (v:PV):Prop where
 g:nsIn D.K mainGlobals x = some none
 b:nsIn D.K builtinsNs x = some (some v)
 k:c.sc.names.lookup x = some .globalImplicit
 d:(x == ("__debug__":Str)) = false
noncomputable def isBi:PV→Bool
 | .builtin _=>true
 | .type _=>true
 | _=>false
section
variable {B:Bd} {u:Nat} {c:Ck} {G:Ev} {N Y Z:Nx} {Q E:PV→Shared→Prop} {g:Gt}
theorem callWith_bi {f:PV} {first:List PV} {es:List PE} {pos:Pos} (hk:isBi f = true) (hs:es.all (fun e=>!isStarred e) = true)
  (h:Wp B G N (spliced (backTo pos (starEach es G.env))) (fun vs s₁=>wpAny (model B.D.prog B.D.w) G.A (call f (first++vs)) Q E s₁) E):Wp B G N (callWith pos f first (backTo pos (starEach es G.env)) []) Q E:=by
 have args:wpAny (model B.D.prog B.D.w) G.A (evalArgs f true (backTo pos (starEach es G.env)) []) (fun a s₁=>wpAny (model B.D.prog B.D.w) G.A (call f (first++a.pos) a.kw) Q E s₁) E N.s:=by
  cases es with
  | nil =>
   show wpAny _ G.A (spliced [] >>= _) _ E N.s
   exact wpAny_bind (wpAny_mono h (fun vs s' h'=>wpAny_holding (wpAny_bind (wpAny_pure (wpAny_bind (wpAny_pure (wpAny_pure h')))))) fun _ _ x=>x)
  | cons e r =>
   rw [starEach_cons (of_not (and_l hs))] at h ⊢
   exact Calls.evalArgs_plain h
 cases f with
 | builtin id=>exact Calls.callWith_builtin (plain_any es hs) args
 | type t=>exact PySem.callWith_type (plain_any es hs) args
 | _=>exact absurd hk Bool.false_ne_true
theorem call_name {x:Str} {v:PV} {xs:List X} {es:List PE} {np pos:Pos} {K:List V→St→Prop} (F:Facts B g) (BB:BiOk B.D c x v) (hv:isBi v = true) (hs:es.all (fun e=>!isStarred e) = true) (h3:TEs B u c xs (fun env=>spliced (backTo pos (starEach es env))))
  (H:Go B u c G N) (q:kXs B G N xs K) (z:∀ ds Y vs,K ds Y.σ→Aft B.D N noA Y→Vals B Y ds vs→wpAny (model B.D.prog B.D.w) G.A (call v vs) Q E Y.s):Wp B G N (eval (.Call (.Name x np) es [] pos) G.env) Q E :=
 wpAny_bind (wpAny_Name (load_blt H F BB.k BB.g BB.b (callWith_bi hv hs (h3 G N _ E _ H q fun ds Y vs k _ a r=>z ds Y vs k a r))) BB.d)
noncomputable def CallOk (B:Bd) (u:Nat) (f:PV) (b:Bi):Prop :=
 ∀ (G:Ev) (N:Nx) (ds:List V) (vs:List PV) (Q E:PV→Shared→Prop) (K:V→Prop),Room B.n u G.A→oK (biE N.σ b ds) K→Sm B.D N→Vals B N ds vs →
  (∀ d Y v,K d→Aft B.D N noA Y→Y.σ = N.σ→Val B Y d v→Q v Y.s)→Wp B G N (call f vs) Q E
noncomputable def CallF (B:Bd) (u:Nat) (f:PV) (b:Bi):Prop :=
 ∀ (G:Ev) (N:Nx) (ds:List V) (vs:List PV) (Q E:PV→Shared→Prop) (K:V→Prop),Room B.n u G.A→oK (biE N.σ b ds) K→Sm B.D N→Vals B N ds vs →
  (∀ d Y a,K d→Aft B.D N noA Y→Y.σ = N.σ→¬ N.has a→Pv Y a→RC B.D Y a d→Q (.ref a) Y.s)→Wp B G N (call f vs) Q E
theorem te_bi {b:Bi} {x:Str} {f:PV} {xs:List X} {es:List PE} {np pos:Pos} (F:Facts B g) (BB:BiOk B.D c x f) (hf:isBi f = true) (hs:es.all (fun e=>!isStarred e) = true) (h3:TEs B u c xs (fun env=>spliced (backTo pos (starEach es env)))) (hc:CallOk B u f b) :
  TE B u c (.bi b xs) (fun env=>eval (.Call (.Name x np) es [] pos) env):=fun G N Q E K H q z =>
 call_name F BB hf hs h3 H q fun ds Y vs k a r=>hc G Y ds vs Q E _ H.rm k a.sm r fun d Z v k2 a2 es r2=>z d Z v (by rw [es]; exact k2) (a.trans a2) r2
theorem tf_bi {b:Bi} {x:Str} {f:PV} {xs:List X} {es:List PE} {np pos:Pos} (F:Facts B g) (BB:BiOk B.D c x f) (hf:isBi f = true) (hs:es.all (fun e=>!isStarred e) = true) (h3:TEs B u c xs (fun env=>spliced (backTo pos (starEach es env)))) (hc:CallF B u f b) :
  TF B u c (.bi b xs) (fun env=>eval (.Call (.Name x np) es [] pos) env):=fun G N Q E K H q z =>
 call_name F BB hf hs h3 H q fun ds Y vs k a r=>hc G Y ds vs Q E _ H.rm k a.sm r fun d Z b k2 a2 es n p rc=>z d Z b (by rw [es]; exact k2) (a.trans a2) (fun h=>n (a.ex _ h)) p rc
theorem one_of {l:List V} {f:V→Option V} {K:V→Prop} (h:oK (one l f) K):∃ v,l = [v]∧oK (f v) K:=match l,h with
 | [v],h=>⟨v,rfl,h⟩
theorem Vals.one {d:V} {vs:List PV} (r:Vals B N [d] vs):∃ v,vs = [v]∧Val B N d v:=r.elim fun v q=>q.elim fun t q=>⟨v,q.1.trans (congrArg (v :: ·) q.2.2),q.2.1⟩
theorem uno {f:V→Option V} {ds:List V} {vs:List PV} {K:V→Prop} {Z:Prop} (e:oK (one ds f) K) (r:Vals B N ds vs) (z:∀ d v,vs = [v]→oK (f d) K→Val B N d v→Z):Z :=
 (one_of e).elim fun d q=>(Vals.one (N:=N) (d:=d) (by rw [← q.1]; exact r)).elim fun v w=>z d v w.1 q.2 w.2
theorem len_eq {l:List V} {vs:Array PV} (rs:Vals B N l vs.toList):vs.size = l.length:=Array.length_toList.symm.trans (RVs_length rs)
theorem RVd_length {D:Wd} {d:List (V × V)}:∀ {v:List (Str × PV)},RVd D N d v→v.length = d.length:=by
 induction d with
 | nil=>exact fun r=>congrArg List.length r
 | cons x l ih =>
  intro v r
  obtain ⟨n,w,t,rfl,_,_,r2⟩:=r
  exact congrArg (· + 1) (ih r2)
theorem cap_ln {n m:Nat} (e:n = m) (h:m≤capL):n≤sizeLine:=cap_line (e ▸ h)
theorem cap_63 {n m:Nat} (e:n = m) (h:m≤capL):(n:Int) < 2 ^ 63:=Int.lt_of_le_of_lt (Int.ofNat_le.mpr (Nat.le_trans (Nat.le_of_eq e) h)) (by decide)
theorem ok_max:CallOk B u (.builtin "max") .max:=fun G N ds vs Q E K rm e sm rs z=>match ds,e,rs with
 | [a,b],e,rs=>by
  obtain ⟨v,_,rfl,r1,w,_,rfl,r2,e3⟩:=rs
  cases (e3:_ = [])
  obtain ⟨i,t,rfl,rfl,e⟩:=asInt_of (B:=B) (oK_bind e) r1
  obtain ⟨j,t',rfl,rfl,e⟩:=asInt_of (B:=B) (oK_map e) r2
  have w:∃ tk,(if j > i then Value.int j t' else .int i t) = .int (if i < j then j else i) tk:=(Decidable.em (i < j)).elim (fun h=>⟨t',by rw [if_pos h,if_pos h]⟩) fun h=>⟨t,by rw [if_neg h,if_neg h]⟩
  exact max_two_ints rm.hand fun h' tk kp=>z _ (N.at { N.s with heap:=h',toks:=tk }) _ e ((⟨kp,rfl,rfl⟩:More N { N.s with heap:=h',toks:=tk }).aft sm) rfl w
theorem ok_len:CallOk B u (.builtin "len") .len:=fun G N ds vs Q E K rm e0 sm r0 z=>uno e0 r0 fun d v hv e rv=>by
 subst hv
 have fin:∀ {n m:Nat} {t:Nat},n = m→K (.int m)→Q (.int n t) { N.s with toks:=t + 1 }:=fun hn hk=>z _ (N.tk _) _ hk (toks_ok sm _) rfl ⟨_,congrArg (fun k:Nat=>Value.int k _) hn⟩
 have seq:oK (((asList N.σ d).bind okLen).map fun l=>V.int l.length) K→Wp B G N (call (.builtin "len") [v]) Q E:=fun e=>seq_of sm (oK_bind (oK_map e)) rv fun l a arr e hx t rs=>by
  subst hx
  have w:=if_of e
  have hlen:=len_eq rs
  exact t.elim (fun t=>call_len_list t (cap_63 hlen w.1) (fin hlen w.2)) fun t=>len_tuple t (cap_63 hlen w.1) (fin hlen w.2)
 cases d with
 | dict l =>
  obtain ⟨hl,e⟩:=if_of e
  obtain ⟨a,kvs,rfl,wa,t,rs⟩:=rv
  have hlen:=RVd_length rs
  exact call_len_dict (not_sys t.1) t.2 (cap_63 hlen hl) (fin hlen e)
 | _=>exact seq e
theorem cf_list:CallF B u (.type "list") .list:=fun G N ds vs Q E K rm e0 sm r0 z=>uno e0 r0 fun d v hv e rv=>seq_of sm (oK_bind (oK_map e)) rv fun l a arr e hx t rs=>by
 subst hv hx
 have w:=if_of e
 have go:∀ T o (n:Nat),(T = "list" ∨ T = "tuple")→N.s.heap.get? a = some o→o.cls = .type T→o.data = .seq arr n→Wp B G N (call (.type "list") [.ref a]) Q E:=fun T o n hT ho hc hd =>
  call_list_seq a hT ho hc hd (fun h' c' kp e1 =>
   have m:More N { N.s with heap:=h' }:=⟨kp,rfl,rfl⟩
   z _ (N.at _) _ w.2 (m.aft sm) rfl no_new (m.pv sm no_new e1) ⟨arr,⟨c',e1⟩,Vals.on (m.aft sm) rs⟩) (cap_ln (len_eq rs) w.1)
 exact t.elim (fun ⟨o,ho,hc,n,hd⟩=>go "list" o n (.inl rfl) ho hc hd) fun ⟨o,ho,hc,n,hd⟩=>go "tuple" o n (.inr rfl) ho hc hd
theorem ok_tuple:CallOk B u (.type "tuple") .tuple:=fun G N ds vs Q E K rm e0 sm r0 z=>uno e0 r0 fun d v hv e rv=>by
 subst hv
 have lst:oK (((asLst N.σ d).bind okLen).map V.tup) K→Wp B G N (call (.type "tuple") [v]) Q E:=fun e=>lst_of sm (oK_bind (oK_map e)) rv fun l a e hx rc=>by
  subst hx
  obtain ⟨arr,t,rs⟩:=rc
  have w:=if_of e
  exact call_tuple_list t.list (fun h' kp=>have m:=new_tup (N:=N) (⟨kp,rfl,rfl⟩:More N { N.s with heap:=h' }) sm rs; z _ _ _ w.2 m.1 rfl m.2) (cap_ln (len_eq rs) w.1)
 cases d with
 | tup k =>
  have w:=if_of (oK_map e)
  obtain ⟨a,arr,rfl,wa,t,rs⟩:=id rv
  exact call_tuple_same (IsTp.tup t) (z _ N _ w.2 (.refl sm) rfl rv)
 | list k=>exact lst e
 | loc k=>exact lst e
 | _=>exact False.elim e
theorem getL_of {l:List (V × V)} {a:List V} {K:V→Prop} (h:oK (getL l a) K):∃ s v,a = [.str s,v]∧K ((dget (.str s) l).getD v):=match a,h with
 | [k,v],h=>by
  have h:oK (getS l k v) K:=h
  cases k <;> first | exact ⟨_,_,rfl,h⟩ | exact False.elim h
theorem dict_typ {a:Addr} {kvs:List (Str × PV)} (t:IsDc B.D N.s.heap a kvs):N.s.TypeIs (.ref a) "dict"∧∀ b,Value.ref a = .ref b→∃ o,N.s.heap.get? b = some o∧o.dict = none :=
 ⟨t.2.typeIs,fun b e=>by cases e; obtain ⟨o,es,ep,ho,ex,_⟩:=t.2; exact ⟨o,ho,ex.2.1⟩⟩
theorem list_typ {a:Addr} {vs:Array PV} (t:IsLs N.s.heap a vs):N.s.TypeIs (.ref a) "list"∧∀ b,Value.ref a = .ref b→∃ o,N.s.heap.get? b = some o∧o.dict = none :=
 ⟨t.list.typeIs,fun b e=>by cases e; exact t.elim fun k ho=>⟨_,ho,rfl⟩⟩
theorem call_meth {o:PE} {y:X} {x:Str} {t id:String} {xs:List X} {es:List PE} {apos pos:Pos} (pa:PlainAttrs t) (slot:Slot t x id) (hty:typeOf (.builtin id) = pure (.type "method_descriptor"))
  (hb:plainBase o = true) (hl:(apos.endLine == pos.line) = true) (hn:es.length < 29) (hs:es.all (fun e=>!isStarred e) = true) (h1:TE B u c y (fun env=>eval o env)) (h3:TEs B u c xs (fun env=>spliced (backTo pos (starEach es env))))
  {J:V→St→Prop} (H:Go B u c G N) (q:kX B G N y J)
  (z:∀ d Y v,J d Y.σ→Aft B.D N noA Y→Val B Y d v→(Y.s.TypeIs v t∧∀ a,v = .ref a→∃ o,Y.s.heap.get? a = some o∧o.dict = none)∧∃ K,kXs B G Y xs K ∧
   ∀ ds Z vs,K ds Z.σ→Aft B.D Y noA Z→Vals B Z ds vs→wpAny (model B.D.prog B.D.w) G.A (call (.builtin id) (v :: vs)) Q E Z.s):Wp B G N (eval (.Call (.Attribute o x apos) es [] pos) G.env) Q E:=by
 rw [eval_method hb hl hn hs]
 exact wpAny_bind (h1 G N _ E _ H q fun d Y v k1 a r=>(z d Y v k1 a r).elim fun w q=>q.elim fun K q =>
  wpAny_bind (wpAny_standAt (wpAny_bind (wpAny_holding (getMethod_builtin w.1 pa slot hty w.2 (callWith_bi (G:=G) (N:=Y) (first:=[v]) rfl hs (h3 G Y _ E _ (H.to a) q.1 fun ds Z vs k2 _ a2 r2=>q.2 ds Z vs k2 a2 r2)))))))
end
end Mine.Internal
namespace Mine.Internal
open PySem PySem.W PyProof.Rows PySem.Calls
section
variable {B:Bd} {u:Nat} {c:Ck} {G:Ev} {N Y Z:Nx} {Q E:PV→Shared→Prop} {g:Gt}
theorem Le.of {h':Heap} {tk:Nat} (k:∀ b o,N.W b→N.s.heap.get? b = some o→h'.get? b = some o):Le N (N.at { N.s with heap:=h',toks:=tk }):=⟨fun b o w e=>⟨k b o w e,w⟩,fun _ _ e=>e⟩
theorem dict_nodup {D:Wd} {h:Heap} {a:Addr} {kvs:List (Str × PV)} (t:IsDc D h a kvs):(kvs.map (·.1)).Nodup:=t.2.elim fun _ q=>q.elim fun _ q=>q.elim fun _ q=>q.2.2.2.2.2
theorem copy_dict {v0:V} {v:PV} {K:V→Prop} (sm:Sm B.D N) (e:oK ((asDict N.σ v0).bind fun l=>if l.length≤capL then some (V.dict l) else none) K) (rv:Val B N v0 v)
  (z:∀ d Y a,K d→Aft B.D N noA Y→Y.σ = N.σ→¬ N.has a→Pv Y a→RC B.D Y a d→Q (.ref a) Y.s):Wp B G N (call (.type "dict") [v]) Q E :=
 dict_of sm (oK_bind e) rv fun l x kvs e hx t rs=>by
  obtain ⟨hl,e⟩:=if_of e
  subst hx
  refine kt_call_dict (not_sys t.1) t.2 (cap_ln (RVd_length rs) hl) fun h' dh sb=>?_
  have m:More N { N.s with heap:=h' }:=⟨fun b o e=>sb.extBut b o (fun q=>no_new (q ▸ has_of e)) (Heap.get?_push_of_some _ e),rfl,rfl⟩
  exact z _ (N.at _) _ e (m.aft sm) rfl no_new (dh.elim fun o q=>q.elim fun _ q=>q.elim fun _ q=>m.pv sm no_new q.1) ⟨_,⟨sm.one,dh⟩,RVd_le (m.aft sm).le _ _ rs⟩
theorem cf_dict:CallF B u (.type "dict") .dict:=fun G N ds vs Q E K rm e0 sm r0 z=>uno e0 r0 fun d v hv e rv=>by
 subst hv
 exact copy_dict sm e rv z
theorem te_get {y:X} {xs:List X} {o:PE} {es:List PE} {apos pos:Pos} (hb:plainBase o = true) (hl:(apos.endLine == pos.line) = true) (hn:es.length < 29) (hs:es.all (fun e=>!isStarred e) = true) (h1:TE B u c y (fun env=>eval o env))
  (h3:TEs B u c xs (fun env=>spliced (backTo pos (starEach es env)))):TE B u c (.get y xs) (fun env=>eval (.Call (.Attribute o "get" apos) es [] pos) env):=fun G N Q E K H q z =>
 call_meth F.plainAttrs_dict F.slot_dict_get F.type_dict_get hb hl hn hs h1 h3 H q fun d Y w k1 a r=>by
  obtain ⟨hd,k1⟩:=bK_of k1
  refine ⟨dict_of (K:=fun _=>True) a.sm (by cases e:asDict Y.σ d with | none=>rw [e] at hd; cases hd | some l=>trivial) r fun l x kvs _ hx t rd=>hx ▸ dict_typ t,_,k1,fun ds Z vs k2 a2 rs=>?_⟩
  refine dict_of a2.sm k2 (Val.on a2 r) fun l x kvs k2 hx t rd=>?_
  subst hx
  obtain ⟨s,dv,rfl,k2⟩:=getL_of k2
  obtain ⟨vk,_,rfl,⟨n,tk,rfl,hz,rfl⟩,vv,_,rfl,rv,e⟩:=rs
  cases (e:_ = [])
  have t1:=toks_ok (y:=Z) a2.sm (Z.s.toks + 1)
  exact call_meetsIn F.slot_dict_get t.2.typeIs F.entry_dict_get (F.args_dict_get_3 _ _ _) (meets_dict_get_default (SK B.D) x (strKind_is _ _ _ _) (not_sys t.1) vv) ⟨_,t.2.mapOf,
   z _ (Z.tk (Z.s.toks + 1)) _ k2 ((a.trans a2).trans t1) (Val.on t1 (RVd_get hz rd (fun h1 h2=>by rw [h1,h2]; exact rv) fun d w h1 h2 r=>by rw [h1,h2]; exact r))⟩
end
end Mine.Internal
namespace Mine.Internal
open PySem PySem.W PyProof.Rows PySem.Calls
theorem dec_rev:∀ (k:Nat) (l:List Nat),(∀ c∈l,c < 2097151)→decL k (encL l.reverse) = (l.take k).reverse
 | 0,_,_=>rfl
 | k + 1,[],_=>rfl
 | k + 1,x :: r,h=>by
  have e:=dec_step (a:=encL r.reverse) (h x (List.mem_cons_self ..))
  rw [List.reverse_cons,encL_snoc,decL,if_neg (show ¬ encL r.reverse * 2097152 + (x + 1) = 0 from Nat.succ_ne_zero _),e.1,e.2,dec_rev k r fun c hc=>h c (List.mem_cons_of_mem _ hc),List.take_succ_cons,List.reverse_cons]
theorem strOk_lt {x:Str} (h:strOk x = true):∀ c∈x.cps.toList,c < 2097151:=fun c hc=>Nat.lt_trans (of_decide_eq_true (List.all_eq_true.mp h c hc)) (by decide)
theorem dec_enc {x:Str} (h:strOk x = true) (k:Nat):decL k (encS x) = (x.cps.toList.reverse.take k).reverse:=by
 have:=dec_rev k x.cps.toList.reverse fun c hc=>strOk_lt h c (List.mem_reverse.mp hc)
 rwa [List.reverse_reverse] at this
theorem short_of {x:Str} (h:strOk x = true) (s:shortS (encS x) = true):x.length≤1000:=by
 have s:=of_decide_eq_true s
 rw [dec_enc h,List.length_reverse,List.length_take,List.length_reverse] at s
 exact Nat.le_trans (Nat.le_of_eq Array.length_toList.symm) (Nat.le_of_not_lt fun q=>absurd (Nat.le_trans (Nat.le_min.mpr ⟨Nat.le_refl _,q⟩) s) (by decide))
theorem encS_append {x y:Str} (hy:strOk y = true) (s:shortS (encS y) = true):encS (x++y) = catS (encS x) (encS y):=by
 have e:decL 1001 (encS y) = y.cps.toList:=by
  rw [dec_enc hy,List.take_of_length_le,List.reverse_reverse]
  rw [List.length_reverse,Array.length_toList]
  exact Nat.le_trans (short_of hy s) (by decide)
 delta catS
 rw [e]
 show encL (x.cps++y.cps).toList = _
 rw [Array.toList_append]
 exact List.foldl_append
theorem strOk_append {x y:Str} (hx:strOk x = true) (hy:strOk y = true):strOk (x++y) = true:=by
 show ((x.cps++y.cps).toList.all fun c=>decide (c < 1114112)) = true
 rw [Array.toList_append,List.all_append]
 exact Bool.and_eq_true_iff.mpr ⟨hx,hy⟩
theorem char_lt (c:Char):c.toNat < 1114112:=by
 have h:c.toNat.isValidChar:=c.valid
 delta Nat.isValidChar at h
 (first | lia | omega)
theorem digs_str (k:Nat):strOk (Str.ofString (toString ((k:Nat):Int))) = true∧encS (Str.ofString (toString ((k:Nat):Int))) = encL (digs k):=by
 delta strOk encS
 rw [KIN.signs_num]
 refine ⟨?_,rfl⟩
 rw [List.all_map,List.all_eq_true]
 intro c _
 exact decide_eq_true (char_lt c)
section
variable {B:Bd} {u:Nat} {c:Ck} {G:Ev} {N Y Z:Nx} {Q E:PV→Shared→Prop} {g:Gt}
noncomputable def TP (B:Bd) (u:Nat) (c:Ck) (x:X) (t:PE):Prop :=
 ∀ (G:Ev) (N:Nx) (Q E:PV→Shared→Prop) (K:Nat→St→Prop),Go B u c G N→kX B G N x (fun d σ=>oK (strOf d) fun z=>K z σ) →
  (∀ y t Y,K (encS y) Y.σ→Aft B.D N noA Y→strOk y = true→shortS (encS y) = true→y.length≤sizeLine→Q (.str y t) Y.s)→Wp B G N (eval t G.env) Q E
theorem len_line {x:Str} {k:Nat} (h:x.length≤k) (hk:k≤1000000):x.length≤sizeLine:=cap_line (Nat.le_trans h hk)
theorem short_line {x:Str} (h:strOk x = true) (s:shortS (encS x) = true):x.length≤sizeLine:=len_line (short_of h s) (by decide)
theorem tp_cst {x:Str} {z k:Nat} {p:Pos} (h1:strOk x = true) (h2:encS x = z):TP B u c (.cst (.str z)) (.Constant (.str x) k p):=fun G N Q E K H q y =>
 have w:=if_of (show oK (if shortS z then some z else none) (fun z=>K z N.σ) from q)
 wpAny_Constant_str (y x _ (N.tk _) (h2 ▸ w.2) (H.toks _) h1 (h2 ▸ w.1) (short_line h1 (h2 ▸ w.1)))
theorem tp_fmt {x:X} {t:PE} {p:Pos} (h:TE B u c x (fun env=>eval t env)):TP B u c x (.FormattedValue t (-1) none p):=fun G N Q E K H q z =>
 FormattedValue_plain (h G N _ E _ H q fun d Y v k1 a r=>by
  have fin:=fun y t tk hk (h1:strOk y = true) (hs:shortS (encS y) = true)=>z y t (Y.tk tk) hk (a.trans (toks_ok a.sm tk)) h1 hs (short_line h1 hs)
  cases d with
  | str k =>
   obtain ⟨y,t,rfl,hy,rfl⟩:=r
   obtain ⟨hl,k1⟩:=if_of (show oK (if shortS (encS y) then some (encS y) else none) (fun z=>K z Y.σ) from k1)
   exact formatField_str (fun t' tk=>fin y t' tk k1 hy hl) (short_line hy hl)
  | int i =>
   obtain ⟨t,rfl⟩:=r
   obtain ⟨hi,k1⟩:=if_of (show oK (if (0≤i∧i≤1000000)∧shortS (encL (digs i.toNat)) = true then some (encL (digs i.toNat)) else none) (fun z=>K z Y.σ) from k1)
   have hi':i = ((i.toNat:Nat):Int):=(Int.toNat_of_nonneg hi.1.1).symm
   have hd:i.natAbs.log2 < 1920:=(Decidable.em (i.natAbs = 0)).elim (fun h0=>by rw [h0]; decide) fun h0=>Nat.lt_of_lt_of_le ((Nat.log2_lt h0).mpr (Nat.lt_of_le_of_lt (show i.natAbs≤1000000 by (first | lia | omega)) (show 1000000 < 2 ^ 20 by decide))) (by decide)
   obtain ⟨d1,d2⟩:=digs_str i.toNat
   rw [← hi'] at d1 d2
   exact formatField_int_small hd (fin _ _ _ (d2 ▸ k1) d1 (d2 ▸ hi.2))
  | _=>exact False.elim k1)
theorem join_all {xs:List X} {es:List PE} (h:All2 (TP B u c) xs es):∀ (G:Ev) (N:Nx) (out:Str) (Q E:PV→Shared→Prop) (K:Nat→St→Prop),Go B u c G N→kFs B.P B.T xs (encS out) G.ρ N.σ K→strOk out = true →
  (∀ y t Y,K (encS y) Y.σ→Aft B.D N noA Y→strOk y = true→Q (.str y t) Y.s)→Wp B G N (joinParts out (evalEach es G.env)) Q E:=by
 induction h with
 | nil=>exact fun G N out Q E K H q ho z=>have w:=bK_of q; joinParts_nil (z out _ (N.tk _) w.2 (H.toks _) ho) (short_line ho w.1)
 | cons h1 h2 ih=>exact fun G N out Q E K H q ho z=>joinParts_cons (h1 G N _ E _ H q fun y t Y k1 a hy hs hyl=>by
   rw [← encS_append hy hs] at k1
   have w:=bK_of k1
   have ho':=strOk_append ho hy
   exact ⟨short_line ho' w.1,ih G Y (out++y) Q E K (H.to a) w.2 ho' fun y2 t2 Y2 k2 a2 h2=>z y2 t2 Y2 k2 (a.trans a2) h2⟩)
theorem te_fstr {x1 x2:X} {xs:List X} {e1 e2:PE} {es:List PE} {p:Pos} (h1:TP B u c x1 e1) (h2:TP B u c x2 e2) (h:All2 (TP B u c) xs es):TE B u c (.fstr (x1 :: x2 :: xs)) (fun env=>eval (.JoinedStr (e1 :: e2 :: es) p) env):=fun G N Q E K H q z =>
 JoinedStr_many (join_all (.cons h1 (.cons h2 h)) G N Str.empty Q E _ H q rfl fun y t Y k1 a hy=>z _ Y _ k1 a ⟨y,t,rfl,hy,rfl⟩)
end
end Mine.Internal
namespace Mine.Internal
open PySem PySem.W PyProof.Rows PySem.Calls
section
variable {B:Bd} {u:Nat} {c:Ck} {G:Ev} {N Y Z:Nx} {Q E:PV→Shared→Prop} {g:Gt}
theorem te_not {x:X} {t:PE} {p:Pos} (h:TE B u c x (fun env=>eval t env)):TE B u c (.not x) (fun env=>eval (.UnaryOp .Not t p) env):=fun G N Q E K H q z =>
 UnaryOp_ (h G N _ E _ H q fun d Y v k a r=>by
  obtain ⟨b,rfl,k⟩:=truthy_of k
  cases (r:v = .bool b)
  exact not_of (wpAny_truthy_bool (z (.bool (!b)) Y _ k a rfl)))
theorem tb_not {x:X} {t:PE} {p:Pos} (h:TB B u c x (fun env=>isTrue t env (eval t env))):TB B u c (.not x) (fun env=>isTrue (.UnaryOp .Not t p) env (eval (.UnaryOp .Not t p) env)):=fun G N Q E K H q z =>
 wpAny_isTrue_Not (h G N _ E (fun b σ=>K (!b) σ) H q fun b Y k a=>z (!b) Y k a)
theorem emp_ok {a b:V} {v w:PV} {K:Bool→Prop} (e:oK (asListL a) fun l=>oK (asListL b) fun k=>bK k.isEmpty (K l.isEmpty)) (r1:Val B N a v) (r2:Val B N b w) (hu:G.A.units + 30 < cLine) (z:∀ r,K r→Q (.bool r) N.s):Wp B G N (compareOp .Eq v w) Q E:=by
 have hu:=un_lt hu (Nat.zero_le _)
 cases a with
 | list l=>cases b with
  | list k =>
   obtain ⟨hk,e⟩:=bK_of (show bK k.isEmpty (K l.isEmpty) from e)
   cases List.isEmpty_iff.mp hk
   obtain ⟨a,vs,rfl,_,il,rs⟩:=r1
   obtain ⟨b,ws,rfl,_,jl,qs⟩:=r2
   have ew:ws = #[]:=Array.toList_eq_nil_iff.mp qs
   cases l with
   | nil =>
    have ev:vs = #[]:=Array.toList_eq_nil_iff.mp rs
    subst ev ew
    exact PySem.SeqAt.eq_listAt (e:=fun _=>true) il.list jl.list rfl hu (fun j h1 _=>absurd h1 (Nat.not_lt_zero _)) (z _ e)
   | cons d l =>
    obtain ⟨x,t,ev,_⟩:=rs
    subst ew
    exact PySem.SeqAt.eq_list_lengthsAt il.list jl.list (by rw [← Array.length_toList,ev]; rfl) hu (z _ e)
  | _=>exact False.elim e
 | _=>exact False.elim e
theorem te_emp {x:X} {l:PE} {k p:Pos} (hu:30≤u) (h:TE B u c x (fun env=>eval l env)):TE B u c (.emp x) (fun env=>eval (.Compare l [.Eq] [.List [] k] p) env):=fun G N Q E K H q z =>
 wpAny_Compare1 (two h (tf_list (xs:=[]) (ts:=[]) (Nat.zero_le _) tes_nil).te H (K:=fun a b σ=>oK (asListL a) fun l=>oK (asListL b) fun k=>bK k.isEmpty (K (.bool l.isEmpty) σ)) q fun a b Y v w k1 a1 r1 r2=>emp_ok k1 r1 r2 (H.rm.un hu) fun r k2=>z (.bool r) Y _ k2 a1 rfl) rfl
theorem tb_emp {x:X} {l:PE} {k p:Pos} (hu:30≤u) (h:TE B u c x (fun env=>eval l env)):TB B u c (.emp x) (fun env=>isTrue (.Compare l [.Eq] [.List [] k] p) env (eval (.Compare l [.Eq] [.List [] k] p) env)):=fun G N Q E K H q z =>
 wpAny_isTrue_Compare1 (two h (tf_list (xs:=[]) (ts:=[]) (Nat.zero_le _) tes_nil).te H (K:=fun a b σ=>oK (asListL a) fun l=>oK (asListL b) fun k=>bK k.isEmpty (oK (V.truthy (.bool l.isEmpty)) fun t=>K t σ)) q fun a b Y v w k1 a1 r1 r2=>emp_ok (K:=fun b=>oK (V.truthy (.bool b)) fun t=>K t Y.σ) k1 r1 r2 (H.rm.un hu) fun r k2=>wpAny_truthy_bool (z r Y k2 a1)) rfl
theorem isN_ok {d:V} {v:PV} (r:Val B N d v):(v == Value.none) = isNv d:=by
 cases d with
 | none=>cases (r:v = .none); rfl
 | bool b=>cases (r:v = .bool b); rfl
 | int i=>obtain ⟨t,rfl⟩:=r; rfl
 | str z=>obtain ⟨x,t,rfl,_⟩:=r; rfl
 | loc n=>obtain ⟨p,rfl,_⟩:=r; rfl
 | _=>obtain ⟨a,vs,rfl,_⟩:=r; rfl
theorem te_isN {x:X} {l:PE} {k:Nat} {kp p:Pos} (h:TE B u c x (fun env=>eval l env)):TE B u c (.isN x) (fun env=>eval (.Compare l [.Is] [.Constant .none k kp] p) env):=fun G N Q E K H q z =>
 wpAny_Compare1 (h G N _ E _ H q fun d Y v k a r=>wpAny_Constant_none (is_none (by rw [isN_ok r]; exact z (.bool (isNv d)) Y _ k a rfl))) rfl
theorem tb_isN {x:X} {l:PE} {k:Nat} {kp p:Pos} (h:TE B u c x (fun env=>eval l env)):TB B u c (.isN x) (fun env=>isTrue (.Compare l [.Is] [.Constant .none k kp] p) env (eval (.Compare l [.Is] [.Constant .none k kp] p) env)):=fun G N Q E K H q z =>
 wpAny_isTrue_Compare1 (h G N _ E _ H q fun d Y v k a r=>wpAny_Constant_none (is_none (by rw [isN_ok r]; exact wpAny_truthy_bool (z (isNv d) Y k a)))) rfl
theorem occ_abcs:(([("A",0),("B",1),("C",2),("S",3)]:List (Str × Nat)).all fun q=>(PySem.Builtin.Str.occurrences ("ABCS":Str) q.1 0 ("ABCS":Str).length 1 == [q.2]) && (strOk q.1)) = true:=by decide +kernel
theorem sfind_of {z:Nat} {x:Str} {K:V→Prop} (e:oK (sfindV z) K) (h1:encS x = z) (h2:strOk x = true):∃ k,K (.int (k:Nat))∧PySem.Builtin.Str.occurrences ("ABCS":Str) x 0 ("ABCS":Str).length 1 = k :: []:=by
 have key:∀ q∈([("A",0),("B",1),("C",2),("S",3)]:List (Str × Nat)),z = encS q.1→K (.int (q.2:Nat))→∃ k,K (.int (k:Nat))∧PySem.Builtin.Str.occurrences ("ABCS":Str) x 0 ("ABCS":Str).length 1 = k :: []:=fun q hq hz hk=>by
  have w:=List.all_eq_true.mp occ_abcs q hq
  rw [encS_inj h2 (and_r w) (h1.trans hz)]
  exact ⟨q.2,hk,eq_of_beq (and_l w)⟩
 delta sfindV at e
 refine if_or e (fun hc k=>key ("A",0) (by decide) hc k) fun _ e=>if_or e (fun hc k=>key ("B",1) (by decide) hc k) fun _ e=>if_or e (fun hc k=>key ("C",2) (by decide) hc k) fun _ e=>if_or e (fun hc k=>key ("S",3) (by decide) hc k) fun _ e=>False.elim e
theorem te_sfind {e:X} {f:PE} {k:Nat} {cp apos pos:Pos} (hl:(apos.endLine == pos.line) = true) (hs:isStarred f = false) (h:TE B u c e (fun env=>eval f env)):TE B u c (.sfind e) (fun env=>eval (.Call (.Attribute (.Constant (.str "ABCS") k cp) "index" apos) [f] [] pos) env):=fun G N Q E K H q z =>
 call_meth (y:=.cst (.str (encS "ABCS"))) (xs:=[e]) (es:=[f]) F.plainAttrs_str F.slot_str_index F.type_str_index rfl hl (Nat.le_of_ble_eq_true rfl) (by rw [List.all_cons,hs]; rfl) (te_str (x:="ABCS") (by decide +kernel) rfl) (tes_cons hs h tes_nil) (J:=fun d σ=>d = .str (encS "ABCS")∧kE B.P B.T e G.ρ σ fun v σ=>oK (sfindE v) fun w=>K w σ) H ⟨rfl,q⟩ fun d Y v k a r=>by
  obtain ⟨rfl,k⟩:=k
  obtain ⟨x,t,rfl,hx,rx⟩:=r
  cases encS_inj hx (show strOk "ABCS" = true by decide +kernel) rx
  refine ⟨⟨typeIs_str _ _ _,fun _ e=>nomatch e⟩,fun ds σ=>oK (one ds sfindE) fun w=>K w σ,k,fun ds Z vs k a2 r2=>uno k r2 fun d v hv e rv=>?_⟩
  subst hv
  cases d with
  | str z0 =>
   obtain ⟨y,t2,rfl,hy,ry⟩:=rv
   obtain ⟨i,k3,ho⟩:=sfind_of e ry hy
   exact SC.index ho (z _ (Z.tk _) _ k3 ((a.trans a2).trans (toks_ok a2.sm _)) ⟨_,rfl⟩)
  | _=>exact False.elim e
end
end Mine.Internal
namespace Mine.Internal
open PySem PySem.W PyProof.Rows
noncomputable def Fr (c:Ck) (env:PEnv) (b:Addr):Prop:=b = env.locals ∨ ∃ x,(c.own x = true∧c.sc.names.lookup x = some .cell)∧env.cells.lookup x = some b
structure Gs (B:Bd) (u:Nat) (c:Ck) (G:Ev) (N:Nx):Prop where
 go:Go B u c G N
 pv:∀ b,Fr c G.env b→Pv N b
 ns:∃ m,N.s.heap.Ns G.env.locals m
 cl:∀ x,c.own x = true→c.sc.names.lookup x = some .cell→∃ b v,G.env.cells.lookup x = some b∧N.s.heap.IsCell b v
 ap:∀ x y b,c.own x = true→c.sc.names.lookup x = some .cell→G.env.cells.lookup x = some b→G.env.cells.lookup y = some b→x = y
structure Nm (c:Ck) (x:Str) (i:Nat):Prop where
 at_:c.names.lookup x = some i
 inj:∀ y,c.names.lookup y = some i→y = x
 kind:c.sc.names.lookup x = some .local ∨ (c.own x = true∧c.sc.names.lookup x = some .cell)
noncomputable def Ev.set (G:Ev) (i:Nat) (d:V):Ev:=⟨G.env,G.A,G.ρ.set i (some d)⟩
noncomputable def Ev.to (G:Ev) (ρ:REnv):Ev:=⟨G.env,G.A,ρ⟩
section
variable {B:Bd} {u:Nat} {c:Ck} {G:Ev} {N Y Z:Nx} {i:Nat} {x:Str} {d:V} {v:PV} {E:PV→Shared→Prop}
theorem ns_cell {h:Heap} {a:Addr} {mm:Str→Option PV} {v:Option PV} (x:h.Ns a mm) (y:h.IsCell a v):False:=by
 obtain ⟨o,es,ep,ho,hd,_⟩:=x
 obtain ⟨o',ho',hd'⟩:=y
 cases ho.symm.trans ho'
 cases hd.symm.trans hd'
theorem Ns_has {h:Heap} {a:Addr} {m:Str→Option PV} (n:h.Ns a m):∃ o,h.get? a = some o:=n.elim fun o q=>q.elim fun _ q=>q.elim fun _ q=>⟨o,q.1⟩
theorem cell_has {h:Heap} {a:Addr} {v:Option PV} (n:h.IsCell a v):∃ o,h.get? a = some o:=n.elim fun o q=>⟨o,q.1⟩
theorem Aft.mono {D:Wd} {F F':Addr→Prop} (a:Aft D N F Z) (h:∀ b,F b→F' b):Aft D N F' Z:=⟨a.sm,a.le,fun b o e n f=>a.kp b o e n fun q=>f (h b q),a.ex,a.mn,a.wn,a.gens,a.os⟩
theorem set_some {ρ:REnv} {o:Option V} {j:Nat} {w:V} (e:(ρ.set i o)[j]? = some (some w)):(i = j∧o = some w) ∨ (i ≠ j∧ρ[j]? = some (some w)):=by
 by_cases h:i = j
 ·subst h
  exact .inl ⟨rfl,by rw [List.getElem?_set] at e; simp at e; exact e.2⟩
 ·exact .inr ⟨h,(List.getElem?_set_ne h).symm.trans e⟩
theorem Gs.to (H:Gs B u c G N) (a:Aft B.D N noA Y):Gs B u c G Y :=
 ⟨H.go.to a,fun b f=>(H.pv b f).go a,H.ns.elim fun m n=>⟨m,n.at fun o e=>a.old (H.pv _ (.inl rfl)).nc e⟩,fun x w h=>(H.cl x w h).elim fun b q=>q.elim fun v q=>⟨b,v,q.1,q.2.elim fun o r=>⟨o,a.old (H.pv _ (.inr ⟨x,⟨w,h⟩,q.1⟩)).nc r.1,r.2⟩⟩,H.ap⟩
theorem store_ok {Q:Unit→Shared→Prop} (H:Gs B u c G N) (nm:Nm c x i) (rv:Val B N d v) (z:∀ Y,Y.σ = N.σ→Aft B.D N (Fr c G.env) Y→Gs B u c (G.set i d) Y→Q () Y.s):Wp B G N (storeName G.env x v) Q E:=by
 obtain ⟨mm,ns⟩:=H.ns
 have kd:=H.go.eo.kd
 have go:∀ {h':Heap} {b:Addr} {tk:Nat},Heap.SameBut b N.s.heap h'→Fr c G.env b→(∃ o,h'.get? b = some o)→(∃ m,h'.Ns G.env.locals m)→(∀ y b v,c.own y = true→c.sc.names.lookup y = some .cell→G.env.cells.lookup y = some b→N.s.heap.IsCell b v→∃ v',h'.IsCell b v') →
   (∀ y w,y ≠ x→At N.s.heap G.env y w→At h' G.env y w)→At h' G.env x v→Q () { N.s with heap:=h',toks:=tk }:=fun {h' b tk} sb hb he hns hc hat hx=>by
  have a:=Aft.turn1 (t:=tk) H.go.sm (H.pv b hb) (fun c o n e=>sb.extBut c o n e) he
  exact z (N.at _) rfl (a.mono fun c e=>e ▸ hb) ⟨⟨H.go.rm,H.go.eo.go a,fun y j d' h1 h2 h3=>by
   rcases set_some h3 with ⟨rfl,e⟩ | ⟨hj,h3⟩
   ·cases nm.inj y h1
    cases e
    exact ⟨v,hx,Val.on (B:=B) a rv⟩
   ·obtain ⟨w,at_,r⟩:=H.go.fe y j d' h1 h2 h3
    exact ⟨w,hat y w (fun e=>hj (Option.some.inj (nm.at_.symm.trans (e ▸ h1)))) at_,Val.on (B:=B) a r⟩,a.sm⟩,fun b f=>(H.pv b f).go a,hns,fun y w hy=>(H.cl y w hy).elim fun b q=>q.elim fun v q=>(hc y b v w hy q.1 q.2).elim fun v' r=>⟨b,v',q.1,r⟩,H.ap⟩
 have nc:∀ b w,N.s.heap.IsCell b w→b ≠ G.env.locals:=fun b w ic e=>by subst e; exact ns_cell ns ic
 rcases nm.kind with hk | ⟨hoc,hk⟩
 ·have k0:=(kd x).trans hk
  refine wpAny_storeName_local k0 ns (fun h' ns' sb=>?_) (by rw [H.go.eo.kind]; rfl)
  refine go sb (.inl rfl) (Ns_has ns') ⟨_,ns'⟩ (fun y b w _ _ hb ⟨o,ho,r⟩=>⟨w,o,by rw [sb.2 b (nc b _ ⟨o,ho,r⟩)]; exact ho,r⟩) (fun y w hy at_=>?_) (.inl ⟨k0,_,ns',if_pos rfl⟩)
  rcases at_ with ⟨k1,m1,n1,e1⟩ | ⟨k1,cc,e1,o,ho,r⟩
  ·exact .inl ⟨k1,_,ns',by rw [if_neg hy,ns.agree n1 y]; exact e1⟩
  ·exact .inr ⟨k1,cc,e1,o,by rw [sb.2 cc (nc cc _ ⟨o,ho,r⟩)]; exact ho,r⟩
 ·obtain ⟨b,v0,k2,k3⟩:=H.cl x hoc hk
  have k0:=(kd x).trans hk
  refine wpAny_storeName_cell H.go.eo.kind k0 k2 k3 fun h' ic' sb=>?_
  have nl:G.env.locals ≠ b:=(nc b _ k3).symm
  refine go (tk:=N.s.toks) sb (.inr ⟨x,⟨hoc,hk⟩,k2⟩) (cell_has ic') ⟨mm,ns.at fun o e=>(sb.2 _ nl).trans e⟩ (fun y b' w' _ _ hb ⟨o,ho,r⟩=>?_) (fun y w' hy at_=>?_) (.inr ⟨.inl k0,b,k2,ic'⟩)
  ·by_cases hb':b' = b
   ·subst hb'; exact ⟨_,ic'⟩
   ·exact ⟨w',o,by rw [sb.2 b' hb']; exact ho,r⟩
  ·rcases at_ with ⟨k1',m1,n1,e1⟩ | ⟨k1',cc,e1,o,ho,r⟩
   ·exact .inl ⟨k1',m1,n1.at (fun o e=>(sb.2 _ nl).trans e),e1⟩
   ·exact .inr ⟨k1',cc,e1,o,by rw [sb.2 cc (fun e=>by subst e; exact hy (H.ap x y cc hoc hk k2 e1).symm)]; exact ho,r⟩
noncomputable def OutOk (B:Bd) (u:Nat) (c:Ck) (G:Ev) (N:Nx) (K:Out→Prop) (Q:Flow→Shared→Prop):Prop :=
 (∀ ρ Y,K (.next ρ Y.σ)→Aft B.D N (Fr c G.env) Y→Gs B u c (G.to ρ) Y→Q .next Y.s)∧∀ d Y v,K (.ret d Y.σ)→Aft B.D N (Fr c G.env) Y→Val B Y d v→Q (.ret v) Y.s
noncomputable def TS (B:Bd) (u:Nat) (c:Ck) (x:S) (t:PEnv→Sem Flow):Prop :=
 ∀ (G:Ev) (N:Nx) (Q:Flow→Shared→Prop) (E:PV→Shared→Prop) (K:Out→Prop),Gs B u c G N→kS B.P B.T x G.ρ N.σ K→OutOk B u c G N K Q→Wp B G N (t G.env) Q E
noncomputable def TSs (B:Bd) (u:Nat) (c:Ck) (x:List S) (t:PEnv→Sem Flow):Prop :=
 ∀ (G:Ev) (N:Nx) (Q:Flow→Shared→Prop) (E:PV→Shared→Prop) (K:Out→Prop),Gs B u c G N→kSs B.P B.T x G.ρ N.σ K→OutOk B u c G N K Q→Wp B G N (t G.env) Q E
theorem OutOk.after {K:Out→Prop} {Q:Flow→Shared→Prop} {ρ:REnv} (h:OutOk B u c G N K Q) (a:Aft B.D N (Fr c G.env) Y):OutOk B u c (G.to ρ) Y K Q:=⟨fun ρ Z k b g=>h.1 ρ Z k (a.trans b) g,fun d Z v k b r=>h.2 d Z v k (a.trans b) r⟩
theorem tss_nil:TSs B u c [] (fun env=>execs [] env):=fun G N Q E K H q z=>wpAny_execs_nil (z.1 G.ρ N q (.refl H.go.sm) H)
theorem tss_cons {x:S} {xs:List S} {st:Stmt} {r:List Stmt} (h1:TS B u c x (fun env=>exec st env)) (h2:TSs B u c xs (fun env=>execs r env)):TSs B u c (x :: xs) (fun env=>execs (st :: r) env):=fun G N Q E K H q z =>
 wpAny_execs_cons (h1 G N _ E _ H q ⟨fun ρ Y k1 a H1=>h2 (G.to ρ) Y Q E K H1 k1 (z.after a),fun d Z v k1 a rv=>z.2 d Z v k1 a rv⟩)
theorem ts_ret {x:X} {t:PE} {pos:Pos} (h:TE B u c x (fun env=>eval t env)):TS B u c (.ret x) (fun env=>exec (.Return (some t) pos) env):=fun G N Q E K H q z =>
 wpAny_Return_some (h G N _ E _ H.go q fun d Z v k1 a r=>z.2 d Z v k1 a.up r)
theorem ts_raise {t:PEnv→Sem Flow}:TS B u c .raise t:=fun G N Q E K H q z=>False.elim q
theorem ts_expr {x:X} {t:PE} {pos:Pos} (h:TE B u c x (fun env=>eval t env)) (hs:∀ env:PEnv,env.scope = c.sc→swapsWith t none pos.line env = pure false):TS B u c (.expr x) (fun env=>exec (.Expr t pos) env):=fun G N Q E K H q z =>
 wpAny_Expr_any (h G N _ E _ H.go q fun d Z v k1 a r=>z.1 G.ρ Z k1 a.up (H.to a)) (by delta interactive; rw [H.go.eo.kind]; rfl) (hs _ H.go.eo.sc)
theorem ts_ite {x:X} {s1 s2:List S} {t:PE} {body orelse:List Stmt} {pos:Pos} (h:TB B u c x (fun env=>isTrue t env (eval t env))) (h1:TSs B u c s1 (fun env=>execs body env)) (h2:TSs B u c s2 (fun env=>execs orelse env)) :
  TS B u c (.ite x s1 s2) (fun env=>exec (.If t body orelse pos) env):=fun G N Q E K H q z =>
 wpAny_If (h G N _ E _ H.go q fun b Z k1 a=>match b,k1 with
  | true,k1=>h1 G Z Q E K (H.to a) k1 (z.after (ρ:=G.ρ) a.up)
  | false,k1=>h2 G Z Q E K (H.to a) k1 (z.after (ρ:=G.ρ) a.up))
theorem ts_name {x:X} {y:Str} {t:PE} {py pos:Pos} (nm:Nm c y i) (h:TE B u c x (fun env=>eval t env)) (hs:∀ env:PEnv,env.scope = c.sc→swapsWith t (some (.Name y py)) pos.line env = pure false) :
  TS B u c (.asg (.name i) x) (fun env=>exec (.Assign [.Name y py] t pos) env):=fun G N Q E K H q z =>
 wpAny_Assign_Name (h G N _ E _ H.go q fun d Z v k1 a r=>store_ok (H.to a) nm r fun Y es b H2=>z.1 (G.set i d).ρ Y (by rw [es]; exact k1) (a.up.trans b) H2) (hs _ H.go.eo.sc)
theorem kWhile_unf {c:REnv→St→(Bool→St→Prop)→Prop} {body:REnv→St→(Out→Prop)→Prop} {n:Nat} {ρ:REnv} {σ:St} {k:Out→Prop} (h:kWhile c body n ρ σ k):kWhile0 c body n ρ σ k:=by
 delta kWhile at h; exact h
theorem ts_while {x:X} {b:List S} {t:PE} {body:List Stmt} {pos:Pos} (h:TB B u c x (fun env=>isTrue t env (eval t env))) (h1:TSs B u c b (fun env=>execs body env)) :
  TS B u c (.while_ x b) (fun env=>exec (.While t body [] pos) env):=fun G N Q E K H q z =>
 wpAny_While (codeAny_whileLoop (I:=fun k s1=>∃ ρ Y,s1 = Y.s∧Aft B.D N (Fr c G.env) Y∧kWhile0 (fun ρ σ k=>kE B.P B.T x ρ σ fun t σ=>oK t.truthy fun t=>k t σ) (fun ρ σ k=>kSs B.P B.T b ρ σ k) k ρ Y.σ K∧Gs B u c (G.to ρ) Y) (fun k s1 I=>by
  obtain ⟨ρ,Y,rfl,a,q,H⟩:=I
  cases k with
  | zero=>exact False.elim q
  | succ k=>exact h (G.to ρ) Y _ _ _ H.go q fun t Z k1 a2=>match t,k1 with
   | false,k1=>wpAny_execs_nil (z.1 ρ Z k1 (a.trans a2.up) (H.to a2))
   | true,k1=>h1 (G.to ρ) Z _ _ _ (H.to a2) k1 ⟨fun ρ2 Y2 k2 a3 H2=>⟨k,Nat.lt_succ_self k,ρ2,Y2,rfl,(a.trans a2.up).trans a3,k2,H2⟩,fun d Z2 v k2 a3 rv=>z.2 d Z2 v k2 ((a.trans a2.up).trans a3) rv⟩) 5000 ⟨G.ρ,N,rfl,.refl H.go.sm,kWhile_unf q,H⟩)
end
end Mine.Internal
namespace Mine.Internal
open PySem PySem.W PyProof.Rows PySem.Calls
theorem lookup_cons {k f:Nat} {v:V} {r:List (Nat × V)}:((k,v) :: r).lookup f = if f = k then some v else r.lookup f:=by
 rw [List.lookup_cons]
 by_cases h:f = k
 ·subst h; rw [BEq.rfl,if_pos rfl]
 ·rw [if_neg h,beq_eq_false_iff_ne.mpr h]
theorem getA_set {f g:Nat} {v:V}:∀ {fs:List (Nat × V)},getA (setA fs f v) g = if g = f then some v else getA fs g
 | []=>lookup_cons
 | (k,w) :: r=>by
  unfold setA getA
  rw [lookup_cons]
  by_cases hk:k = f
  ·subst hk
   rw [if_pos rfl,lookup_cons]
   by_cases h:g = k
   ·rw [if_pos h,if_pos h]
   ·rw [if_neg h,if_neg h,if_neg h]
  ·rw [if_neg hk,lookup_cons,show List.lookup g (setA r f v) = _ from getA_set (fs:=r)]
   by_cases h:g = k
   ·subst h; rw [if_pos rfl,if_neg hk,if_pos rfl]
   ·rw [if_neg h,if_neg h]; rfl
theorem setA_len {f:Nat} {v:V}:∀ {fs:List (Nat × V)},(setA fs f v).length = if (getA fs f).isSome then fs.length else fs.length + 1
 | []=>rfl
 | (k,w) :: r=>by
  unfold setA getA
  rw [lookup_cons]
  by_cases hk:k = f
  ·subst hk
   rw [if_pos rfl,if_pos rfl]; rfl
  ·rw [if_neg hk,if_neg (Ne.symm hk),List.length_cons,setA_len (fs:=r)]
   show _ = if (getA r f).isSome = true then _ else _
   by_cases h:(getA r f).isSome = true
   ·rw [if_pos h,if_pos h]; rfl
   ·rw [if_neg h,if_neg h]; rfl
theorem fldIn_taker {K:Frag} {C:Addr} {x:Str} (h:fldIn K C x = true):takerIn K C x = some none:=by
 have h:fldInO K (findIn K (.ref C) x) = true:=h
 show (findIn K (.ref C) x).bind _ = _
 cases e:findIn K (.ref C) x with
 | none=>rw [e] at h; cases h
 | some o=>cases o with
  | none=>rfl
  | some a =>
   rw [e] at h
   have h:(takesIn K a == some false && (specialIn K a "__get__").isSome) = true:=h
   show (takesIn K a).map _ = _
   rw [show takesIn K a = some false from beq_iff_eq.mp (and_l h)]; rfl
section
variable {D:Wd} {N:Nx}
noncomputable def Nx.ob (N:Nx) (k:Nat) (o:SObj) (s:Shared):Nx:=⟨N.μ,N.W,N.σ.set k o,s⟩
theorem nodup_at {μ:Mp} {k j:Nat} {p q:Addr × Addr} (nd:(μ.map (·.2)).Nodup) (h1:μ[k]? = some p) (h2:μ[j]? = some q) (e:p.2 = q.2):k = j:=by
 refine (List.getElem?_inj (l:=μ.map (·.2)) ?_ nd).mp ?_
 ·rw [List.length_map]; exact (List.getElem?_eq_some_iff.mp h1).1
 ·rw [List.getElem?_map,List.getElem?_map,h1,h2]; exact congrArg some e
theorem Aft.ob (m:Sm D N) {k:Nat} {p:Addr × Addr} {o:SObj} {s:Shared} (hp:N.μ[k]? = some p) (kp:∀ b o,b ≠ p.2→N.s.heap.get? b = some o→s.heap.get? b = some o) (he:∃ o,s.heap.get? p.2 = some o) (g:s.gens = N.s.gens) (os:s.os = N.s.os)
  (ho:Le N (N.ob k o s)→OR D (N.ob k o s) p o):Aft D N noA (N.ob k o s):=by
 have mp:=List.mem_of_getElem? hp
 have np:∀ a,N.W a→a ≠ p.2:=fun a w e=>m.wk a w ⟨p,mp,e.symm⟩
 have l:Le N (N.ob k o s):=⟨fun a o w e=>⟨kp a o (np a w) e,w⟩,fun _ _ e=>e⟩
 have ex:∀ a,N.has a→(N.ob k o s).has a:=fun a h=>(Classical.em (a = p.2)).elim (fun e=>by rw [e]; exact Option.isSome_iff_exists.mpr he) fun e=>(Option.isSome_iff_exists.mp h).elim fun o g=>Option.isSome_iff_exists.mpr ⟨o,kp a o e g⟩
 refine ⟨⟨fun a o e=>kp a o (fun q=>absurd ((m.new p mp).symm.trans (show D.base.get? p.2 = some o from q ▸ e)) (fun h=>nomatch h)) (m.gi a o e),m.big,m.len.trans List.length_set.symm,m.nodup,m.new,m.apart,m.wk,fun a w=>ex a (m.wd a w),m.cs,fun q h=>⟨ex _ (m.lt q h).1,ex _ (m.lt q h).2⟩,fun j o' q e1 e2=>?_⟩,
  l,fun a o e n _=>kp a o (fun q=>n ⟨p,mp,q.symm⟩) e,ex,fun _ h=>.inl h,fun _ h=>.inl h,g,os⟩
 by_cases hj:k = j
 ·subst hj
  cases hp.symm.trans e2
  cases (List.getElem?_set_self (m.len ▸ (List.getElem?_eq_some_iff.mp hp).1)).symm.trans e1
  exact ho l
 ·have n2:q.2 ≠ p.2:=fun e=>hj (nodup_at m.nodup hp e2 e.symm)
  exact OR_le l (fun o e=>kp _ o (fun e=>n2 ((m.apart q (List.mem_of_getElem? e2) p mp e).symm.trans e)) e) (fun o e=>kp _ o n2 e) (m.obj j o' q ((List.getElem?_set_ne hj).symm.trans e1) e2)
theorem or_field {Y:Nx} {p:Addr × Addr} {k f:Nat} {fs:List (Nat × V)} {x:Str} {mm:Str→Option PV} {d:V} {v:PV} (l:Le N Y) (kp:∀ b o,b ≠ p.2→N.s.heap.get? b = some o→Y.s.heap.get? b = some o) (ho:strOk x = true) (he:encS x = f) (hn:N.s.heap.Ns p.2 mm) (hn':Y.s.heap.Ns1 p.2 (fun y=>if y = x then some v else mm y))
  (r:OR D N p (.inst k fs)) (rv:RV D Y d v):OR D Y p (.inst k (setA fs f d)):=by
 obtain ⟨⟨hk,e⟩,ne,m2,ns,n1,fo,w1,w2⟩:=r
 cases (funext fun y=>n1.ns.agree hn y:m2 = mm)
 have fx:=fo x ho
 rw [he] at fx
 refine ⟨⟨hk,kp _ _ ne e⟩,ne,_,(if (getA fs f).isSome then ns else x :: ns),hn',fun y hy=>?_,fun y hy=>?_,?_⟩
 ·rw [getA_set]
  dsimp only
  by_cases hyx:y = x
  ·subst hyx
   rw [if_pos he]
   exact ⟨v,if_pos rfl,rv⟩
  ·rw [if_neg fun e=>hyx (encS_inj hy ho (e.trans he.symm)),if_neg hyx]
   exact FldOk_le l fo y hy
 ·dsimp only at hy
  by_cases hs:(getA fs f).isSome = true
  ·rw [if_pos hs]
   by_cases hyx:y = x
   ·obtain ⟨d2,hd2⟩:=Option.isSome_iff_exists.mp hs
    rw [hd2] at fx
    obtain ⟨v2,e1,_⟩:=fx
    exact hyx ▸ w1 x (by rw [e1]; exact fun h=>nomatch h)
   ·rw [if_neg hyx] at hy; exact w1 y hy
  ·rw [if_neg hs]
   by_cases hyx:y = x
   ·exact hyx ▸ List.mem_cons_self ..
   ·rw [if_neg hyx] at hy; exact List.mem_cons_of_mem _ (w1 y hy)
 ·rw [setA_len]
  by_cases hs:(getA fs f).isSome = true
  ·rw [if_pos hs,if_pos hs]; exact w2
  ·rw [if_neg hs,if_neg hs]; exact Nat.succ_le_succ w2
end
section
variable {B:Bd} {u:Nat} {c:Ck} {G:Ev} {N Y Z:Nx} {Q E:PV→Shared→Prop} {g:Gt}
theorem set_field {q:Addr × Addr} {j k f:Nat} {fs:List (Nat × V)} {x:Str} {d:V} {v:PV} {Q:Unit→Shared→Prop} (F:Facts B g) (sm:Sm B.D N) (hx:x∈g.flds) (ho:strOk x = true) (he:encS x = f) (hz:fs.length≤1000)
  (hq:N.μ[j]? = some q) (hs:N.σ[j]? = some (.inst k fs)) (rv:Val B N d v) (z:∀ s',Aft B.D N noA (N.ob j (.inst k (setA fs f d)) s')→Q () s'):Wp B G N (setAttr (.ref q.1) x v) Q E:=by
 have r:=sm.obj j _ q hs hq
 obtain ⟨od,mm,I⟩:=ins_at (B:=B) r
 obtain ⟨⟨hk,ge⟩,ne,m2,nl,n1,fo2,w1,w2⟩:=id r
 have C:=F.ck k hk
 have X:=F.x sm
 refine set_plain X I.at_ C.sa (osa_open (s:={ N.s with toks:=N.s.toks + 1 }) X I.at_ C.po (fldIn_taker (F.fl x hx k hk)) fun b=>?_)
 obtain ⟨cd,hc,hd'⟩:=any_some C.hd
 refine wpAny_bind (wpAny_pure (wpAny_bind (wpAny_bind (wpAny_loadPart (s:={ N.s with toks:=N.s.toks + 1 }) ge (wpAny_bind ((looks_clsIn X hc).here (s:={ N.s with toks:=N.s.toks + 1 }) ?_))))))
 rw [hd']
 refine wpAny_pure (a:=some q.2) (wpAny_bind (wpAny_pure (wpAny_bind ?_)))
 refine wpAny_nsSet1 (s:={ N.s with toks:=N.s.toks + 1 }) n1 fun h1 hn1 sb=>?_
 obtain ⟨o1,es1,ep1,e1,e2,e3⟩:=hn1.count (w1.cons x v)
 refine wpAny_bind (wpAny_lookBehind (s:=⟨h1,N.s.gens,N.s.drawn,N.s.toks + 1 + 1,N.s.os⟩) e1 (by rw [e2]; exact pastItsLine_dict (by rw [sizeLine_eq]; simp only [List.length_cons] at e3; (first | lia | omega))) ?_)
 exact wpAny_pure (z _ (.ob sm hq (fun b o n e=>sb.extBut b o n e) ⟨_,e1⟩ rfl rfl fun l=>or_field l (fun b o n e=>sb.extBut b o n e) ho he n1.ns hn1 r (RV_le l _ _ rv)))
theorem setFldO_of {f:Nat} {v:V} {n:Nat} {σ:St} {o:Option SObj} {K:St→Prop} (h:oK (setFldO f v n σ o) K):∃ c fs,o = some (.inst c fs)∧fs.length≤1000∧K (σ.set n (.inst c (setA fs f v))):=by
 cases o with
 | none=>exact False.elim h
 | some o=>cases o with
  | inst c fs=>have w:=if_of h; exact ⟨c,fs,rfl,of_decide_eq_true w.1,w.2⟩
  | _=>exact False.elim h
theorem core_attr {o:X} {f:Nat} {oe:PE} {attr:Str} {d:V} {v:PV} {Q:Unit→Shared→Prop} {K:REnv→St→Prop} (F:Facts B g) (hx:attr∈g.flds) (hos:strOk attr = true) (he:encS attr = f) (h2:TE B u c o (fun env=>eval oe env))
  (H:Go B u c G N) (r:Val B N d v) (q:kSto B.P B.T d G.ρ N.σ K (.attr o f)) (z:∀ Y,K G.ρ Y.σ→Aft B.D N noA Y→Q () Y.s):Wp B G N (eval oe G.env) (fun ov s₂=>wpAny (model B.D.prog B.D.w) G.A (setAttr ov attr v) Q E s₂) E :=
 h2 G N _ E _ H q fun d2 Y2 w k2 a2 rw=>by
  cases d2 with
  | loc k =>
   obtain ⟨cc,fs,hk,hz,k4⟩:=setFldO_of (show oK (setFldO f d k Y2.σ Y2.σ[k]?) _ from k2)
   obtain ⟨p,rfl,hp⟩:=rw
   exact set_field (G:=G) F a2.sm hx hos he hz hp hk (Val.on a2 r) fun s' b=>z (Y2.ob k _ s') k4 (a2.trans b)
  | _=>exact False.elim k2
theorem ts_attr {x o:X} {f:Nat} {e oe:PE} {attr:Str} {ap pos:Pos} (F:Facts B g) (hx:attr∈g.flds) (hos:strOk attr = true) (he:encS attr = f) (h:TE B u c x (fun env=>eval e env)) (h2:TE B u c o (fun env=>eval oe env))
  (hs:∀ env:PEnv,env.scope = c.sc→swapsWith e (some (.Attribute oe attr ap)) pos.line env = pure false):TS B u c (.asg (.attr o f) x) (fun env=>exec (.Assign [.Attribute oe attr ap] e pos) env):=fun G N Q E K H q z =>
 plainObj_wpAny_Assign_Attribute (h G N _ E _ H.go q fun d Y v k1 a r=>core_attr (K:=fun ρ σ=>K (.next ρ σ)) F hx hos he h2 (H.go.to a) r k1 fun Z k b=>z.1 G.ρ Z k (a.trans b).up (H.to (a.trans b))) (hs _ H.go.eo.sc)
theorem turn_list {j:Nat} {p:Addr × Addr} {arr:Array PV} {ka:Nat} {k:List V} (f:Array PV→Array PV) (sm:Sm B.D N) (hp:N.μ[j]? = some p) (e12:p.1 = p.2) (il:N.s.heap.get? p.1 = some { cls:=.type "list",dict:=none,data:=.seq arr ka,slots:=#[] }) (rs:Vals B N k (f arr).toList) (tk:Tok) :
  Aft B.D N noA (N.ob j (.list k) { N.s with heap:=N.s.heap.update p.1 (Obj.mapSeq f),toks:=tk }):=by
 have sb:Heap.SameBut p.1 N.s.heap (N.s.heap.update p.1 (Obj.mapSeq f)):=Heap.SameBut.update ..
 obtain ⟨k',e'⟩:∃ k',Obj.mapSeq f { cls:=.type "list",data:=.seq arr ka } = { cls:=.type "list",data:=.seq (f arr) k' }:=⟨_,rfl⟩
 have e2:=Heap.get?_update_self (Obj.mapSeq f) il (by rw [e']; rfl)
 rw [e'] at e2
 exact .ob sm hp (fun b o n e=>sb.extBut b o (e12 ▸ n) e) ⟨_,by rw [← e12]; exact e2⟩ rfl rfl fun l=>⟨e12,f arr,⟨k',e2⟩,RVs_le l _ _ rs⟩
theorem RVs_set {d:V} {v:PV} {l:List V} {vs:List PV} (r:Vals B N l vs) (rv:Val B N d v) (i:Nat):Vals B N (l.set i d) (vs.set i v):=by
 induction l generalizing vs i with
 | nil=>cases (show vs = [] from r); rfl
 | cons x l ih =>
  obtain ⟨w,t,rfl,r1,r2⟩:=r
  cases i with
  | zero=>exact ⟨v,t,rfl,rv,r2⟩
  | succ i=>exact ⟨w,t.set i v,rfl,r1,ih r2 i⟩
theorem set_list {a:Addr} {arr:Array PV} {ka:Nat} {i:Int} {t:Tok} {v:PV} {Q:Unit→Shared→Prop} (il:N.s.heap.get? a = some { cls:=.type "list",dict:=none,data:=.seq arr ka,slots:=#[] }) (h0:0≤i) (hn:i.toNat < arr.size) (hz:arr.size≤1000000)
  (q:Q () { N.s with heap:=N.s.heap.update a (Obj.mapSeq (·.setIfInBounds i.toNat v)) }):Wp B G N (setItem (.ref a) (.int i t) v) Q E:=by
 have hT:N.s.TypeIs (.ref a) "list":=⟨_,il,rfl⟩
 delta setItem
 refine wpAny_holding ?_
 refine wpAny_bind (wpAny_sequenceKey hT (by decide) ?_)
 refine wpAny_bind (wpAny_callSpecial?_slot (name:=Str.ofString "__setitem__") hT slot_list_setitem (wpAny_call_entry slot_list_setitem hT entry_list_setitem ?_ (args_list_setitem _ _ _)))
 show wpAny _ _ (Builtin.List.listSubscript? (.int i t) >>= _) _ _ _
 refine wpAny_bind (wpAny_listSubscript_int (fitsIndex_of h0 (by (first | lia | omega))) ?_)
 obtain ⟨n,rfl⟩:=Int.eq_ofNat_of_zero_le h0
 show wpAny _ _ ((seqItemAt a n >>= fun r=>pure (r.map (n,·))) >>= _) _ _ _
 refine wpAny_bind (wpAny_bind (wpAny_seqItemAt il rfl (wpAny_pure ?_)))
 rw [show arr[n]? = some arr[n] from Array.getElem?_eq_getElem hn]
 show wpAny _ _ (setSeqItemAt a n v >>= _) _ _ _
 refine wpAny_bind (wpAny_setSeqItemAt il rfl ?_)
 exact wpAny_pure ⟨.none,rfl,wpAny_pure q⟩
theorem core_item {o k:X} {oe ke:PE} {d:V} {v:PV} {Q:Unit→Shared→Prop} {K:REnv→St→Prop} (hu:30≤u) (h2:TE B u c o (fun env=>eval oe env)) (h3:TE B u c k (fun env=>eval ke env))
  (H:Go B u c G N) (r:Val B N d v) (q:kSto B.P B.T d G.ρ N.σ K (.item o k)) (z:∀ Y,K G.ρ Y.σ→Aft B.D N noA Y→Q () Y.s):Wp B G N (eval oe G.env) (fun ov s₂=>wpAny (model B.D.prog B.D.w) G.A (eval ke G.env) (fun iv s₃=>wpAny (model B.D.prog B.D.w) G.A (setItem ov iv v) Q E s₃) E s₂) E :=
 h2 G N _ E _ H q fun d2 Y2 w k2 a2 rw=>h3 G Y2 _ E _ (H.to a2) k2 fun d3 Y3 y k3 a3 ry=>by
  have af:=a2.trans a3
  have rv:=Val.on af r
  cases d2 with
  | loc j =>
   obtain ⟨p,rfl,hp⟩:=Val.on a3 rw
   refine (st_of (f:=fun s=>oK (setObjO d3 d j Y3.σ s) fun σ=>K G.ρ σ) a3.sm hp k3 id).elim fun s w=>?_
   cases s with
   | dict l =>
    obtain ⟨k4,⟨e12,kvs,t,rs⟩,hj⟩:=w
    have fin:∀ {o s'},K G.ρ (Y3.σ.set j o)→Aft B.D Y3 noA (Y3.ob j o s')→Q () s':=fun {o s'} k4 b=>z (Y3.ob j o s') k4 (af.trans b)
    obtain ⟨hc,k4⟩:=if_of k4
    obtain ⟨s,tk,rfl,hzs,rfl,is⟩:=key_of (and_l hc) ry
    refine wpAny_setItem_pairs is t.2 (fun h' t' sb=>?_) (cap_ln (RVd_length rs) (of_decide_eq_true (and_r hc)))
    have t2:IsDc B.D h' p.1 _:=⟨t.1,t'⟩
    exact fin (s':={ Y3.s with heap:=h',toks:=_ }) k4 (.ob a3.sm hp (fun b o n e=>sb.extBut b o (e12 ▸ n) e) (by rw [← e12]; exact t'.elim fun o q=>q.elim fun _ q=>q.elim fun _ q=>⟨o,q.1⟩) rfl rfl fun l=>⟨e12,_,t2,RVd_set hzs (RV_le l _ _ rv) (RVd_le l _ _ rs) (dict_nodup t)⟩)
   | list l =>
    obtain ⟨k4,⟨e12,arr,⟨ka,il⟩,rs⟩,hj⟩:=w
    obtain ⟨i,tk,rfl,rfl,k4⟩:=asInt_of (oK_bind k4) ry
    obtain ⟨⟨⟨h0,hn⟩,hz⟩,k4⟩:=if_of k4
    have hs:=len_eq (B:=B) rs
    exact set_list (G:=G) (N:=Y3) il h0 (hs ▸ hn) (hs ▸ hz) (z (Y3.ob j _ _) k4 (af.trans (turn_list (fun xs=>xs.setIfInBounds i.toNat v) a3.sm hp e12 il (by rw [Array.toList_setIfInBounds]; exact RVs_set rs rv _) _)))
   | _=>exact w.1.elim
  | _=>exact False.elim k3
theorem ts_item {x o k:X} {e oe ke:PE} {sp pos:Pos} (hu:30≤u) (h:TE B u c x (fun env=>eval e env)) (h2:TE B u c o (fun env=>eval oe env)) (h3:TE B u c k (fun env=>eval ke env))
  (hs:∀ env:PEnv,env.scope = c.sc→swapsWith e (some (.Subscript oe ke sp)) pos.line env = pure false):TS B u c (.asg (.item o k) x) (fun env=>exec (.Assign [.Subscript oe ke sp] e pos) env):=fun G N Q E K H q z =>
 wpAny_Assign_Subscript (h G N _ E _ H.go q fun d Y v k1 a r=>core_item (Q:=fun _=>Q .next) (K:=fun ρ σ=>K (.next ρ σ)) hu h2 h3 (H.go.to a) r k1 fun Z k b=>z.1 G.ρ Z k (a.trans b).up (H.to (a.trans b))) (hs _ H.go.eo.sc)
end
end Mine.Internal
namespace Mine.Internal
open PySem PySem.W PyProof.Rows PySem.Calls
noncomputable def mthId:Mth→String
 | .app=>"list.append" | .ext=>"list.extend" | .rem=>"list.remove"
section
variable {B:Bd} {u:Nat} {c:Ck} {G:Ev} {N Y Z:Nx} {Q E:PV→Shared→Prop} {g:Gt}
noncomputable def MthOk (B:Bd) (u:Nat) (m:Mth):Prop :=
 ∀ (G:Ev) (N:Nx) (k:Nat) (p:Addr × Addr) (d:V) (v:PV) (Q E:PV→Shared→Prop) (K:St→Prop),Room B.n u G.A→Sm B.D N→N.μ[k]? = some p→oK (mthO N.σ d k m N.σ[k]?) K→Val B N d v →
  (∀ o s',K (N.σ.set k o)→Aft B.D N noA (N.ob k o s')→Q .none s')→Wp B G N (call (.builtin (mthId m)) [.ref p.1,v]) Q E
theorem mthL_of {σ:St} {d:V} {k:Nat} {m:Mth} {o:SObj} {K:St→Prop} (h:oK (mthO σ d k m (some o)) K):∃ l,o = .list l:=by
 cases o with
 | list l=>exact ⟨l,rfl⟩
 | _=>exact False.elim h
theorem ok_app:MthOk B u .app:=fun G N k p d v Q E K rm sm hp hh rv z=>(st_of (f:=fun o=>oK (mthO N.σ d k .app o) K) sm hp hh id).elim fun o w=>by
 obtain ⟨h,r,hs⟩:=w
 obtain ⟨l,rfl⟩:=mthL_of (m:=.app) h
 obtain ⟨e12,arr,⟨ka,il⟩,rs⟩:=r
 obtain ⟨hz,h⟩:=if_of (oK_map h)
 have hlen:=len_eq (B:=B) rs
 refine wpAny_list_append_plain ⟨ka,il⟩ (fun h' il' sb=>?_) (cap_line (by have hz:(l++[d]).length≤1000000:=hz; rw [List.length_append] at hz; rw [hlen]; exact Nat.le_of_succ_le hz))
 exact z (.list (l++[d])) _ h (.ob sm hp (fun b o n e=>sb.extBut b o (e12 ▸ n) e) (by rw [← e12]; exact il'.elim fun _ e=>⟨_,e⟩) rfl rfl fun le=>⟨e12,arr.push v,il',by rw [Array.toList_push]; exact RVs_append (RVs_le le _ _ rs) ⟨v,[],rfl,RV_le le _ _ rv,rfl⟩⟩)
theorem seqX {v:V} {x:PV} {K:List V→Prop} {Z:Prop} (sm:Sm B.D N) (e:oK (asList N.σ v) K) (r:Val B N v x) (z:∀ l b vs,K l→x = .ref b→(IsLs N.s.heap b vs ∨ IsTp N.s.heap b vs)→Vals B N l vs.toList→Z):Z:=by
 cases v with
 | tup k=>exact r.elim fun a q=>q.elim fun vs q=>z k a vs e q.1 (.inr q.2.2.1) q.2.2.2
 | list k=>exact lst_of (v:=.list k) sm e r fun l a k q rc=>rc.elim fun vs w=>z l a vs k q (.inl w.1) w.2
 | loc k=>exact lst_of (v:=.loc k) sm e r fun l a k q rc=>rc.elim fun vs w=>z l a vs k q (.inl w.1) w.2
 | _=>exact False.elim e
theorem ok_ext:MthOk B u .ext:=fun G N k p d v Q E K rm sm hp hh rv z=>(st_of (f:=fun o=>oK (mthO N.σ d k .ext o) K) sm hp hh id).elim fun o w=>by
 obtain ⟨h,r,hs⟩:=w
 obtain ⟨l,rfl⟩:=mthL_of (m:=.ext) h
 obtain ⟨e12,arr,⟨ka,il⟩,rs⟩:=r
 refine seqX sm (oK_bind h) rv fun k' c arr2 h hx t rs2=>?_
 subst hx
 obtain ⟨hz,h⟩:=if_of (oK_map h)
 have hz2:=cap_size hz rs rs2
 have hs1:¬(!arr.isEmpty && Builtin.List.listTooLong (arr.size + arr2.size)) = true:=fun h=>Nat.not_lt.mpr hz2 (of_decide_eq_true (and_r h))
 have fin:∀ tk,Q .none { N.s with heap:=N.s.heap.update p.1 (Obj.mapSeq fun x=>x++arr2),toks:=tk }:=fun tk=>z _ _ h (turn_list (fun x=>x++arr2) sm hp e12 il (by rw [Array.toList_append]; exact RVs_append rs rs2) tk)
 rcases t with ⟨kb,t⟩ | ⟨kb,t⟩
 ·exact call_meets PySem.F.slot_list_extend ⟨_,il,rfl⟩ PySem.F.entry_list_extend (PySem.F.args_list_extend_2 _ _) (AutoSeq1.list_extend_list_list_0 p.1 arr ka c arr2 kb hs1 (Nat.le_trans (Nat.le_add_right _ _) hz2) (Nat.le_succ_of_le hz2)) ⟨il,t,fin _⟩
 ·exact call_meets PySem.F.slot_list_extend ⟨_,il,rfl⟩ PySem.F.entry_list_extend (PySem.F.args_list_extend_2 _ _) (AutoSeq1.list_extend_list_tuple_0 p.1 arr ka c arr2 kb hs1 (Nat.le_trans (Nat.le_add_right _ _) hz2) (Nat.le_succ_of_le hz2)) ⟨il,t,fin _⟩
theorem eraseIdx_rv {d:List V}:∀ {vs:List PV} (j:Nat),Vals B N d vs→Vals B N (d.eraseIdx j) (vs.eraseIdx j):=by
 induction d with
 | nil=>intro vs j r; cases (show vs = [] from r); rfl
 | cons x l ih =>
  intro vs j r
  obtain ⟨v,t,rfl,r1,r2⟩:=r
  cases j with
  | zero=>exact r2
  | succ j=>exact ⟨v,t.eraseIdx j,rfl,r1,ih j r2⟩
noncomputable def isTxt (z:Str):PV→Bool
 | .str x _=>x == z
 | _=>false
theorem txt_of {d:V} {v:PV} (hd:isS d = true) (r:Val B N d v):∃ x t,v = .str x t∧strOk x = true∧d = .str (encS x):=by
 cases d with
 | str s=>exact r.elim fun x q=>q.elim fun t q=>⟨x,t,q.1,q.2.1,by rw [q.2.2]⟩
 | _=>exact absurd hd Bool.false_ne_true
theorem ok_rem:MthOk B u .rem:=fun G N k p d v Q E K rm sm hp hh rv z=>(st_of (f:=fun o=>oK (mthO N.σ d k .rem o) K) sm hp hh id).elim fun o w=>by
 obtain ⟨h,r,hs⟩:=w
 obtain ⟨l,rfl⟩:=mthL_of (m:=.rem) h
 obtain ⟨e12,arr,⟨ka,il⟩,rs⟩:=r
 obtain ⟨hc,h0⟩:=if_of (oK_map h)
 have hS:=List.all_eq_true.mp (and_l (and_l hc))
 clear h
 refine oK_of (oK_map h0) fun j hj h=>?_
 have hlen:=len_eq (B:=B) rs
 obtain ⟨s,tz,rfl,hzs,rfl⟩:=txt_of (and_r (and_l hc)) rv
 obtain ⟨hjl,hp2,hbefore⟩:=List.findIdx?_eq_some_iff_getElem.mp hj
 -- the items' tests agree
 have tst:∀ i (h2:i < arr.size),(∃ x t,arr[i] = .str x t)∧isTxt s arr[i] = V.beq (l[i]'(hlen ▸ h2)) (.str (encS s)):=fun i h2=>by
  have h1:i < l.length:=hlen ▸ h2
  obtain ⟨w,e1,r1⟩:=RVs_get rs (List.getElem?_eq_getElem h1)
  obtain ⟨x,t,e3,hx,e4⟩:=txt_of (hS _ (List.getElem_mem h1)) r1
  have e2:arr[i] = .str x t:=Option.some.inj (((Array.getElem?_eq_getElem h2).symm.trans Array.getElem?_toList.symm).trans (e1.trans (congrArg some e3)))
  rw [e2,e4]
  exact ⟨⟨x,t,rfl⟩,str_beq hx hzs⟩
 have he:∀ y,y∈arr→MeetsSeq.EqGives y (.str s tz) (isTxt s y):=fun y hy=>by
  obtain ⟨i,h2,rfl⟩:=Array.mem_iff_getElem.mp hy
  obtain ⟨x,t,e⟩:=(tst i h2).1
  rw [e]
  exact eqGives_str x s t tz
 have hja:j < arr.size:=hlen.symm ▸ hjl
 refine call_meets PySem.F.slot_list_remove ⟨_,il,rfl⟩ PySem.F.entry_list_remove (PySem.F.args_list_remove_2 _ _) (MeetsSeq.list_remove p.1 arr ka (.str s tz) (isTxt s) he j hja ((tst j hja).2.trans hp2)
  (fun i h1 h2=>(tst i h1).2.trans (Bool.not_eq_true _ ▸ hbefore i h2)) (cap_ln hlen (of_decide_eq_true (and_r hc)))) ⟨il,z _ _ h (turn_list (fun xs=>xs.eraseIdxIfInBounds j) sm hp e12 il ?_ _)⟩
 rw [show (arr.eraseIdxIfInBounds j).toList = arr.toList.eraseIdx j by rw [Array.eraseIdxIfInBounds,dif_pos hja]; simp]
 exact eraseIdx_rv j rs
theorem asListL_of {v:V} {K:List V→Prop} (e:oK (asListL v) K):∃ l,v = .list l∧K l:=by
 cases v <;> first | exact ⟨_,rfl,e⟩ | exact False.elim e
theorem con_typ {d:V} {v:PV} (sm:Sm B.D N) (h:isCon d N.σ = true) (r:Val B N d v):N.s.TypeIs v "list"∧∀ a,v = .ref a→∃ o,N.s.heap.get? a = some o∧o.dict = none:=by
 cases d with
 | loc k =>
  obtain ⟨p,rfl,hp⟩:=r
  obtain ⟨o,h,r,_⟩:=st_of (f:=fun o=>conO o = true) sm hp h fun h=>nomatch h
  cases o with
  | list l=>exact r.2.elim fun _ w=>list_typ w.1
  | _=>exact absurd h Bool.false_ne_true
 | _=>exact absurd h Bool.false_ne_true
theorem ts_mth {m:Mth} {y x:X} {o e:PE} {meth:Str} {apos cpos pos:Pos} (mo:MthOk B u m) (pa:PlainAttrs "list") (slot:Slot "list" meth (mthId m)) (hty:typeOf (.builtin (mthId m)) = pure (.type "method_descriptor")) (hb:plainBase o = true) (hl:(apos.endLine == cpos.line) = true) (hst:isStarred e = false)
  (h1:TE B u c y (fun env=>eval o env)) (h:TE B u c x (fun env=>eval e env)):TS B u c (.mth m y x) (fun env=>exec (.Expr (.Call (.Attribute o meth apos) [e] [] cpos) pos) env):=fun G N Q E K H q z =>
 wpAny_Expr_any (call_meth pa slot hty hb hl (show 1 < 29 by decide) (by rw [List.all_cons,hst]; rfl) h1 (tes_cons hst h tes_nil) H.go q fun d Y w k1 a r=>by
  obtain ⟨hc,k1⟩:=bK_of k1
  refine ⟨con_typ a.sm hc r,fun ds σ=>match ds with | [v]=>oK (mthE m d v σ) fun σ=>K (.next G.ρ σ) | _=>False,k1,fun ds Z vs k2 a2 rs=>?_⟩
  match ds,k2,rs with
  | [dv],k2,rs =>
   obtain ⟨vv,rfl,rv⟩:=rs.one
   cases d with
   | loc k =>
    obtain ⟨p,rfl,hp⟩:=Val.on a2 r
    exact mo G Z k p dv vv _ E _ H.go.rm a2.sm hp k2 rv fun o s' k3 b=>z.1 G.ρ (Z.ob k o s') k3 ((a.trans a2).trans b).up (H.to ((a.trans a2).trans b))
   | _=>exact False.elim k2) (by delta interactive; rw [H.go.eo.kind]; rfl) rfl
end
end Mine.Internal
namespace Mine.Internal
open PySem PySem.W PyProof.Rows PySem.Calls
inductive NmS (c:Ck):List Nat→List PE→Prop
 | nil:NmS c [] []
 | cons {x:Str} {i:Nat} {is:List Nat} {es:List PE} {p:Pos}:Nm c x i→NmS c is es→NmS c (i :: is) (.Name x p :: es)
inductive TgOk (c:Ck):Tg→PE→Prop
 | one {x:Str} {i:Nat} {p:Pos}:Nm c x i→TgOk c (.one i) (.Name x p)
 | many {is:List Nat} {es:List PE} {k:Nat} {p:Pos}:NmS c is es→TgOk c (.many is) (.Tuple es k p)
section
variable {B:Bd} {u:Nat} {c:Ck} {G:Ev} {N Y Z:Nx} {E:PV→Shared→Prop}
theorem nms_len {is:List Nat} {es:List PE} (h:NmS c is es) (env:PEnv):(assignEach es env).length = is.length∧(assignEach es env).findIdx? (·.1) = none:=by
 induction h with
 | nil=>exact ⟨rfl,rfl⟩
 | @cons x i is es p h1 _ ih =>
  refine ⟨congrArg (· + 1) ih.1,?_⟩
  show ((false,assign (.Name x p) env) :: assignEach es env).findIdx? (·.1) = none
  rw [List.findIdx?_cons,ih.2]; rfl
theorem stores {is:List Nat} {es:List PE} (h:NmS c is es):∀ (G:Ev) (N:Nx) (l:List V) (vs:List PV) (Q:Unit→Shared→Prop),is.length = l.length→Gs B u c G N→Vals B N l vs →
  (∀ Y,Y.σ = N.σ→Aft B.D N (Fr c G.env) Y→Gs B u c (G.to (setMany is l G.ρ)) Y→Q () Y.s)→Wp B G N (assignInOrder ((assignEach es G.env).map (·.2)) vs) Q E:=by
 induction h with
 | nil=>exact fun G N l vs Q hl H rs q=>assignInOrder_nil (q N rfl (.refl H.go.sm) H)
 | @cons y i is es p h1 _ ih=>exact fun G N l vs Q hl H rs q=>match l,hl,rs with
  | d :: l,hl,⟨v,t,e,r1,r2⟩=>by
   subst e
   show wpAny _ G.A (assignInOrder (assign (.Name y p) G.env :: (assignEach es G.env).map (·.2)) (v :: t)) Q E N.s
   exact assignInOrder_cons (wpAny_assign_Name (store_ok H h1 r1 fun Y e1 a1 H1=>ih (G.set i d) Y l t Q (Nat.succ.inj hl) H1 (Vals.on a1 r2) fun Z e2 a2 H2=>q Z (e2.trans e1) (a1.trans a2) H2))
theorem unpack_sized {t:Addr} {items:Array PV} {targets:List (Bool × (PV→Sem Unit))} {Q:Unit→Shared→Prop} (hh:G.A.handled = none) (ht:N.s.heap.IsTuple t items) (hn:targets.length = items.size) (hstar:targets.findIdx? (·.1) = none)
  (h:∀ s',More N s'→wpAny (model B.D.prog B.D.w) G.A (assignInOrder (targets.map (·.2)) items.toList) Q E s'):Wp B G N (unpack (.ref t) targets) Q E:=by
 delta Wp unpack
 rw [hn,hstar]
 exact wpAny_bind (wpAny_holding (wpAny_unpackItems_tuple hh ht fun h' e=>h { N.s with heap:=h' } ⟨fun b o g=>e b o (fun q=>no_new (q ▸ has_of g)) g,rfl,rfl⟩))
theorem bind_for {tg:Tg} {target:PE} (h:TgOk c tg target) {d:V} {v:PV} {Q:Unit→Shared→Prop} {K:REnv→Prop} (H:Gs B u c G N) (ev:oK (bindTg G.ρ tg d) K) (rv:Val B N d v)
  (z:∀ ρ Y,K ρ→Y.σ = N.σ→Aft B.D N (Fr c G.env) Y→Gs B u c (G.to ρ) Y→Q () Y.s):Wp B G N (assign target G.env v) Q E:=by
 cases h with
 | one hb=>exact wpAny_assign_Name (store_ok H hb rv fun Y e a H1=>z _ Y ev e a H1)
 | @many is es k p hb =>
  cases d with
  | tup l =>
   obtain ⟨hl,ev⟩:=if_of ev
   obtain ⟨a,arr,rfl,wa,t,rs⟩:=rv
   have e:=nms_len hb G.env
   delta Wp
   rw [assign_Tuple]
   refine wpAny_bind (wpAny_standAt (unpack_sized (N:=N) H.go.rm.hand (IsTp.tup t) (e.1.trans (hl.trans (len_eq rs).symm)) e.2 fun s' m=>?_))
   have a:=m.aft H.go.sm
   exact stores hb G (N.at s') l _ Q hl (H.to a) (Vals.on a rs) fun Y e2 a2 H2=>z _ Y ev e2 (a.up.trans a2) H2
  | _=>exact False.elim ev
theorem ts_asgT {is:List Nat} {x:X} {es:List PE} {t:PE} {k:Nat} {tp pos:Pos} (hb:NmS c is es) (h:TE B u c x (fun env=>eval t env)) (hs:∀ env:PEnv,env.scope = c.sc→swapsWithSole [.Tuple es k tp] t pos.line env = pure false) (hw:∀ env:PEnv,env.scope = c.sc→swappedStores [.Tuple es k tp] t env = pure none) :
  TS B u c (.asgT is x) (fun env=>exec (.Assign [.Tuple es k tp] t pos) env):=fun G N Q E K H q z =>
 Assign_Tuple (h G N _ E _ H.go q fun d Y v k1 a r=>bind_for (TgOk.many (k:=k) (p:=tp) hb) (H.to a) k1 r fun ρ Z k2 e b H2=>z.1 ρ Z (by rw [e]; exact k2) (a.up.trans b) H2) (hs _ H.go.eo.sc) (hw _ H.go.eo.sc)
inductive NmN (c:Ck):List Nat→List Str→Prop
 | nil:NmN c [] []
 | cons {x:Str} {i:Nat} {is:List Nat} {xs:List Str}:Nm c x i→NmN c is xs→NmN c (i :: is) (x :: xs)
theorem NmN.len {is:List Nat} {xs:List Str} (h:NmN c is xs):is.length = xs.length:=by
 induction h with
 | nil=>rfl
 | cons _ _ ih=>exact congrArg (· + 1) ih
theorem store_names {is:List Nat} {xs:List Str} (h:NmN c is xs):∀ (G:Ev) (N:Nx) (l:List V) (vs:List PV) (Q:Unit→Shared→Prop),is.length = l.length→Gs B u c G N→Vals B N l vs →
  (∀ Y,Y.σ = N.σ→Aft B.D N (Fr c G.env) Y→Gs B u c (G.to (setMany is l G.ρ)) Y→Q () Y.s)→Wp B G N (assignInOrder (xs.map fun n=>bindName G.env n) vs) Q E:=by
 induction h with
 | nil=>exact fun G N l vs Q hl H rs q=>assignInOrder_nil (q N rfl (.refl H.go.sm) H)
 | @cons y i is xs h1 _ ih =>
  intro G N l vs Q hl H rs q
  cases l with
  | nil=>cases hl
  | cons d l =>
   obtain ⟨v,t,rfl,r1,r2⟩:=rs
   show wpAny _ G.A (assignInOrder (bindName G.env y :: xs.map fun n=>bindName G.env n) (v :: t)) Q E N.s
   exact assignInOrder_cons (bindName_ (store_ok H h1 r1 fun Y e1 a1 H1=>ih (G.set i d) Y l t Q (Nat.succ.inj hl) H1 (Vals.on a1 r2) fun Z e2 a2 H2=>q Z (e2.trans e1) (a1.trans a2) H2))
theorem ts_asgTs {w:Bool} {is:List Nat} {xs:List X} {es vs:List PE} {k k':Nat} {tp vp pos:Pos} {names:List Str} (hb:match w with | false=>NmS c is es | true=>NmN c is.reverse names.reverse)
  (h:TEs B u c xs (fun env=>spliced (backTo vp (starEach vs env)))) (hl:xs.length≤1000) (hs:∀ env:PEnv,env.scope = c.sc→swapsWithSole [.Tuple es k tp] (.Tuple vs k' vp) pos.line env = pure false)
  (hw:∀ env:PEnv,env.scope = c.sc→swappedStores [.Tuple es k tp] (.Tuple vs k' vp) env = pure (match w with | false=>none | true=>some names)) :
  TS B u c (.asgTs w is xs) (fun env=>exec (.Assign [.Tuple es k tp] (.Tuple vs k' vp) pos) env):=fun G N Q E K H q z=>by
 have tup:∀ {Q':PV→Shared→Prop},(∀ d Y t us,is.length = d.length∧K (.next (setMany (rvs w is) (rvs w d) G.ρ) Y.σ)→Aft B.D N noA Y→IsTp Y.s.heap t us→Vals B Y d us.toList→Q' (.ref t) Y.s)→Wp B G N (eval (.Tuple vs k' vp) G.env) Q' E:=fun q' =>
  Tuple_ (h G N _ E _ H.go q fun d Y v k1 l1 a r=>have b:=tre_ok (o:=tpO v.toArray) a.sm rfl; have w:=bK_of k1
   wpAny_newTuple (q' d (Y.tre _) _ v.toArray ⟨of_decide_eq_true w.1,w.2⟩ (a.trans b) ⟨_,push_at rfl⟩ (Vals.on b r)) (seq_len r l1 hl))
 cases w with
 | false =>
  refine Assign_Tuple (tup fun d Y t us k1 a it rs=>?_) (hs _ H.go.eo.sc) (hw _ H.go.eo.sc)
  have e:=nms_len (show NmS c is es from hb) G.env
  rw [assign_Tuple]
  refine wpAny_bind (wpAny_standAt (unpack_sized (G:=G) (N:=Y) H.go.rm.hand (IsTp.tup it) (e.1.trans (k1.1.trans (len_eq rs).symm)) e.2 fun s' m=>?_))
  have b:=m.aft a.sm
  exact stores (show NmS c is es from hb) G (Y.at s') d _ _ k1.1 (H.to (a.trans b)) (Vals.on b rs) fun Z e2 a2 H2=>z.1 _ Z (by rw [e2]; exact k1.2) ((a.trans b).up.trans a2) H2
 | true =>
  refine Assign_Tuple_swapped (tup fun d Y t us k1 a it rs=>?_) (hs _ H.go.eo.sc) (hw _ H.go.eo.sc)
  have hn:NmN c is.reverse names.reverse:=hb
  have hl2:=hn.len
  rw [List.length_reverse,List.length_reverse] at hl2
  rw [show names.length = us.size from hl2.symm.trans (k1.1.trans (len_eq rs).symm)]
  refine wpAny_unpackItems_tuple H.go.rm.hand (IsTp.tup it) fun h' e=>?_
  have b:=More.aft (y:=Y) (s:={ Y.s with heap:=h' }) ⟨fun b o g=>e b o (fun q=>no_new (q ▸ has_of g)) g,rfl,rfl⟩ a.sm
  exact store_names hn G (Y.at { Y.s with heap:=h' }) d.reverse _ _ (by rw [List.length_reverse,List.length_reverse]; exact k1.1) (H.to (a.trans b)) (RVs_rev (Vals.on b rs)) fun Z e2 a2 H2=>z.1 _ Z (by rw [e2]; exact k1.2) ((a.trans b).up.trans a2) H2
end
end Mine.Internal
namespace Mine.Internal
open PySem PySem.W PyProof.Rows PySem.Calls
mutual
theorem beq_eq:∀ (a:V) {b:V},V.beq a b = true→a = b
 | .none,b,h=>by cases b <;> first | rfl | exact absurd h Bool.false_ne_true
 | .bool x,b,h=>by cases b <;> first | exact congrArg V.bool (eq_of_beq h) | exact absurd h Bool.false_ne_true
 | .int x,b,h=>by cases b <;> first | exact congrArg V.int (of_decide_eq_true h) | exact absurd h Bool.false_ne_true
 | .str x,b,h=>by cases b <;> first | exact congrArg V.str (of_decide_eq_true h) | exact absurd h Bool.false_ne_true
 | .loc x,b,h=>by cases b <;> first | exact congrArg V.loc (of_decide_eq_true h) | exact absurd h Bool.false_ne_true
 | .tup l,b,h=>by cases b <;> first | exact congrArg V.tup (beqs_eq l h) | exact absurd h Bool.false_ne_true
 | .list l,b,h=>by cases b <;> first | exact congrArg V.list (beqs_eq l h) | exact absurd h Bool.false_ne_true
 | .dict l,b,h=>by cases b <;> first | exact congrArg V.dict (beqp_eq l h) | exact absurd h Bool.false_ne_true
theorem beqs_eq:∀ (a:List V) {b:List V},beqs a b = true→a = b
 | [],b,h=>by cases b <;> first | rfl | exact absurd h Bool.false_ne_true
 | x :: r,b,h=>by cases b <;> first | exact (have w:=Bool.and_eq_true_iff.mp h; List.cons_eq_cons.mpr ⟨beq_eq x w.1,beqs_eq r w.2⟩) | exact absurd h Bool.false_ne_true
theorem beqp_eq:∀ (a:List (V × V)) {b:List (V × V)},beqp a b = true→a = b
 | [],b,h=>by cases b <;> first | rfl | exact absurd h Bool.false_ne_true
 | (x,y) :: r,b,h=>by cases b <;> first | exact (have w:=Bool.and_eq_true_iff.mp h; have z:=Bool.and_eq_true_iff.mp w.2; List.cons_eq_cons.mpr ⟨Prod.ext (beq_eq x w.1) (beq_eq y z.1),beqp_eq r z.2⟩) | exact absurd h Bool.false_ne_true
end
theorem still_of {g:Option Nat} {l:List V} {σ:St} (h:stillB g l σ = true):still g l σ:=by
 cases g with
 | none=>trivial
 | some n =>
  show σ[n]? = _
  have h:stO l σ[n]? = true:=h
  generalize σ[n]? = o at h ⊢
  cases o with
  | none=>exact absurd h Bool.false_ne_true
  | some o=>cases o <;> first | exact congrArg (fun l=>some (SObj.list l)) (beqs_eq _ h) | exact absurd h Bool.false_ne_true
theorem stB_of {g:Option Nat} {l:List V} {σ:St} {p:Prop} (h:bK (stillB g l σ) p):still g l σ∧p:=⟨still_of (bK_of h).1,(bK_of h).2⟩
structure ItOk (D:Wd) (tg:PE) (I:Addr) (fp:Addr→Prop) (J:Nat→Nx→Prop) (vs:List V) (g:Option Nat):Prop where
 jm:∀ (k:Nat) (N Y:Nx),Le N Y→(∀ b,fp b→∀ o,N.s.heap.get? b = some o→Y.s.heap.get? b = some o)→J k N→J k Y
 item:∀ (A:Around) (k:Nat) (d:V) (N:Nx) (Q:PV→Shared→Prop) (E E':PV→Shared→Prop),A.handled = none→vs[k]? = some d→J k N→Sm D N→(∀ b,fp b→Pv N b)→still g vs N.σ →
  (∀ v Y,J (k + 1) Y→Aft D N fp Y→Y.σ = N.σ→RV D Y d v→Q v Y.s)→wpAny (model D.prog D.w) A (pyNext (.ref I)) (fun r s₁=>∃ v,r = some v∧wpAny (model D.prog D.w) A (letOwnedTupleGo tg (.ref I) v) (fun _ s₂=>Q v s₂) E' s₁) E N.s
 stop:∀ (A:Around) (N:Nx) (Q:Shared→Prop) (E:PV→Shared→Prop),A.handled = none→J vs.length N→Sm D N→still g vs N.σ →
  (∀ s₁:Shared,(∀ b o,N.s.heap.get? b = some o→¬ fp b→s₁.heap.get? b = some o)→s₁.gens = N.s.gens→s₁.os = N.s.os→Q s₁)→wpAny (model D.prog D.w) A (pyNext (.ref I)) (fun r s₁=>r = none∧Q s₁) E N.s
 self:∀ (A:Around) (k:Nat) (N:Nx) (Q:PV→Shared→Prop) (E:PV→Shared→Prop),J k N→Q (.ref I) N.s→wpAny (model D.prog D.w) A (pyIter (.ref I)) Q E N.s
noncomputable def ownsTuples (n:String):Bool:=["enumerate","zip","dict_itemiterator","dict_reverseitemiterator","odict_iterator","itertools.zip_longest","itertools.pairwise"].contains n
noncomputable def Itr (nm:String) (h:Heap) (a l:Addr) (i:Nat):Prop:=∃ o,h.get? a = some o∧o.cls = .type nm∧o.data = .fields #[.ref l,.int i 0]
noncomputable def Cn (D:Wd) (g:Option Nat) (vs:List V) (T:Heap→Addr→Array PV→Prop) (l:Addr) (C:Nx→Prop):Prop :=
 (∀ N Y,Le N Y→C N→C Y)∧∀ N,Sm D N→still g vs N.σ→C N→∃ arr,T N.s.heap l arr∧RVs D N vs arr.toList
section
variable {D:Wd} {A:Around} {N:Nx} {tg:PE} {vs:List V} {g:Option Nat} {it l:Addr} {C:Nx→Prop}
theorem letgo_skip {s:Shared} {I:Addr} {v:PV} {o:Obj} {n:String} {vs:Array PV} {Q:Unit→Shared→Prop} {E:PV→Shared→Prop} (ho:s.heap.get? I = some o) (hc:o.cls = .type n) (hd:o.data = .fields vs) (hn:ownsTuples n = false) (q:Q () s) :
  wpAny (model D.prog D.w) A (letOwnedTupleGo tg (.ref I) v) Q E s:=by
 have core:wpAny (model D.prog D.w) A (do
   let (.ref r,.ref a):=((.ref I,v):PV × PV) | return
   let o ← load r
   match o.cls,o.data with
   | .type n,.fields vs =>
    if ["enumerate","zip","dict_itemiterator","dict_reverseitemiterator","odict_iterator","itertools.zip_longest","itertools.pairwise"].contains n && vs[0]? == some (rawInt a) then
     rule "for.unpacks-the-owned-tuple"
     updateField r 0 .none
   | _,_=>pure ():Sem Unit) Q E s:=by
  cases v with
  | ref T =>
   refine wpAny_bind (wpAny_load ho ?_)
   rw [hc,hd]
   show wpAny _ _ (if (ownsTuples n && _) = true then _ else _) _ _ _
   rw [hn]
   exact wpAny_pure q
  | _=>exact wpAny_pure q
 cases tg <;> first | exact core | exact wpAny_pure q
theorem get_arr {arr:Array PV} {k:Nat} {x:Option PV} (h:arr.toList[k]? = x):arr[k]? = x:=by rw [← Array.getElem?_toList]; exact h
theorem arr_stop {arr:Array PV} (r:RVs D N vs arr.toList):arr[vs.length]? = none:=get_arr (List.getElem?_eq_none (Nat.le_of_eq (RVs_length r)))
theorem it_seq {nm:String} {T:Heap→Addr→Array PV→Prop} (hn:ownsTuples nm = false) (hc:Cn D g vs T l C)
  (hi:∀ {A:Around} {s:Shared} {i:Nat} {arr:Array PV} {x:PV} {Q:Option PV→Shared→Prop} {E:PV→Shared→Prop},Itr nm s.heap it l i→T s.heap l arr→arr[i]? = some x→(∀ h',Itr nm h' it l (i + 1)→Heap.SameBut it s.heap h'→Q (some x) { s with heap:=h' })→wpAny (model D.prog D.w) A (pyNext (.ref it)) Q E s)
  (he:∀ {A:Around} {s:Shared} {i:Nat} {arr:Array PV} {Q:Option PV→Shared→Prop} {E:PV→Shared→Prop},A.handled = none→Itr nm s.heap it l i→T s.heap l arr→arr[i]? = none→(∀ h',Heap.ExtBut it s.heap h'→Q none { s with heap:=h' })→wpAny (model D.prog D.w) A (pyNext (.ref it)) Q E s)
  (hs:∀ {A:Around} {s:Shared} {i:Nat} {Q:PV→Shared→Prop} {E:PV→Shared→Prop},Itr nm s.heap it l i→Q (.ref it) s→wpAny (model D.prog D.w) A (pyIter (.ref it)) Q E s) :
  ItOk D tg it (fun b=>b = it) (fun k N=>Itr nm N.s.heap it l k∧C N) vs g :=
 ⟨fun k N Y le hk j=>⟨j.1.elim fun o q=>⟨o,hk it rfl o q.1,q.2⟩,hc.1 N Y le j.2⟩,
  fun A k d N Q E E' hh hv j m pv st q=>(hc.2 N m st j.2).elim fun arr w=>(RVs_get w.2 hv).elim fun x r=>hi j.1 w.1 (get_arr r.1) fun h' j2 sb =>
   have a:=Aft.turn1 (t:=N.s.toks) m (pv it rfl) (fun c o n e=>sb.extBut c o n e) (j2.elim fun o q=>⟨o,q.1⟩)
   ⟨x,rfl,j2.elim fun o w=>letgo_skip w.1 w.2.1 w.2.2 hn (q x (N.at { N.s with heap:=h' }) ⟨j2,hc.1 _ _ a.le j.2⟩ a rfl (RV_le a.le d x r.2))⟩,
  fun A N Q E hh j m st q=>(hc.2 N m st j.2).elim fun arr w=>he hh j.1 w.1 (arr_stop w.2) fun h' sb=>⟨rfl,q { N.s with heap:=h' } (fun b o e n=>sb b o n e) rfl rfl⟩,
  fun A k N Q E j q=>hs j.1 q⟩
theorem it_list (hc:Cn D g vs Heap.IsList l C):ItOk D tg it (fun b=>b = it) (fun k N=>Itr "list_iterator" N.s.heap it l k∧C N) vs g :=
 it_seq (by decide) hc (fun a b c q=>wpAny_pyNext_list_item a b c q) (fun a b c d q=>wpAny_pyNext_list_end a b c d q) fun a q=>wpAny_pyIter_listiter a q
theorem it_tuple (hc:Cn D g vs Heap.IsTuple l C):ItOk D tg it (fun b=>b = it) (fun k N=>Itr "tuple_iterator" N.s.heap it l k∧C N) vs g :=
 it_seq (by decide) hc (fun a b c q=>wpAny_pyNext_tuple_item a b c q) (fun a b c d q=>wpAny_pyNext_tuple_end a b c d q) fun a q=>wpAny_pyIter_tupleiter a q
theorem range_at {n k:Nat} {d:V} (h:((List.range n).map fun (k:Nat)=>V.int k)[k]? = some d):k < n∧d = .int k:=by
 have l:=(List.getElem?_eq_some_iff.mp h).1
 rw [List.length_map,List.length_range] at l
 rw [List.getElem?_map,List.getElem?_range l] at h
 exact ⟨l,(Option.some.inj h).symm⟩
theorem it_range {n:Nat}:ItOk D tg it (fun b=>b = it) (fun k N=>IsRangeIter N.s.heap it k (n - k:Int) 1) ((List.range n).map fun (k:Nat)=>V.int k) none :=
 ⟨fun k N Y le hk j=>hk it rfl _ j,
  fun A k d N Q E E' hh hv j m pv st q=>have w:=range_at hv
   wpAny_pyNext_range_item j (Int.sub_pos.mpr (Int.ofNat_lt.mpr w.1)) fun h' j2 sb =>
    have a:=Aft.turn1 (t:=N.s.toks + 1) m (pv it rfl) (fun c o n e=>sb.extBut c o n e) ⟨_,j2⟩
    ⟨_,rfl,letgo_skip j2 rfl rfl (by decide) (q _ (N.at { N.s with heap:=h',toks:=N.s.toks + 1 }) (by
     show IsRangeIter h' it ((k + 1:Nat):Int) ((n:Int) - ((k + 1:Nat):Int)) 1
     rw [Int.natCast_add,← Int.sub_sub]; exact j2) a rfl (by rw [w.2]; exact ⟨_,rfl⟩))⟩,
  fun A N Q E hh j m st q=>wpAny_pyNext_range_end hh j (by rw [List.length_map,List.length_range]; exact Int.le_of_eq (Int.sub_self _)) fun h' sb=>⟨rfl,q { N.s with heap:=h' } (fun b o e n=>sb b o n e) rfl rfl⟩,
  fun A k N Q E j q=>wpAny_pyIter_rangeiter j q⟩
theorem hand_out {F:Addr→Prop} {s:Shared} {T:Addr} {a b:PV} (m:Sm D N) (hF:∀ b,F b→Pv N b) (k:∀ b o,N.s.heap.get? b = some o→¬ F b→s.heap.get? b = some o) (z:∀ a,F a→∃ o,s.heap.get? a = some o) (g:s.gens = N.s.gens) (os:s.os = N.s.os) (hT:IsPair s.heap T a b) (nT:¬ N.has T) :
  Aft D N F ((N.at s).wi T)∧∀ {d1 d2},RV D ((N.at s).wi T) d1 a→RV D ((N.at s).wi T) d2 b→RV D ((N.at s).wi T) (.tup [d1,d2]) (.ref T) :=
 ⟨(Aft.turn m hF k (fun a f=>Option.isSome_iff_exists.mpr (z a f)) g os).wi ⟨Option.isSome_iff_exists.mpr ⟨_,hT⟩,fun w=>nT (m.wd T w),fun p hp=>⟨fun e=>nT (e ▸ (m.lt p hp).1),fun e=>nT (e ▸ (m.lt p hp).2)⟩⟩ nT,
  fun r1 r2=>⟨T,_,rfl,.inr rfl,⟨_,hT⟩,_,_,rfl,r1,_,_,rfl,r2,rfl⟩⟩
theorem enum_at {k:Nat} {d:V} (h:((List.range vs.length).zip vs |>.map fun (q:Nat × V)=>V.tup [.int q.1,q.2])[k]? = some d):∃ x,vs[k]? = some x∧d = .tup [.int k,x]:=by
 rw [List.getElem?_map] at h
 obtain ⟨⟨a,x⟩,e1,e2⟩:=Option.map_eq_some_iff.mp h
 have e3:=List.getElem?_zip_eq_some.mp e1
 have l:=(List.getElem?_eq_some_iff.mp e3.1).1
 rw [List.length_range] at l
 exact ⟨x,e3.2,by rw [← e2,← Option.some.inj ((List.getElem?_range l).symm.trans e3.1)]⟩
theorem it_enum {elts:List PE} {x1:Nat} {tp:Pos} {e:Addr} (hei:e ≠ it) (hc:Cn D none vs Heap.IsList l C) :
  ItOk D (.Tuple elts x1 tp) e (fun b=>b = e ∨ b = it) (fun k N=>(∃ old,IsEnum N.s.heap e it (k:Int) old)∧Itr "list_iterator" N.s.heap it l k∧C N) ((List.range vs.length).zip vs |>.map fun (q:Nat × V)=>V.tup [.int q.1,q.2]) none :=
 ⟨fun k N Y le hk j=>⟨j.1.elim fun old q=>⟨old,hk e (.inl rfl) _ q⟩,j.2.1.elim fun o q=>⟨o,hk it (.inr rfl) o q.1,q.2⟩,hc.1 N Y le j.2.2⟩,
  fun A k d N Q E E' hh hv j m pv st q=>(enum_at hv).elim fun y w=>(hc.2 N m trivial j.2.2).elim fun arr t=>(RVs_get t.2 w.1).elim fun v r=>j.1.elim fun old h1 =>
   wpAny_pyNext_enum_item h1 j.2.1 t.1 (x:=v) (get_arr r.1) hei fun h' h3 h4 h5 h6 k1=>⟨_,rfl,wpAny_letOwnedTupleGo_enum h3 fun h'' h7 sb =>
    have hne:N.s.heap.objs.size ≠ e:=fun z=>no_new (z ▸ has_of h1)
    have i2:Itr "list_iterator" h'' it l (k + 1):=h4.elim fun o q=>⟨o,sb.extBut it o hei.symm q.1,q.2⟩
    have a:=hand_out (s:={ N.s with heap:=h'',toks:=N.s.toks + 1 }) m pv (fun b o eo n=>sb.extBut b o (fun z=>n (.inl z)) (k1 b o (fun z=>n (.inl z)) (fun z=>n (.inr z)) eo)) (fun a f=>f.elim (fun f=>⟨_,f ▸ h7⟩) fun f=>i2.elim fun o q=>⟨o,f ▸ q.1⟩) rfl rfl (sb.extBut _ _ hne h5) no_new
    q _ _ ⟨⟨_,by rw [Int.natCast_add]; exact h7⟩,i2,hc.1 _ _ a.1.le j.2.2⟩ a.1 rfl (by rw [w.2]; exact a.2 ⟨_,rfl⟩ (RV_le a.1.le y v r.2))⟩,
  fun A N Q E hh j m st q=>(hc.2 N m trivial j.2.2).elim fun arr t=>j.1.elim fun old h1=>by
   have z:((List.range vs.length).zip vs |>.map fun (q:Nat × V)=>V.tup [.int q.1,q.2]).length = vs.length:=by rw [List.length_map,List.length_zip,List.length_range,Nat.min_self]
   have j2:=j.2.1
   rw [z] at h1 j2
   exact wpAny_pyNext_enum_end hh h1 j2 t.1 (arr_stop t.2) fun h' sb=>⟨rfl,q { N.s with heap:=h' } (fun b o e n=>sb b o (fun z=>n (.inr z)) e) rfl rfl⟩,
  fun A k N Q E j q=>j.1.elim fun _ h1=>wpAny_pyIter_enum h1 q⟩
end
end Mine.Internal
namespace Mine.Internal
open PySem PySem.W PyProof.Rows PySem.Calls
noncomputable def TSr (B:Bd) (u:Nat) (c:Ck) (tg:PE) (x:Src) (t:PE):Prop :=
 ∀ (G:Ev) (N:Nx) (Q E:PV→Shared→Prop) (K:List V × Option Nat→St→Prop),Go B u c G N→kSrc B.P B.T x G.ρ N.σ K →
  (∀ vs g Y I fp J,K (vs,g) Y.σ→ItOk B.D tg I fp J vs g→J 0 Y→Aft B.D N noA Y→(∀ b,fp b→¬ N.has b∧Pv Y b)→Q (.ref I) Y.s) →
  Wp B G N (eval t G.env) (fun x s₁=>wpAny (model B.D.prog B.D.w) G.A (pyIter x) Q E s₁) E
noncomputable def lone (l:List V) (p:V→Prop):Prop:=match l with
 | [v]=>p v
 | _=>False
theorem lone_of {l:List V} {p:V→Prop} (h:lone l p):∃ v,l = [v]∧p v:=match l,h with
 | [v],h=>⟨v,rfl,h⟩
section
variable {D:Wd} {A:Around} {N:Nx} {g:Option Nat} {it l:Addr} {C:Nx→Prop}
theorem cn_tp {vs:List V} {b:Addr}:Cn D none vs Heap.IsTuple b fun N=>N.W b∧∃ arr,IsTp N.s.heap b arr∧RVs D N vs arr.toList :=
 ⟨fun N Y le h=>h.2.elim fun arr q=>have w:=q.1.le le h.1; ⟨w.1,arr,w.2,RVs_le le _ _ q.2⟩,fun N m st h=>h.2.elim fun arr q=>⟨arr,q.1.tup,q.2⟩⟩
theorem cn_ls {vs:List V} {b:Addr}:Cn D none vs Heap.IsList b fun N=>N.W b∧∃ arr,IsLs N.s.heap b arr∧RVs D N vs arr.toList :=
 ⟨fun N Y le h=>h.2.elim fun arr q=>have w:=q.1.le le h.1; ⟨w.1,arr,w.2,RVs_le le _ _ q.2⟩,fun N m st h=>h.2.elim fun arr q=>⟨arr,q.1.list,q.2⟩⟩
theorem cn_st {vs:List V} {n:Nat} {p:Addr × Addr}:Cn D (some n) vs Heap.IsList p.1 fun N=>N.μ[n]? = some p :=
 ⟨fun N Y le h=>le.m _ _ h,fun N m st h=>(m.obj n _ p st h).2.elim fun arr q=>⟨arr,q.1.list,q.2⟩⟩
end
section
variable {B:Bd} {u:Nat} {c:Ck} {G:Ev} {N Y Z:Nx} {g:Gt}
theorem tsr_val {tg:PE} {y:X} {e:PE} (h:TE B u c y (fun env=>eval e env)):TSr B u c tg (.val y) e:=fun G N Q E K H q z=>h G N _ E _ H q fun d Y v k a r=>by
 have fin:∀ {l:List V} {g:Option Nat} {o:Obj} {J:Nat→Nx→Prop},o.isFreed = false→K (l,g) Y.σ→ItOk B.D tg Y.s.heap.objs.size (fun b=>b = Y.s.heap.objs.size) J l g→(Aft B.D Y noA (Y.psh o)→J 0 (Y.psh o))→Q (.ref Y.s.heap.objs.size) (Y.psh o).s:=fun {l g o J} hf k io j =>
  have w:=push_ok a.sm hf
  z l g (Y.psh o) _ _ J k io (j w.1) (a.trans w.1) fun b e=>⟨fun h=>no_new (a.ex _ (e ▸ h)),e ▸ w.2⟩
 cases d with
 | tup l =>
  obtain ⟨b,arr,rfl,w,t,rs⟩:=r
  exact wpAny_pyIter_tuple t.tup (fin rfl k (it_tuple cn_tp) fun a=>⟨⟨_,push_at rfl,rfl,rfl⟩,cn_tp.1 _ _ a.le ⟨w,arr,t,rs⟩⟩)
 | list l =>
  obtain ⟨b,arr,rfl,w,t,rs⟩:=r
  exact wpAny_pyIter_list t.list (fin rfl k (it_list cn_ls) fun a=>⟨⟨_,push_at rfl,rfl,rfl⟩,cn_ls.1 _ _ a.le ⟨w,arr,t,rs⟩⟩)
 | loc n =>
  obtain ⟨p,rfl,hp⟩:=r
  obtain ⟨o,k,w,e⟩:=st_of (f:=fun o=>oK (locL o) fun l=>K (l,some n) Y.σ) a.sm hp k id
  cases o with
  | list l=>exact (cn_st.2 Y a.sm e hp).elim fun arr t=>wpAny_pyIter_list t.1 (fin rfl k (it_list (cn_st (p:=p))) fun a=>⟨⟨_,push_at rfl,rfl,rfl⟩,hp⟩)
  | _=>exact False.elim k
 | _=>exact False.elim k
theorem range_size {n:Int}:Builtin.Range.rangeSize 0 n 1 = (n.toNat:Int):=by
 delta Builtin.Range.rangeSize
 rw [if_pos (by decide)]
 split
 ·rename_i h
  have:(n - 0 - 1) / 1 = n - 1:=by rw [Int.ediv_one]; (first | lia | omega)
  rw [this]; (first | lia | omega)
 ·(first | lia | omega)
theorem range_small {n:Int} (h1:-1000000≤n) (h2:n≤1000000):Builtin.Range.small 0 n 1 = true:=by
 have p:(2:Int) ^ 63 = 9223372036854775808:=by decide
 have h4:((n.toNat:Int))≤1000000:=by (first | lia | omega)
 have h3:(0:Int)≤(n.toNat:Int):=by (first | lia | omega)
 delta Builtin.Range.small
 rw [range_size]
 delta Builtin.Range.rangeFitsLong
 rw [p,if_pos (by decide)]
 simp only [Bool.and_eq_true,Bool.or_eq_true,decide_eq_true_eq]
 refine ⟨⟨⟨⟨⟨?_,?_⟩,?_,?_⟩,?_,?_⟩,?_,?_⟩,.inr ⟨?_,?_⟩⟩ <;> (first | lia | omega)
theorem tsr_range {tg:PE} {y:X} {e:PE} {x:Str} {np pos:Pos} (F:Facts B g) (BB:BiOk B.D c x (.type "range")) (hs:isStarred e = false) (h:TEs B u c [y] (fun env=>spliced (backTo pos (starEach [e] env)))) :
  TSr B u c tg (.range y) (.Call (.Name x np) [e] [] pos):=fun G N Q E K H q z =>
 call_name (K:=fun l σ=>lone l fun v=>oK (rangeE v) fun l=>K (l,none) σ) F BB rfl (by rw [List.all_cons,hs]; rfl) h H q fun ds Y vs k a r=>by
  obtain ⟨d,rfl,k⟩:=lone_of k
  obtain ⟨v,rfl,rv⟩:=Vals.one r
  obtain ⟨n,t,rfl,rfl,k⟩:=asInt_of (oK_bind k) rv
  have w:=if_of k
  refine call_range_1 (wpAny_pyIter_range (push_at rfl) (range_small w.1.1 w.1.2) ?_)
  have m:=((More.refl Y).push { cls:=.type "range",data:=.fields #[.int 0 Y.s.toks,.int n t,.int 1 (Y.s.toks + 1)] }).toks (Y.s.toks + 1 + 1)
  rw [range_size]
  exact z _ none (Y.at _) _ _ _ w.2 it_range (by rw [Int.natCast_zero,Int.sub_zero]; exact push_at rfl) (a.trans ((m.push _).aft a.sm)) fun b e=>⟨fun h=>m.no (a.ex _ (e ▸ h)),e ▸ (m.push _).pv a.sm m.no (push_at rfl)⟩
theorem tsr_enum {elts:List PE} {x1:Nat} {tp:Pos} {y:X} {e:PE} {x:Str} {np pos:Pos} (F:Facts B g) (BB:BiOk B.D c x (.type "enumerate")) (hs:isStarred e = false) (h:TEs B u c [y] (fun env=>spliced (backTo pos (starEach [e] env)))) :
  TSr B u c (.Tuple elts x1 tp) (.enum y) (.Call (.Name x np) [e] [] pos):=fun G N Q E K H q z =>
 call_name (K:=fun l σ=>lone l fun v=>oK (asListL v) fun l=>K (((List.range l.length).zip l |>.map fun (q:Nat × V)=>V.tup [.int q.1,q.2]),none) σ) F BB rfl (by rw [List.all_cons,hs]; rfl) h H q fun ds Y vs k a r=>by
  obtain ⟨d,rfl,k⟩:=lone_of k
  obtain ⟨v,rfl,rv⟩:=Vals.one r
  cases d with
  | list l =>
   obtain ⟨b,arr,rfl,wa,t,rs⟩:=rv
   refine call_enumerate_list t.list fun h' h1 h2 h3 kp=>wpAny_pyIter_enum h1 ?_
   have m:More Y { Y.s with heap:=h' }:=⟨kp,rfl,rfl⟩
   have n1:∀ {k:Nat},Y.s.heap.objs.size≤k→¬ Y.has k:=fun hk h=>absurd (has_lt h) (Nat.not_lt.mpr hk)
   have af:=m.aft a.sm
   exact z _ none (Y.at _) _ _ _ k (it_enum (Nat.succ_ne_self _) cn_ls) ⟨⟨_,h1⟩,h2,cn_ls.1 _ _ af.le ⟨wa,arr,t,rs⟩⟩ (a.trans af) fun b e=>e.elim (fun e=>by
    rw [e]; exact ⟨fun h=>n1 (Nat.le_succ _) (a.ex _ h),m.pv a.sm (n1 (Nat.le_succ _)) h1⟩) fun e=>by
    rw [e]; exact ⟨fun h=>n1 (Nat.le_refl _) (a.ex _ h),h2.elim fun o q=>m.pv a.sm (n1 (Nat.le_refl _)) q.1⟩
  | _=>exact False.elim k
end
end Mine.Internal
namespace Mine.Internal
open PySem PySem.W PyProof.Rows PySem.Calls
section
variable {B:Bd} {u:Nat} {c:Ck} {G:Ev} {N Y Z:Nx} {g:Option Nat} {P:Addr→Prop}
noncomputable def Own (env:PEnv) (a:Addr):Prop:=a = env.locals ∨ ∃ q∈env.cells,q.2 = a
theorem own_has (h:Eo c G.env N) {a:Addr} (o:Own G.env a):N.has a∧¬ chg N.μ a:=o.elim (fun e=>e ▸ h.loc) fun ⟨q,m,e⟩=>e ▸ h.cells q m
theorem Fr.own {b:Addr} (f:Fr c G.env b):Own G.env b:=f.imp id fun ⟨x,_,e⟩=>⟨(x,b),mem_of_lookup e,rfl⟩
theorem Gs.by (H:Gs B u c G Z) (sm:Sm B.D Y) (le:Le Z Y) (hk:∀ a,Own G.env a→∀ o,Z.s.heap.get? a = some o→Y.s.heap.get? a = some o) (hc:∀ a,Z.has a→¬ chg Z.μ a→¬ chg Y.μ a) (hp:∀ b,Fr c G.env b→Pv Y b):Gs B u c G Y :=
 have eo:=H.go.eo
 have ho:∀ a,Own G.env a→Y.has a∧¬ chg Y.μ a:=fun a o=>have w:=own_has eo o
  ⟨(Option.isSome_iff_exists.mp w.1).elim fun b e=>has_of (hk a o b e),hc a w.1 w.2⟩
 ⟨⟨H.go.rm,⟨eo.sc,eo.kind,eo.gl,eo.bi,ho _ (.inl rfl),fun q hq=>ho _ (.inr ⟨q,hq,rfl⟩),eo.fr,eo.cx⟩,fun x i d h1 h2 h3=>(H.go.fe x i d h1 h2 h3).elim fun w q=>⟨w,q.1.keep (fun o e=>hk _ (.inl rfl) o e) fun b o e1 e2=>hk b (.inr ⟨(x,b),mem_of_lookup e1,rfl⟩) o e2,RV_le le d w q.2⟩,sm⟩,
  hp,H.ns.elim fun m n=>⟨m,n.at fun o e=>hk _ (.inl rfl) o e⟩,fun x w h=>(H.cl x w h).elim fun b q=>q.elim fun v q=>⟨b,v,q.1,q.2.elim fun o r=>⟨o,hk _ (.inr ⟨(x,b),mem_of_lookup q.1,rfl⟩) o r.1,r.2⟩⟩,H.ap⟩
theorem Gs.item (H:Gs B u c G Z) (a:Aft B.D Z P Y) (n:∀ b,Own G.env b→¬ P b):Gs B u c G Y :=
 H.by a.sm a.le (fun b o x e=>a.kp b x e (own_has H.go.eo o).2 (n b o)) (fun b=>a.chg) fun b f=>(H.pv b f).go a
theorem Gs.spoil {s:Shared} (H:Gs B u c G Z) (p:∀ b,P b→Pv Z b) (k:∀ b o,Z.s.heap.get? b = some o→¬ P b→s.heap.get? b = some o) (n:∀ b,Own G.env b→¬ P b):Gs B u c G (Z.at s) :=
 have w:=H.go.sm.turn (F:=P) p k
 H.by w.2 w.1 (fun b o x e=>k b x e (n b o)) (fun b _ h=>h) fun b f=>⟨has_kept k (H.pv b f).lt (n b f.own),(H.pv b f).nw,(H.pv b f).nm⟩
theorem drop_end {α:Type} {l:List α} {k:Nat} (h:k≤l.length) (e:l.drop k = []):k = l.length:=Nat.le_antisymm h (List.drop_eq_nil_iff.mp e)
theorem drop_get {α:Type} {l r:List α} {d:Nat} {a:α} (h:l.drop d = a :: r):l[d]? = some a∧l.drop (d + 1) = r :=
 ⟨by rw [← Nat.add_zero d,← List.getElem?_drop,h]; rfl,by rw [← List.drop_drop,h]; rfl⟩
theorem ts_for {tg:Tg} {src:Src} {body:List S} {target iter:PE} {bodyE:List Stmt} {pos:Pos} (hs:TSr B u c target src iter) (hf:∀ env x,foldedSetIterable iter env x = pure x) (hB:TgOk c tg target) (hb:TSs B u c body (fun env=>execs bodyE env)) :
  TS B u c (.for_ tg src body) (fun env=>exec (.For target iter bodyE [] pos) env):=fun G N Q E K H q z =>
 wpAny_For (hs:=hf G.env) (hs G N _ E _ H.go q fun vs g Y I fp J k0 io j0 a0 nf =>
  have np:∀ b,Own G.env b→¬ fp b:=fun b o f=>(nf b f).1 (own_has H.go.eo o).1
  codeAny_forLoop_any (fun j s2=>∃ k ρ Z,s2 = Z.s∧j = vs.length - k∧k≤vs.length∧kLoopS (stillB g vs) (fun v ρ=>bindTg ρ tg v) (fun ρ σ k=>kSs B.P B.T body ρ σ k) (vs.drop k) ρ Z.σ K∧J k Z∧Aft B.D N (Fr c G.env) Z∧Gs B u c (G.to ρ) Z∧∀ b,fp b→Pv Z b) (fun j s2 h=>by
   obtain ⟨k,ρ,Z,rfl,rfl,hk,q,jz,a,HZ,pv⟩:=h
   cases hd:vs.drop k with
   | nil =>
    rw [hd] at q
    have q:=stB_of q
    rw [drop_end hk hd] at jz
    exact wpAny_mono (io.stop G.A Z (fun s₁=>Q .next s₁) _ H.go.rm.hand jz HZ.go.sm q.1 fun s₁ kp g os=>z.1 ρ (Z.at s₁) q.2 (a.lose (fun b f=>(nf b f).1) pv kp g os) (HZ.spoil pv kp np)) (fun r s₁ h=>h.1 ▸ wpAny_execs_nil h.2) fun _ _ h=>h
   | cons d rest =>
    rw [hd] at q
    have q:=stB_of q
    have w:=drop_get hd
    have hlt:=(List.getElem?_eq_some_iff.mp w.1).1
    refine wpAny_mono (io.item G.A k d Z (fun v s₂=>wpAny (model B.D.prog B.D.w) G.A (assign target G.env v) _ _ s₂) _ _ H.go.rm.hand w.1 jz HZ.go.sm pv q.1 fun v Y1 j1 a1 e1 rv=>?_) (fun r s₁ h=>h.elim fun v h=>h.1 ▸ h.2) fun _ _ h=>h
    refine bind_for (G:=G.to ρ) hB (HZ.item a1 np) q.2 rv fun ρ' Y2 k2 e2 a2 H2=>?_
    rw [← e1,← e2] at k2
    refine hb (G.to ρ') Y2 _ _ _ H2 k2 ⟨fun ρ3 Y3 k3 a3 H3=>?_,fun d Y3 v k3 a3 rv=>z.2 d Y3 v k3 (((a.then a1 fun b f=>(nf b f).1).trans a2).trans a3) rv⟩
    have a23:=a2.trans a3
    have pv1:∀ b,fp b→Pv Y1 b:=fun b f=>(pv b f).go a1
    exact ⟨vs.length - (k + 1),Nat.sub_lt_sub_left hlt (Nat.lt_succ_self k),k + 1,ρ3,Y3,rfl,rfl,hlt,by rw [w.2]; exact k3,io.jm (k + 1) Y1 Y3 a23.le (fun b f o e=>a23.kp b o e (pv1 b f).nc fun r=>np b r.own f) j1,(a.then a1 fun b f=>(nf b f).1).trans a23,H3,fun b f=>(pv1 b f).go a23⟩) _
   ⟨0,G.ρ,Y,rfl,rfl,Nat.zero_le _,by rw [List.drop_zero]; exact k0,j0,a0.up,H.to a0,fun b f=>(nf b f).2⟩)
end
end Mine.Internal
namespace Mine.Internal
open PySem PySem.W PyProof.Rows PySem.Calls
noncomputable abbrev PComp:=PySem.Comprehension
noncomputable def relS (sc o:Scope):Scope:={ sc with names:=sc.names.map fun (n,k)=>if (k == .free && o.kind == .function && o.names.lookup n == some .cell) then (n,.cell) else (n,k) }
noncomputable def relK (o:Scope) (x:Str) (k:NameKind):NameKind:=if (k == .free && o.kind == .function && o.names.lookup x == some .cell) = true then .cell else k
theorem relS_find {o sc:Scope} {x:Str}:(relS sc o).names.lookup x = (sc.names.lookup x).map (relK o x):=by
 show List.lookup x (sc.names.map _) = _
 induction sc.names with
 | nil=>rfl
 | cons p l ih =>
  obtain ⟨n,j⟩:=p
  show List.lookup x ((if (j == NameKind.free && o.kind == .function && o.names.lookup n == some .cell) = true then (n,NameKind.cell) else (n,j)) :: _) = _
  rw [show (if (j == NameKind.free && o.kind == .function && o.names.lookup n == some .cell) = true then (n,NameKind.cell) else (n,j)) = (n,relK o n j) by delta relK; split <;> rfl,List.lookup_cons,List.lookup_cons]
  cases h:x == n with
  | true=>rw [eq_of_beq h]; rfl
  | false=>exact ih
theorem relK_free {o:Scope} {x:Str} {k:NameKind} (h:k = .free):relK o x k = .cell ∨ relK o x k = .free:=by
 delta relK; split
 ·exact .inl rfl
 ·exact .inr h
theorem relK_of {o:Scope} {x:Str} {k:NameKind} (h:relK o x k = .cell ∨ relK o x k = .free):k = .cell ∨ k = .free:=by
 delta relK at h; split at h
 ·rename_i e; exact .inr (eq_of_beq (and_l (and_l e)))
 ·exact h
noncomputable def closOf (cells:List (Str × Addr)):List (Str × NameKind)→List (Str × Addr)→List (Str × Addr)
 | [],cs=>cs
 | (x,k) :: r,cs=>closOf cells r (if (k == .free) = true then (x,(cells.lookup x).getD 0) :: cs else cs)
theorem clos_go {env:PEnv}:∀ (l:List (Str × NameKind)) (cs:List (Str × Addr)),(∀ p∈l,p.2 = .free→(env.cells.lookup p.1).isSome = true) →
  (forIn l cs fun (x:Str × NameKind) (r:List (Str × Addr))=>if (x.2 == .free) = true then (do let c ← cellOf env x.1; pure (ForInStep.yield ((x.1,c) :: r)):Sem (ForInStep (List (Str × Addr)))) else pure (ForInStep.yield r)) = pure (closOf env.cells l cs)
 | [],cs,_=>rfl
 | (x,k) :: l,cs,hl=>by
  rw [List.forIn_cons]
  unfold closOf
  by_cases hk:(k == .free) = true
  ·obtain ⟨c,hc⟩:=Option.isSome_iff_exists.mp (hl (x,k) (List.mem_cons_self ..) (eq_of_beq hk))
   rw [if_pos hk,show cellOf env x = pure c by delta cellOf; rw [hc],if_pos hk,hc,pure_bind,pure_bind]
   exact clos_go l _ fun q hq=>hl q (List.mem_cons_of_mem _ hq)
  ·rw [if_neg hk,if_neg hk,pure_bind]
   exact clos_go l _ fun q hq=>hl q (List.mem_cons_of_mem _ hq)
theorem clos_eq {sc:Scope} {env:PEnv} (h:∀ p∈sc.names,p.2 = .free→(env.cells.lookup p.1).isSome = true):closureFor sc env = pure (closOf env.cells sc.names []):=by
 delta closureFor
 exact (congrArg (· >>= pure) (clos_go sc.names [] h)).trans (pure_bind _ _)
theorem clos_keep {cells:List (Str × Addr)} {x:Str}:∀ (l:List (Str × NameKind)) (cs:List (Str × Addr)),cs.lookup x = some ((cells.lookup x).getD 0)→(closOf cells l cs).lookup x = some ((cells.lookup x).getD 0)
 | [],cs,h=>h
 | (y,k) :: l,cs,h=>clos_keep l _ (by
  split
  ·rw [List.lookup_cons]
   cases e:x == y with
   | true=>rw [eq_of_beq e]
   | false=>exact h
  ·exact h)
theorem clos_lookup {cells:List (Str × Addr)} {x:Str}:∀ (l:List (Str × NameKind)) (cs:List (Str × Addr)),(x,.free)∈l→(closOf cells l cs).lookup x = some ((cells.lookup x).getD 0)
 | (y,k) :: l,cs,h=>(List.mem_cons.mp h).elim (fun h=>by cases h; exact clos_keep l _ (by rw [if_pos (by rfl),List.lookup_cons,BEq.rfl])) fun h=>clos_lookup l _ h
theorem clos_mem {cells:List (Str × Addr)} {q:Str × Addr}:∀ (l:List (Str × NameKind)) (cs:List (Str × Addr)),q∈closOf cells l cs→q∈cs ∨ ((q.1,.free)∈l∧q.2 = (cells.lookup q.1).getD 0)
 | [],cs,h=>.inl h
 | (y,k) :: l,cs,h=>(clos_mem l _ h).elim (fun h=>by
  split at h
  ·rename_i hk
   exact (List.mem_cons.mp h).elim (fun e=>.inr (by rw [e,← eq_of_beq hk]; exact ⟨List.mem_cons_self ..,rfl⟩)) .inl
  ·exact .inl h) fun h=>.inr ⟨List.mem_cons_of_mem _ h.1,h.2⟩
structure CpOk (c:Ck) (sc:Scope) (nm:List (Str × Nat)) (slots:List Nat):Prop where
 kind:sc.kind = .function
 okl:∀ x∈sc.names,x.2 = .local→sc.names.lookup x.1 = some .local
 okc:∀ x∈sc.names,x.2 = .cell→sc.names.lookup x.1 = some .cell
 fre:∀ x∈sc.names,x.2 = .free→c.sc.names.lookup x.1 = some .cell ∨ c.sc.names.lookup x.1 = some .free
 nm:∀ x i,nm.lookup x = some i→i∈slots ∨ (c.names.lookup x = some i∧sc.names.lookup x = some .free)
noncomputable def ifsT (ifs:List PE) (env:PEnv):Sem Bool:=forIn ifs true fun c r=>if r = true then do let ok ← isTrue c env (eval c env); pure (ForInStep.yield ok) else pure (ForInStep.yield r)
noncomputable def bodyOf (elt:PE) (gens:List PComp) (d:Nat) (sc:Scope) (pos:Pos) (it acc:PV) (env:PEnv):Sem Fin:=match gens[d + 1]? with
 | none=>(eval elt env >>= fun x=>call (.builtin "list.append") [acc,x] >>= fun _=>pure ()) >>= fun _=>again (.compLoop (.ListComp elt gens sc pos) d it acc env)
 | some g=>eval g.iter env >>= fun x=>standAt g.iter.pos >>= fun _=>if (g.is_async != 0) = true then (foldedIterable g.iter x >>= fun x=>holding [x] (if (g.is_async != 0) = true then asyncIter x else pyIter x) >>= fun i=>runOwn (.compStart (.ListComp elt gens sc pos) (d + 1) i acc env) env >>= fun _=>again (.compLoop (.ListComp elt gens sc pos) d it acc env))
  else (foldedSetIterable g.iter env x >>= fun x=>holding [x] (if (g.is_async != 0) = true then asyncIter x else pyIter x) >>= fun i=>runOwn (.compStart (.ListComp elt gens sc pos) (d + 1) i acc env) env >>= fun _=>again (.compLoop (.ListComp elt gens sc pos) d it acc env))
theorem turn_eq {elt:PE} {gens:List PComp} {sc:Scope} {pos:Pos} {d:Nat} {target iter:PE} {ifs:List PE} (hg:gens[d]? = some ⟨target,iter,ifs,0⟩) (it acc:PV) (env:PEnv) :
  compTurn (.ListComp elt gens sc pos) d it acc env = (standAt iter.pos >>= fun _=>pyNext it >>= fun r=>match r with
   | none=>pure (.done .next)
   | some v=>letOwnedTupleGo target it v >>= fun _=>assign target env v >>= fun _=>ifsT ifs env >>= fun ok =>
     (if ok = true then bodyOf elt gens d sc pos it acc env else again (.compLoop (.ListComp elt gens sc pos) d it acc env))):=by
 delta compTurn bodyOf
 dsimp only
 rw [hg]
 cases gens[d + 1]? <;> rfl
section
variable {prog:Program} {w:World} {A:Around} {E:PV→Shared→Prop} {R:Result→Shared→Prop} {s:Shared} {elt:PE} {gens:List PComp} {sc:Scope} {pos:Pos} {d:Nat} {it acc:PV} {env:PEnv}
theorem loop_any {target iter:PE} {ifs:List PE} (hg:gens[d]? = some ⟨target,iter,ifs,0⟩) (I:Nat→Shared→Prop)
  (turn:∀ n s (E:PV→Shared→Prop),I n s→wpAny (model prog w) A (pyNext it) (fun r s₁=>match r with
   | none=>R (.ok .next) s₁
   | some v=>wpAny (model prog w) A (letOwnedTupleGo target it v) (fun _ s₁=>wpAny (model prog w) A (assign target env v) (fun _ s₂=>wpAny (model prog w) A (ifsT ifs env) (fun ok s₃ =>
      if ok = true then wpAny (model prog w) A (bodyOf elt gens d sc pos it acc env) (fun f s₄=>f = .again (.compLoop (.ListComp elt gens sc pos) d it acc env)∧∃ m,m < n∧I m s₄) E s₃ else ∃ m,m < n∧I m s₃) E s₂) E s₁) E s₁) E s)
  (n:Nat) (h:I n s):codeAny (model prog w) A (.compLoop (.ListComp elt gens sc pos) d it acc env) R s:=by
 refine codeAny_loop rfl I (fun n s hI=>?_) n h
 show wpAny _ A ((compTurn (.ListComp elt gens sc pos) d it acc env).onRaise (fun x=>do noteFrame x env; theTreesLotGoes x)) _ _ s
 refine wpAny_noted ?_
 rw [turn_eq hg]
 refine wpAny_bind (wpAny_standAt (wpAny_bind (wpAny_mono (turn n s _ hI) (fun r s₁ h₁=>?_) fun _ _ h'=>h')))
 cases r with
 | none=>exact wpAny_pure h₁
 | some v =>
  refine wpAny_bind (wpAny_mono h₁ (fun _ s₁ h₁=>wpAny_bind (wpAny_mono h₁ (fun _ s₂ h₂=>wpAny_bind (wpAny_mono h₂ (fun ok s₃ h₃=>?_) fun _ _ h'=>h')) fun _ _ h'=>h')) fun _ _ h'=>h')
  cases ok with
  | false=>exact wpAny_pure ⟨rfl,h₃⟩
  | true=>exact wpAny_mono h₃ (fun f s₄ h₄=>by cases h₄.1; exact ⟨rfl,h₄.2⟩) fun _ _ h'=>h'
theorem start_at {g:PComp} (hg:gens[d]? = some g) (ha:g.is_async = 0) (h0:codeAny (model prog w) A (.compLoop (.ListComp elt gens sc pos) d it acc env) R s)
  (h:∀ E,wpAny (model prog w) A (pyIter it) (fun it' s'=>codeAny (model prog w) A (.compLoop (.ListComp elt gens sc pos) d it' acc env) R s') E s) :
  codeAny (model prog w) A (.compStart (.ListComp elt gens sc pos) d it acc env) R s:=by
 refine codeAny_of_tree ?_
 show wpAny _ _ ((compStart (.ListComp elt gens sc pos) d it acc env).onRaise (fun x=>do noteFrame x env; standAt theWindowsPlace)) _ _ s
 refine wpAny_notedAt ?_
 have hc:(clausesOf (.ListComp elt gens sc pos))[d]? = some g:=hg
 delta compStart
 simp only [hc,Option.elim,ha,bne_self_eq_false,Bool.false_eq_true,if_false]
 refine wpAny_bind (wpAny_askSetting (wpAny_ite ?_))
 split
 ·first
   | exact wpAny_bind (wpAny_pure (wpAny_pure (And.intro rfl h0)))
   | exact wpAny_pure (And.intro rfl h0)
   | exact wpAny_bind (wpAny_bind (wpAny_pure (wpAny_pure (And.intro rfl h0))))
 ·first
   | exact wpAny_bind (wpAny_rule (wpAny_bind (wpAny_standAt (wpAny_bind (wpAny_mono (h _) (fun it' s' h'=>wpAny_pure (And.intro rfl h')) fun _ _ x=>x)))))
   | (refine wpAny_bind (wpAny_rule ?_); exact wpAny_bind (wpAny_standAt (wpAny_bind (wpAny_mono (h _) (fun it' s' h'=>wpAny_pure (And.intro rfl h')) fun _ _ x=>x))))
end
end Mine.Internal
namespace Mine.Internal
open PySem PySem.W PyProof.Rows PySem.Calls
structure Cs (B:Bd) (u:Nat) (c:Ck) (G:Ev) (b:Addr) (N:Nx) (ds:List V):Prop where
 gs:Gs B u c G N
 pv:Pv N b
 nb:¬ Own G.env b
 rc:RC B.D N b (.list ds)
noncomputable def Ac (c:Ck) (G:Ev) (b:Addr) (a:Addr):Prop:=Fr c G.env a ∨ a = b
noncomputable def Clr (l:List Nat) (ρ:REnv):Prop:=∀ i∈l,∀ d:V,ρ[i]? ≠ some (some d)
noncomputable def BdOk (B:Bd) (u:Nat) (c:Ck) (r:C) (elt:PE) (rest:List PComp):Prop :=
 ∀ (gens:List PComp) (d:Nat) (sc:Scope) (pos:Pos) (it:PV) (b:Addr) (G:Ev) (N:Nx) (ds:List V) (Q:Fin→Shared→Prop) (E:PV→Shared→Prop) (K:List V→St→Prop),
  gens.drop (d + 1) = rest→Cs B u c G b N ds→Clr r.slots G.ρ→kC B.P B.T r ds G.ρ N.σ K →
  (∀ l Y,K l Y.σ→Aft B.D N (Ac c G b) Y→Cs B u c G b Y l→Q (.again (.compLoop (.ListComp elt gens sc pos) d it (.ref b) G.env)) Y.s)→Wp B G N (bodyOf elt gens d sc pos it (.ref b) G.env) Q E
noncomputable def LoopSt (B:Bd) (u:Nat) (c:Ck) (tg:Tg) (ifs:List X) (r:C) (target elt:PE) (ifsE:List PE) (rest:List PComp):Prop :=
 ∀ (gens:List PComp) (d:Nat) (iter:PE) (sc:Scope) (pos:Pos) (G:Ev) (N0 N:Nx) (b:Addr) (ds:List V) (I:Addr) (fp:Addr→Prop) (J:Nat→Nx→Prop) (vs:List V) (g:Option Nat) (K:List V→St→Prop) (R:Result→Shared→Prop),
  gens[d]? = some ⟨target,iter,ifsE,0⟩→gens.drop (d + 1) = rest→kLoopC0 (stillB g vs) (bindTg G.ρ tg) (fun ρ σ k=>kIfs B.P B.T ifs ρ σ k) (fun ds ρ σ k=>kC B.P B.T r ds ρ σ k) vs ds N.σ K →
  ItOk B.D target I fp J vs g→J 0 N→Aft B.D N0 (Ac c G b) N→(∀ a,fp a→¬ N0.has a∧Pv N a∧¬ Own G.env a∧a ≠ b)→Cs B u c G b N ds→Clr (tg.slots++r.slots) G.ρ →
  (∀ l Z,K l Z.σ→Aft B.D N0 (Ac c G b) Z→Cs B u c G b Z l→R (.ok .next) Z.s)→codeAny (model B.D.prog B.D.w) G.A (.compLoop (.ListComp elt gens sc pos) d (.ref I) (.ref b) G.env) R N.s
section
variable {B:Bd} {u:Nat} {c:Ck} {G:Ev} {N Y Z:Nx} {g:Option Nat} {P:Addr→Prop} {b:Addr} {ds:List V} {ρ:REnv}
theorem Cs.on (x:Cs B u c G b Z ds) (H:Gs B u c (G.to ρ) Y) (a:Aft B.D Z P Y) (n:¬ P b):Cs B u c (G.to ρ) b Y ds:=⟨H,x.pv.go a,x.nb,RC_le a.le (fun o e=>a.kp b o e x.pv.nc n) x.rc⟩
theorem Cs.to (x:Cs B u c G b Z ds) (a:Aft B.D Z noA Y):Cs B u c G b Y ds:=x.on (ρ:=G.ρ) (x.gs.to a) a id
theorem Gs.less (H:Gs B u c (G.to ρ) Y) (h:∀ (j:Nat) (d:V),G.ρ[j]? = some (some d)→ρ[j]? = some (some d)):Gs B u c G Y:=⟨⟨H.go.rm,H.go.eo,fun x i d h1 h2 h3=>H.go.fe x i d h1 h2 (h i d h3),H.go.sm⟩,H.pv,H.ns,H.cl,H.ap⟩
theorem Ac.nb {a:Addr} (h:Ac c G b a) (n:¬ Own G.env a∧a ≠ b):False:=h.elim (fun f=>n.1 f.own) n.2
theorem ifs_no {ts:List PE} {env:PEnv} {A:Around} {s:Shared} {Q:Bool→Shared→Prop} {E:PV→Shared→Prop} (h:Q false s):wpAny (model B.D.prog B.D.w) A (forIn ts false fun c r=>if r = true then do let ok ← isTrue c env (eval c env); pure (ForInStep.yield ok) else pure (ForInStep.yield r)) Q E s:=by
 induction ts with
 | nil=>exact wpAny_pure h
 | cons e es ih =>
  rw [List.forIn_cons]
  exact wpAny_bind (wpAny_pure ih)
theorem ifs_ok {xs:List X} {ts:List PE} (h:All2 (fun x t=>TB B u c x (fun env=>isTrue t env (eval t env))) xs ts):∀ (G:Ev) (N:Nx) (Q:Bool→Shared→Prop) (E:PV→Shared→Prop) (K:Bool→St→Prop),Go B u c G N→kIfs B.P B.T xs G.ρ N.σ K →
  (∀ b Y,K b Y.σ→Aft B.D N noA Y→Q b Y.s)→Wp B G N (ifsT ts G.env) Q E:=by
 induction h with
 | nil=>exact fun G N Q E K H q z=>wpAny_pure (z true N q H.refl)
 | cons h1 _ ih =>
   intro G N Q E K H q z
   delta Wp ifsT
   rw [List.forIn_cons]
   exact wpAny_bind (wpAny_bind (h1 G N _ E _ H q fun b Y k a=>wpAny_pure (match b,k with
    | true,k=>ih G Y Q E K (H.to a) k fun b2 Z k2 a2=>z b2 Z k2 (a.trans a2)
    | false,k=>ifs_no (z false Y k a))))
theorem setMany_get:∀ {is:List Nat} {vs:List V} {ρ:REnv} {j:Nat},j ∉ is→(setMany is vs ρ)[j]? = ρ[j]?
 | [],_,_,_,_=>rfl
 | _ :: _,[],_,_,_=>rfl
 | i :: is,v :: vs,ρ,j,h=>(setMany_get (is:=is) fun m=>h (List.mem_cons_of_mem _ m)).trans (List.getElem?_set_ne fun e=>h (by rw [e]; exact List.mem_cons_self ..))
theorem bindTg_get {tg:Tg} {v:V} {ρ':REnv} {j:Nat} (h:bindTg ρ tg v = some ρ') (n:j ∉ tg.slots):ρ'[j]? = ρ[j]?:=by
 cases tg with
 | one i=>cases h; exact List.getElem?_set_ne fun e=>n (by rw [e]; exact List.mem_cons_self ..)
 | many is=>cases v with
  | tup l =>
   have h:(if is.length = l.length then some (setMany is l ρ) else none) = some ρ':=h
   by_cases e:is.length = l.length
   ·rw [if_pos e] at h; cases h; exact setMany_get n
   ·rw [if_neg e] at h; cases h
  | _=>cases h
theorem oK_eq {α:Type} {o:Option α} {K:α→Prop} (h:oK o K):oK o fun a=>o = some a∧K a:=by cases o <;> first | exact h | exact ⟨rfl,h⟩
theorem kLoopC_unf {st:St→Bool} {bnd:V→Option REnv} {ifs:REnv→St→(Bool→St→Prop)→Prop} {body:List V→REnv→St→(List V→St→Prop)→Prop} {l ds:List V} {σ:St} {k:List V→St→Prop} (h:kLoopC st bnd ifs body l ds σ k):kLoopC0 st bnd ifs body l ds σ k:=by
 delta kLoopC at h; exact h
theorem loop_ok {tg:Tg} {ifs:List X} {r:C} {target elt:PE} {ifsE:List PE} {rest:List PComp} (hB:TgOk c tg target) (hI:All2 (fun x t=>TB B u c x (fun env=>isTrue t env (eval t env))) ifs ifsE) (hd:∀ i∈r.slots,i ∉ tg.slots) (hr:BdOk B u c r elt rest) :
  LoopSt B u c tg ifs r target elt ifsE rest:=fun gens d iter sc pos G N0 N b ds I fp J vs g K R hg hdr q io j0 a0 nf x0 cl z =>
 have np:∀ a,Own G.env a→¬ fp a:=fun a o f=>(nf a f).2.2.1 o
 loop_any hg (fun j s2=>∃ k Z ds,s2 = Z.s∧j = vs.length - k∧k≤vs.length∧kLoopC0 (stillB g vs) (bindTg G.ρ tg) (fun ρ σ k=>kIfs B.P B.T ifs ρ σ k) (fun ds ρ σ k=>kC B.P B.T r ds ρ σ k) (vs.drop k) ds Z.σ K∧J k Z∧Aft B.D N0 (Ac c G b) Z∧Cs B u c G b Z ds∧∀ a,fp a→Pv Z a) (fun j s2 E h=>by
  obtain ⟨k,Z,ds,rfl,rfl,hk,q,jz,a,x,pv⟩:=h
  cases e0:vs.drop k with
  | nil =>
   rw [e0] at q
   have q:=stB_of q
   rw [drop_end hk e0] at jz
   exact wpAny_mono (io.stop G.A Z (fun s₁=>R (.ok .next) s₁) _ x.gs.go.rm.hand jz x.gs.go.sm q.1 fun s₁ kp g os=>have w:=x.gs.go.sm.turn (F:=fp) pv kp
    z ds (Z.at s₁) q.2 (a.lose (fun b f=>(nf b f).1) pv kp g os) ⟨x.gs.spoil pv kp np,⟨has_kept kp x.pv.lt fun f=>(nf b f).2.2.2 rfl,x.pv.nw,x.pv.nm⟩,x.nb,RC_le w.1 (fun o e=>kp b o e fun f=>(nf b f).2.2.2 rfl) x.rc⟩) (fun r s₁ h=>by cases h.1; exact h.2) fun _ _ h=>h
  | cons v0 rest =>
   rw [e0] at q
   have q:=stB_of q
   have w:=drop_get e0
   have hlt:=(List.getElem?_eq_some_iff.mp w.1).1
   refine wpAny_mono (io.item G.A k v0 Z (fun v s₂=>wpAny (model B.D.prog B.D.w) G.A (assign target G.env v) _ E s₂) E E x.gs.go.rm.hand w.1 jz x.gs.go.sm pv q.1 fun v Y1 j1 a1 e1 rv=>?_) (fun r s₁ h=>h.elim fun v h=>by cases h.1; exact h.2) fun _ _ h=>h
   refine bind_for (G:=G) hB (x.gs.item a1 np) (oK_eq q.2) rv fun ρ' Y2 k2 e2 a2 H2=>?_
   obtain ⟨eb,k2⟩:=k2
   have x2:Cs B u c (G.to ρ') b Y2 ds:=(x.on (ρ:=G.ρ) (x.gs.item a1 np) a1 fun f=>(nf b f).2.2.2 rfl).on H2 a2 fun f=>x.nb f.own
   have a12:=a.then a1 fun a f=>(nf a f).1
   have pv1:∀ a,fp a→Pv Y1 a:=fun b f=>(pv b f).go a1
   have back:∀ Y ds,kLoopC0 (stillB g vs) (bindTg G.ρ tg) (fun ρ σ k=>kIfs B.P B.T ifs ρ σ k) (fun ds ρ σ k=>kC B.P B.T r ds ρ σ k) rest ds Y.σ K→Aft B.D Y2 (Ac c G b) Y→Cs B u c (G.to ρ') b Y ds →
     ∃ m,m < vs.length - k∧∃ k Z ds,Y.s = Z.s∧m = vs.length - k∧k≤vs.length∧kLoopC0 (stillB g vs) (bindTg G.ρ tg) (fun ρ σ k=>kIfs B.P B.T ifs ρ σ k) (fun ds ρ σ k=>kC B.P B.T r ds ρ σ k) (vs.drop k) ds Z.σ K∧J k Z∧Aft B.D N0 (Ac c G b) Z∧Cs B u c G b Z ds∧∀ a,fp a→Pv Z a:=fun Y ds k3 a3 x3 =>
    have a23:=(a2.mono fun a f=>.inl f).trans a3
    ⟨vs.length - (k + 1),Nat.sub_lt_sub_left hlt (Nat.lt_succ_self k),k + 1,Y,ds,rfl,rfl,hlt,by rw [w.2]; exact k3,io.jm (k + 1) Y1 Y a23.le (fun a f o e=>a23.kp a o e (pv1 a f).nc fun h=>h.nb (nf a f).2.2) j1,a12.trans a23,
     ⟨x3.gs.less fun j d e=>(bindTg_get eb fun m=>cl j (List.mem_append.mpr (.inl m)) d e).trans e,x3.pv,x3.nb,x3.rc⟩,fun a f=>(pv1 a f).go a23⟩
   rw [← e1,← e2] at k2
   exact ifs_ok hI (G.to ρ') Y2 _ E _ H2.go k2 fun t Y3 k3 a3=>match t,k3 with
    | true,k3=>hr gens d sc pos (.ref I) b (G.to ρ') Y3 ds _ E _ hdr (x2.to a3) (fun i m d e=>cl i (List.mem_append.mpr (.inr m)) d ((bindTg_get eb (hd i m)).symm.trans e)) k3 fun l Y4 k4 a4 x4=>⟨rfl,back Y4 l k4 (a3.up.trans a4) x4⟩
    | false,k3=>back Y3 ds k3 a3.up (x2.to a3)) _
  ⟨0,N,ds,rfl,rfl,Nat.zero_le _,by rw [List.drop_zero]; exact q,j0,a0,x0,fun a f=>(nf a f).2.1⟩
theorem bd_elt {x:X} {elt:PE} (he:TE B u c x (fun env=>eval elt env)):BdOk B u c (.elt x) elt []:=fun gens d sc pos it b G N ds Q E K hd x cl q z=>by
 delta Wp bodyOf
 rw [List.getElem?_eq_none (List.drop_eq_nil_iff.mp hd)]
 refine wpAny_bind (wpAny_bind (he G N _ E _ x.gs.go q fun v Y w k a r=>wpAny_bind ?_))
 have x1:=x.to a
 obtain ⟨arr,il,rs⟩:=x1.rc
 obtain ⟨hz,k⟩:=bK_of k
 refine wpAny_list_append_plain (l:=b) (items:=arr) il (fun h' il' sb=>?_) (cap_ln (len_eq rs) (of_decide_eq_true hz))
 have t:=Aft.turn1 (t:=Y.s.toks) x1.gs.go.sm x1.pv (fun c o n e=>sb.extBut c o n e) (il'.elim fun k e=>⟨_,e⟩)
 exact wpAny_pure (wpAny_pure (z (ds++[v]) (Y.at { Y.s with heap:=h' }) k (a.up.trans (t.mono fun c e=>.inr e)) ⟨x1.gs.item t fun a o e=>x.nb (e ▸ o),x1.pv.go t,x.nb,arr.push w,il',by rw [Array.toList_push]; exact RVs_append (RVs_le t.le _ _ rs) ⟨w,[],rfl,RV_le t.le _ _ r,rfl⟩⟩))
theorem bd_gen {tg:Tg} {src:Src} {ifs:List X} {r:C} {target iter elt:PE} {ifsE:List PE} {rest:List PComp} (hs:TSr B u c target src iter) (hf:∀ env x,foldedSetIterable iter env x = pure x) (hl:LoopSt B u c tg ifs r target elt ifsE rest):BdOk B u c (.gen tg src ifs r) elt (⟨target,iter,ifsE,0⟩ :: rest):=fun gens d sc pos it b G N ds Q E K hd x cl q z=>by
 have hn:=drop_get hd
 delta Wp bodyOf
 rw [hn.1]
 refine wpAny_bind (wpAny_mono (hs G N (fun i s=>codeAny (model B.D.prog B.D.w) G.A (.compStart (.ListComp elt gens sc pos) (d + 1) i (.ref b) G.env) (fun r s₅=>r = .ok .next∧Q (.again (.compLoop (.ListComp elt gens sc pos) d it (.ref b) G.env)) s₅) s) E _ x.gs.go q fun vs g Y I fp J k io j a nf=>?_)
  (fun v s₄ h₄=>wpAny_bind (wpAny_standAt (show wpAny _ _ (foldedSetIterable iter G.env v >>= _) _ _ _ from wpAny_bind (wpAny_of_eq (hf _ v) (wpAny_bind (wpAny_holding (wpAny_mono h₄ (fun i s₅ h₅=>wpAny_bind (wpAny_runOwn (codeAny_mono h₅ fun r s₆ h₆=>by cases h₆.1; exact wpAny_pure h₆.2))) fun _ _ h'=>h'))))))) fun _ _ h=>h)
 have run:=hl gens (d + 1) iter sc pos G N Y b ds I fp J vs g K (fun r s₅=>r = .ok .next∧Q (.again (.compLoop (.ListComp elt gens sc pos) d it (.ref b) G.env)) s₅) hn.1 hn.2 (kLoopC_unf k) io j a.up (fun c f=>⟨(nf c f).1,(nf c f).2,fun o=>(nf c f).1 (own_has x.gs.go.eo o).1,fun e=>(nf c f).1 (e ▸ x.pv.lt)⟩) (x.to a) cl fun l Z k a2 x2=>⟨rfl,z l Z k a2 x2⟩
 exact start_at hn.1 rfl run fun E'=>io.self G.A 0 Y _ E' j run
end
end Mine.Internal
namespace Mine.Internal
open PySem PySem.W PyProof.Rows PySem.Calls
theorem cellsFrom_lookup {x:Str}:∀ (l:List (Str × NameKind)) (n:Nat) (acc:List (Str × Addr)),((x,NameKind.cell)∈l ∨ (acc.lookup x).isSome = true)→((cellsFrom n l acc).lookup x).isSome = true
 | [],n,acc,h=>h.elim (fun h=>nomatch h) id
 | (y,k) :: r,n,acc,h=>by
  unfold cellsFrom
  split
  ·refine cellsFrom_lookup r (n + 1) _ (h.elim (fun h=>(List.mem_cons.mp h).elim (fun h=>.inr ?_) .inl) fun h=>.inr ?_)
   ·cases h; rw [List.lookup_cons,BEq.rfl]; rfl
   ·rw [List.lookup_cons]
    cases x == y with
    | true=>rfl
    | false=>exact h
  ·rename_i hk
   exact cellsFrom_lookup r n acc (h.imp (fun h=>(List.mem_cons.mp h).elim (fun h=>by cases h; exact absurd rfl hk) id) id)
theorem cells_app:∀ (l:List (Str × NameKind)) (n:Nat) (a b:List (Str × Addr)),cellsFrom n l (a++b) = cellsFrom n l a++b
 | [],_,_,_=>rfl
 | (x,k) :: r,n,a,b=>by
  unfold cellsFrom
  split
  ·exact cells_app r (n + 1) ((x,n) :: a) b
  ·exact cells_app r n a b
theorem cells_mem {q:Str × Addr}:∀ (l:List (Str × NameKind)) (n:Nat) (acc:List (Str × Addr)),q∈cellsFrom n l acc→q∈acc ∨ (q.1,NameKind.cell)∈l
 | [],_,_,h=>.inl h
 | (x,k) :: r,n,acc,h=>by
  unfold cellsFrom at h
  split at h
  ·rename_i hk
   exact (cells_mem r _ _ h).elim (fun h=>(List.mem_cons.mp h).elim (fun e=>.inr (by rw [e,← eq_of_beq hk]; exact List.mem_cons_self ..)) .inl) fun h=>.inr (List.mem_cons_of_mem _ h)
  ·exact (cells_mem r _ _ h).imp id (List.mem_cons_of_mem _)
theorem newEnv_cells {M:Model} {A:Around} {E:PV→Shared→Prop} {s:Shared} {scope:Scope} {globals:Addr} {closure:List (Str × Addr)} {qual:Str} {o:PEnv} {Q:PEnv→Shared→Prop}
  (hQ:∀ h',(∃ m,h'.Ns s.heap.objs.size m)→(∀ b o,s.heap.get? b = some o→h'.get? b = some o)→CellsOk h' (s.heap.objs.size + 1) (cellsFrom (s.heap.objs.size + 1) scope.names []) →
   Q (newEnv scope s.heap.objs.size globals (cellsFrom (s.heap.objs.size + 1) scope.names []++closure) qual none .none (some o) builtinsNs) { s with heap:=h' }):wpAny M A (newFunctionEnv scope globals closure [] qual none .none (some o)) Q E s:=by
 simp only [newFunctionEnv,Option.isSome_some,if_true]
 refine wpAny_bind (wpAny_alloc ?_)
 refine wpAny_bind (wpAny_layCells _ (fun name kind cells=>by cases hkc:kind == NameKind.cell <;> simp [hkc]) _ _ _ _ ?_)
 have ok:=cellsFrom_ok scope.names (s.heap.push { cls:=.type "dict",data:=.dict #[] }) (s.heap.objs.size + 1) [] ⟨fun _ _ hm=>(nomatch hm),List.Pairwise.nil⟩ (by rw [Heap.size_push]; exact Nat.le_refl _)
 rw [Heap.size_push] at ok
 rw [show ({ s with heap:=s.heap.push { cls:=.type "dict",data:=.dict #[] } }:Shared).heap.objs.size = s.heap.objs.size + 1 from Heap.size_push ..,show closure = []++closure from rfl,cells_app]
 exact wpAny_bind (wpAny_pure (wpAny_pure (hQ _ ⟨_,(Heap.Ns.new s.heap (.type "dict")).keeps (pushCells_keeps _ _)⟩ (fun b o e=>pushCells_keeps _ _ b o (Heap.get?_push_of_some _ e)) ok)))
theorem look_app {α:Type} {x:Str} {v:α}:∀ {l k:List (Str × α)},l.lookup x = some v→(l++k).lookup x = some v
 | (y,u) :: l,k,h=>by
  rw [List.cons_append]
  rw [List.lookup_cons] at h ⊢
  cases e:x == y with
  | true=>rw [e] at h; exact h
  | false=>rw [e] at h; exact look_app h
theorem look_skip {α:Type} {x:Str}:∀ {l k:List (Str × α)},l.lookup x = none→(l++k).lookup x = k.lookup x
 | [],_,_=>rfl
 | (y,u) :: l,k,h=>by
  rw [List.cons_append,List.lookup_cons]
  rw [List.lookup_cons] at h
  cases e:x == y with
  | true=>rw [e] at h; cases h
  | false=>rw [e] at h; exact look_skip h
section
variable {B:Bd} {u:Nat} {c:Ck} {G:Ev} {N Y Z:Nx}
theorem clr_get:∀ {is:List Nat} {ρ:REnv} {j:Nat} {d:V},(clr is ρ)[j]? = some (some d)→ρ[j]? = some (some d)∧j ∉ is
 | [],_,_,_,h=>⟨h,List.not_mem_nil⟩
 | i :: is,ρ,j,d,h=>have w:=clr_get (is:=is) (ρ:=ρ.set i none) h
  (set_some w.1).elim (fun e=>nomatch e.2) fun e=>⟨e.2,fun m=>(List.mem_cons.mp m).elim (fun g=>e.1 g.symm) w.2⟩
theorem comp_core {tg:Tg} {src:Src} {ifs:List X} {r:C} {target iter elt:PE} {ifsE:List PE} {rest:List PComp} {sc0:Scope} {pos:Pos} {nm:List (Str × Nat)} {K:List V→St→Prop} {E:PV→Shared→Prop} (K0:CpOk c sc0 nm (tg.slots++r.slots)) (hs:TSr B u c target src iter)
  (hl:LoopSt B u ⟨nm,relS sc0 c.sc,ownC sc0⟩ tg ifs r target elt ifsE rest) (H:Go B u c G N) (q:kC B.P B.T (.gen tg src ifs r) [] (clr (tg.slots++r.slots) G.ρ) N.σ K) {R:PV→Addr→Result→Shared→Prop}
  (z:∀ l Y b Cl,K l Y.σ→Aft B.D N noA Y→¬ N.has b→¬ N.has Cl→b ≠ Cl→Pv Y b→Pv Y Cl→RC B.D Y b (.list l)→(∃ m,Y.s.heap.Ns Cl m)→R (.ref b) Cl (.ok .next) Y.s) :
  Wp B G N (eval iter G.env) (fun x s₁=>wpAny (model B.D.prog B.D.w) G.A (pyIter x) (fun it s₂=>wpAny (model B.D.prog B.D.w) G.A (newList []) (fun acc s₃ =>
   wpAny (model B.D.prog B.D.w) G.A (newFunctionEnv sc0 G.env.globals (closOf G.env.cells sc0.names []) [] G.env.qual none .none (some G.env)) (fun cenv s₄ =>
    codeAny (model B.D.prog B.D.w) G.A (.compStart (.ListComp elt (⟨target,iter,ifsE,0⟩ :: rest) sc0 pos) 0 it acc { cenv with scope:=relabel sc0 G.env }) (R acc cenv.locals) s₄) E s₃) E s₂) E s₁) E:=by
 refine hs (G.to (clr (tg.slots++r.slots) G.ρ)) N _ E _ ⟨H.rm,H.eo,fun x i d h1 h2 h3=>H.fe x i d h1 h2 (clr_get h3).1,H.sm⟩ q fun vs g Y I fp J k io j a nf=>?_
 refine wpAny_newObj_type (newEnv_cells fun h₁ hns hkp hco=>?_)
 have z1:∀ o:Obj,(Y.s.heap.push o).objs.size = Y.s.heap.objs.size + 1:=fun o=>Heap.size_push ..
 dsimp only at hns hkp hco ⊢
 rw [z1] at hns hco ⊢
 have n1:∀ {k:Nat},Y.s.heap.objs.size≤k→¬ Y.has k:=fun hk h=>absurd (has_lt h) (Nat.not_lt.mpr hk)
 have nb:¬ Y.has Y.s.heap.objs.size:=n1 (Nat.le_refl _)
 have nl:¬ Y.has (Y.s.heap.objs.size + 1):=n1 (Nat.le_succ _)
 have nbl:Y.s.heap.objs.size ≠ Y.s.heap.objs.size + 1:=Nat.ne_of_lt (Nat.lt_succ_self _)
 have hb:h₁.get? Y.s.heap.objs.size = some { cls:=.type "list",dict:=none,data:=.seq ([]:List PV).toArray 0,slots:=#[] }:=hkp _ _ (push_at rfl)
 have hm:∀ q∈cellsFrom (Y.s.heap.objs.size + 1 + 1) sc0.names [],(q.1,NameKind.cell)∈sc0.names:=fun q hq=>(cells_mem _ _ _ hq).resolve_left List.not_mem_nil
 have hown:∀ x,sc0.names.lookup x = some .cell→∃ cc,(cellsFrom (Y.s.heap.objs.size + 1 + 1) sc0.names []).lookup x = some cc:=fun x e=>Option.isSome_iff_exists.mp (cellsFrom_lookup _ _ _ (.inl (mem_of_lookup e)))
 have m:More Y { Y.s with heap:=h₁ }:=⟨fun x o e=>hkp x o (Heap.get?_push_of_some _ e),rfl,rfl⟩
 have pc:∀ q∈cellsFrom (Y.s.heap.objs.size + 1 + 1) sc0.names [],¬ Y.has q.2∧Pv (Y.at { Y.s with heap:=h₁ }) q.2∧q.2 ≠ Y.s.heap.objs.size∧q.2 ≠ Y.s.heap.objs.size + 1:=fun q hq =>
  have w:=hco.empty q.1 q.2 hq
  have n:=n1 (Nat.le_trans (Nat.le_add_right _ 2) w.2)
  ⟨n,(cell_has w.1).elim fun o e=>m.pv a.sm n e,Nat.ne_of_gt (Nat.lt_of_lt_of_le (Nat.lt_succ_of_lt (Nat.lt_succ_self _)) w.2),Nat.ne_of_gt w.2⟩
 generalize cellsFrom (Y.s.heap.objs.size + 1 + 1) sc0.names [] = cs at *
 generalize Y.s.heap.objs.size = b at *
 generalize b + 1 = L at *
 have a1:=m.aft a.sm
 have a2:=a.trans a1
 have pb:=m.pv a.sm nb hb
 have pl:=hns.elim fun _ hns=>(Ns_has hns).elim fun o e=>m.pv a.sm nl e
 have cl:∀ q∈closOf G.env.cells sc0.names [],N.has q.2∧¬ chg N.μ q.2:=fun q hq=>(clos_mem _ _ hq).elim (fun h=>nomatch h) fun h =>
  (Option.isSome_iff_exists.mp (H.eo.cx q.1 (K0.fre _ h.1 rfl))).elim fun cc hc=>by rw [h.2,hc]; exact H.eo.cells (q.1,cc) (mem_of_lookup hc)
 have no:∀ x,¬ N.has x→x ≠ L→(∀ q∈cs,q.2 ≠ x)→¬ Own (compEnvC sc0 (cs++closOf G.env.cells sc0.names []) L G.env) x:=fun x h n nc o=>o.elim n fun ⟨q,hq,e⟩=>(List.mem_append.mp hq).elim (fun hq=>nc q hq e) fun hq=>h (e ▸ (cl q hq).1)
 have fno:∀ x,sc0.names.lookup x = some .free→cs.lookup x = none:=fun x e=>Option.eq_none_iff_forall_ne_some.mpr fun cc hc=>nomatch (K0.okc _ (hm _ (mem_of_lookup hc)) rfl).symm.trans e
 have own:∀ x,ownC sc0 x = true→∃ cc,cs.lookup x = some cc:=fun x e=>hown x (eq_of_beq e)
 have gs:Gs B u ⟨nm,relS sc0 c.sc,ownC sc0⟩ ⟨compEnvC sc0 (cs++closOf G.env.cells sc0.names []) L G.env,G.A,clr (tg.slots++r.slots) G.ρ⟩ (Y.at { Y.s with heap:=h₁ }) :=
  ⟨⟨H.rm,⟨congrArg (relS sc0) H.eo.sc,K0.kind,H.eo.gl,H.eo.bi,⟨pl.lt,pl.nc⟩,fun q hq=>(List.mem_append.mp hq).elim (fun hq=>⟨(pc q hq).2.1.lt,(pc q hq).2.1.nc⟩) fun hq=>⟨a2.ex _ (cl q hq).1,a2.chg (cl q hq).1 (cl q hq).2⟩,H.eo.fr,fun x hx=>by
   have hx:(relS sc0 c.sc).names.lookup x = some .cell ∨ (relS sc0 c.sc).names.lookup x = some .free:=hx
   rw [relS_find] at hx
   have w:∃ k,sc0.names.lookup x = some k∧(relK c.sc x k = .cell ∨ relK c.sc x k = .free):=hx.elim (fun h=>(Option.map_eq_some_iff.mp h).elim fun k w=>⟨k,w.1,.inl w.2⟩) fun h=>(Option.map_eq_some_iff.mp h).elim fun k w=>⟨k,w.1,.inr w.2⟩
   obtain ⟨k,hk,w⟩:=w
   show (List.lookup x (cs++closOf G.env.cells sc0.names [])).isSome = true
   rcases relK_of w with e | e
   ·obtain ⟨cc,hc⟩:=hown x (e ▸ hk)
    rw [look_app hc]; rfl
   ·rw [look_skip (fno x (e ▸ hk)),clos_lookup _ _ (e ▸ mem_of_lookup hk)]; rfl⟩,fun x i d h1 h2 h3=>by
   have w:=clr_get h3
   obtain ⟨e1,e2⟩:=(K0.nm x i h1).resolve_left w.2
   have hm:=mem_of_lookup e2
   have hk:=K0.fre _ hm rfl
   obtain ⟨v,at_,rv⟩:=H.fe x i d e1 (by rw [H.eo.kd]; exact hk.elim (fun e=>by rw [show c.sc.names.lookup x = _ from e]; rfl) fun e=>by rw [show c.sc.names.lookup x = _ from e]; rfl) w.1
   refine ⟨v,?_,RV_le a2.le d v rv⟩
   rcases at_ with ⟨k1,_⟩ | ⟨_,cc,ec,o,ho,hd⟩
   ·rw [H.eo.kd] at k1
    exact hk.elim (fun e=>nomatch k1.symm.trans e) fun e=>nomatch k1.symm.trans e
   ·have kk:(compEnvC sc0 (cs++closOf G.env.cells sc0.names []) L G.env).kindOf x = some (relK c.sc x .free):=(congrArg (fun s=>(relS sc0 s).names.lookup x) H.eo.sc).trans (by rw [relS_find,e2]; rfl)
    exact .inr ⟨(relK_free (o:=c.sc) (x:=x) rfl).imp (fun e=>by rw [kk,e]) fun e=>by rw [kk,e],cc,(look_skip (fno x e2)).trans ((clos_lookup _ _ hm).trans (by rw [ec]; rfl)),o,a2.old (H.eo.cells (x,cc) (mem_of_lookup ec)).2 ho,hd⟩,a1.sm⟩,
  fun x f=>f.elim (fun e=>by rw [e]; exact pl) fun ⟨y,w,e⟩=>(own y w.1).elim fun cc hc=>Option.some.inj ((look_app hc).symm.trans e) ▸ (pc _ (mem_of_lookup hc)).2.1,hns,
  fun y w _=>(own y w).elim fun cc hc=>⟨cc,none,look_app hc,(hco.empty y cc (mem_of_lookup hc)).1⟩,
  fun x y b w _ e1 e2=>(own x w).elim fun cc hc=>by
   cases Option.some.inj ((look_app hc).symm.trans e1)
   exact (List.mem_append.mp (mem_of_lookup e2)).elim (fun h=>name_of_addr hco.apart (mem_of_lookup hc) h) fun h=>absurd (a.ex _ (cl _ h).1) (pc _ (mem_of_lookup hc)).1⟩
 have run:=hl (⟨target,iter,ifsE,0⟩ :: rest) 0 iter sc0 pos _ N _ b [] I fp J vs g K (R (.ref b) L) rfl rfl (kLoopC_unf k) io (io.jm 0 Y _ a1.le (fun b f o e=>m.k b o e) j) a2.up
  (fun x f=>⟨(nf x f).1,(nf x f).2.go a1,no x (nf x f).1 (fun e=>nl (e ▸ (nf x f).2.lt)) fun q hq e=>(pc q hq).1 (e ▸ (nf x f).2.lt),fun e=>nb (e ▸ (nf x f).2.lt)⟩) ⟨gs,pb,no b (fun h=>nb (a.ex _ h)) nbl fun q hq=>(pc q hq).2.2.1,_,⟨0,hb⟩,rfl⟩ (fun i hi d e=>(clr_get e).2 hi)
  fun l Z k2 a3 x3=>z l Z b L k2 (a3.hide fun x f=>f.elim (fun f=>f.elim (fun (e:x = L) h=>nl (a.ex _ (e ▸ h))) fun ⟨y,w,e⟩ h=>(own y w.1).elim fun cc hc=>(pc _ (mem_of_lookup hc)).1 (a.ex _ (Option.some.inj ((look_app hc).symm.trans e) ▸ h))) fun e h=>nb (a.ex _ (e ▸ h))) (fun h=>nb (a.ex _ h)) (fun h=>nl (a.ex _ h)) nbl x3.pv (x3.gs.pv L (.inl rfl)) x3.rc x3.gs.ns
 exact start_at (g:=⟨target,iter,ifsE,0⟩) rfl rfl run fun E'=>io.self G.A 0 _ _ E' (io.jm 0 Y _ a1.le (fun b f o e=>m.k b o e) j) run
variable {tg:Tg} {src:Src} {ifs:List X} {r:C} {target iter elt:PE} {ifsE:List PE} {rest:List PComp} {sc0:Scope} {nm:List (Str × Nat)}
theorem tf_comp {pos:Pos} (K0:CpOk c sc0 nm (tg.slots++r.slots)) (hs:TSr B u c target src iter) (hf:∀ env x,foldedSetIterable iter env x = pure x) (hl:LoopSt B u ⟨nm,relS sc0 c.sc,ownC sc0⟩ tg ifs r target elt ifsE rest) :
  TF B u c (.comp (.gen tg src ifs r)) (fun env=>eval (.ListComp elt (⟨target,iter,ifsE,0⟩ :: rest) sc0 pos) env):=fun G N Q E K H q z=>by
 show wpAny _ G.A (eval (.ListComp elt (⟨target,iter,ifsE,0⟩ :: rest) sc0 pos) G.env) Q E N.s
 rw [eval_ListComp]
 exact wpAny_comprehension_free (use:=none) rfl (hf G.env) (clos_eq fun p hp e=>H.eo.cx p.1 (K0.fre p hp e)) K0.kind K0.okl (comp_core (R:=fun acc C=>compPost (model B.D.prog B.D.w) G.A E none Q acc C) K0 hs hl H q fun l Y b Cl k a nb nc ne pb pc rc ns=>ns.elim fun mm ns=>⟨mm,ns,fun h' sb =>
  have kp:∀ c o,Y.s.heap.get? c = some o→¬ c = Cl→h'.get? c = some o:=fun c o e n=>sb.extBut c o n e
  have w:=a.sm.turn (F:=fun c=>c = Cl) (s:={ Y.s with heap:=h' }) (fun c e=>e ▸ pc) kp
  z (.list l) (Y.at { Y.s with heap:=h' }) b k (a.lose (P:=fun c=>c = Cl) (fun c e=>e ▸ nc) (fun c e=>e ▸ pc) kp rfl rfl) nb ⟨has_kept kp pb.lt ne,pb.nw,pb.nm⟩ (RC_le w.1 (fun o e=>kp b o e ne) rc)⟩)
theorem name_core {cpos pos py:Pos} {i:Nat} {y:Str} {K:Out→Prop} {Kc:List V→St→Prop} {Q:Flow→Shared→Prop} {E:PV→Shared→Prop} (hn:Nm c y i) (K0:CpOk c sc0 nm (tg.slots++r.slots)) (hs:TSr B u c target src iter) (hf:∀ env x,foldedSetIterable iter env x = pure x) (hl:LoopSt B u ⟨nm,relS sc0 c.sc,ownC sc0⟩ tg ifs r target elt ifsE rest)
  (hsw:∀ env:PEnv,env.scope = c.sc→swapsWith (.ListComp elt (⟨target,iter,ifsE,0⟩ :: rest) sc0 cpos) (some (.Name y py)) pos.line env = pure true) (H:Gs B u c G N) (q:kC B.P B.T (.gen tg src ifs r) [] (clr (tg.slots++r.slots) G.ρ) N.σ Kc) (z:OutOk B u c G N K Q)
  (pub:∀ l Y b,Kc l Y.σ→Aft B.D N noA Y→¬ N.has b→Pv Y b→RC B.D Y b (.list l)→∃ d Y',Y'.s = Y.s∧Aft B.D N noA Y'∧Val B Y' d (.ref b)∧K (.next (G.ρ.set i (some d)) Y'.σ)∧∀ a,b ≠ a→Pv Y a→Pv Y' a) :
  Wp B G N (exec (.Assign [.Name y py] (.ListComp elt (⟨target,iter,ifsE,0⟩ :: rest) sc0 cpos) pos) G.env) Q E:=by
 delta Wp
 rw [exec_Assign_Name_used _ _ _ _ (hsw G.env H.go.eo.sc)]
 refine wpAny_bind (wpAny_standAt (wpAny_bind ?_))
 show wpAny _ _ (do let _ ← comprehension (.ListComp elt (⟨target,iter,ifsE,0⟩ :: rest) sc0 cpos) sc0 G.env _ (newList []) false (eval iter G.env) (some (assign (.Name y py) G.env))) _ _ _
 refine wpAny_bind (wpAny_mono (wpAny_comprehension_free (use:=some (assign (.Name y py) G.env)) (Q:=fun _ s'=>Q .next s') rfl (hf G.env) (clos_eq fun p hp e=>H.go.eo.cx p.1 (K0.fre p hp e)) K0.kind K0.okl
  (comp_core (R:=fun acc C=>compPost (model B.D.prog B.D.w) G.A E (some (assign (.Name y py) G.env)) (fun _ s'=>Q .next s') acc C) K0 hs hl H.go q fun l Y b Cl k a nb nc ne pb pc rc ns=>ns.elim fun mm ns=>?_)) (fun _ s' hq=>wpAny_pure (wpAny_pure hq)) fun _ _ e=>e)
 obtain ⟨d,Y',e,aw,rv,k,pp⟩:=pub l Y b k a nb pb rc
 have pw:=pp Cl ne pc
 have nF:¬ Own G.env Cl:=fun o=>nc (own_has H.go.eo o).1
 show wpAny _ _ (assign (.Name y py) G.env (.ref b)) _ _ Y.s
 rw [← e] at ns ⊢
 refine wpAny_assign_Name (store_ok (N:=Y') (H.to aw) hn rv fun Y2 es a2 H2=>⟨mm,ns.at fun o e=>a2.kp Cl o e pw.nc fun f=>nF f.own,fun h' sb=>?_⟩)
 have kp:∀ c o,Y2.s.heap.get? c = some o→¬ c = Cl→h'.get? c = some o:=fun c o e n=>sb.extBut c o n e
 exact z.1 _ (Y2.at { Y2.s with heap:=h' }) (show K (.next (G.ρ.set i (some d)) Y2.σ) by rw [es]; exact k) ((aw.up.trans a2).lose (P:=fun c=>c = Cl) (fun c e=>e ▸ nc) (fun c e=>e ▸ pw.go a2) kp rfl rfl) (H2.spoil (P:=fun c=>c = Cl) (fun c e=>e ▸ pw.go a2) kp fun c o e=>nF (e ▸ o))
theorem ts_nameC {cpos pos py:Pos} {i:Nat} {y:Str} (hn:Nm c y i) (K0:CpOk c sc0 nm (tg.slots++r.slots)) (hs:TSr B u c target src iter) (hf:∀ env x,foldedSetIterable iter env x = pure x) (hl:LoopSt B u ⟨nm,relS sc0 c.sc,ownC sc0⟩ tg ifs r target elt ifsE rest)
  (hsw:∀ env:PEnv,env.scope = c.sc→swapsWith (.ListComp elt (⟨target,iter,ifsE,0⟩ :: rest) sc0 cpos) (some (.Name y py)) pos.line env = pure true) :
  TS B u c (.asg (.name i) (.comp (.gen tg src ifs r))) (fun env=>exec (.Assign [.Name y py] (.ListComp elt (⟨target,iter,ifsE,0⟩ :: rest) sc0 cpos) pos) env)∧TS B u c (.asg (.name i) (.mut (.comp (.gen tg src ifs r)))) (fun env=>exec (.Assign [.Name y py] (.ListComp elt (⟨target,iter,ifsE,0⟩ :: rest) sc0 cpos) pos) env) :=
 ⟨fun G N Q E K H q z=>name_core hn K0 hs hf hl hsw H q z fun l Y b k a nb pb rc=>⟨.list l,Y.wi b,rfl,a.wi pb nb,RC_RV (.inr rfl) (RC_le Le.wi (fun _ e=>e) rc),k,fun x ne px=>⟨px.lt,fun w=>w.elim px.nw fun e=>ne e.symm,px.nm⟩⟩,
  fun G N Q E K H q z=>name_core hn K0 hs hf hl hsw H q z fun l Y b k a nb pb rc=>⟨.loc Y.σ.length,Y.lo (b,b) (.list l),rfl,a.lo pb pb ⟨nb,nb⟩ (base_none H.go.sm nb) (OR_le Le.lo (fun _ e=>e) (fun _ e=>e) ⟨rfl,rc⟩),⟨(b,b),rfl,by rw [← a.sm.len]; exact at_end⟩,k,
   fun x ne px=>⟨px.lt,px.nw,fun p hp=>(mem_snoc hp).elim (px.nm p) fun e=>by rw [e]; exact ⟨ne,ne⟩⟩⟩⟩
end
end Mine.Internal
namespace Mine.Internal
open PySem PySem.W PyProof.Rows PySem.Calls
theorem cellsFrom_nodup:∀ (l:List (Str × NameKind)) (n:Nat) (acc:List (Str × Addr)),(l.map (·.1)).Nodup→(acc.map (·.1)).Nodup→(∀ x∈l.map (·.1),x ∉ acc.map (·.1))→((cellsFrom n l acc).map (·.1)).Nodup
 | [],_,_,_,h,_=>h
 | (y,k) :: r,n,acc,h1,h2,h3=>by
  have h1:=List.nodup_cons.mp h1
  unfold cellsFrom
  split
  ·exact cellsFrom_nodup r (n + 1) _ h1.2 (List.nodup_cons.mpr ⟨h3 y (List.mem_cons_self ..),h2⟩) fun x hx hm=>(List.mem_cons.mp hm).elim (fun e=>h1.1 (e ▸ hx)) (h3 x (List.mem_cons_of_mem _ hx))
  ·exact cellsFrom_nodup r n acc h1.2 h2 fun x hx=>h3 x (List.mem_cons_of_mem _ hx)
theorem lookup_of {α:Type} {x:Str} {b:α}:∀ {l:List (Str × α)},(l.map (·.1)).Nodup→(x,b)∈l→l.lookup x = some b
 | (y,c) :: r,hn,h=>by
  have hn:=List.nodup_cons.mp hn
  rw [List.lookup_cons]
  rcases List.mem_cons.mp h with h' | h'
  ·cases h'; rw [BEq.rfl]
  ·rw [show (x == y) = false from beq_eq_false_iff_ne.mpr fun e=>hn.1 (e ▸ List.mem_map.mpr ⟨_,h',rfl⟩)]; exact lookup_of hn.2 h'
section
variable {ko:Str→Option NameKind}
theorem bindL_not {x:Str}:∀ (l:List (Str × PV)) (m:Str→Option PV),x ∉ l.map (·.1)→bindL ko l m x = m x
 | [],m,_=>rfl
 | (y,v) :: r,m,h=>by
  unfold bindL
  rw [bindL_not r _ fun hm=>h (List.mem_cons_of_mem _ hm)]
  split
  ·exact if_neg fun e:x = y=>h (e ▸ List.mem_cons_self ..)
  ·rfl
theorem bindC_not {x:Str}:∀ (l:List (Str × PV)) (m:Str→Option PV),x ∉ l.map (·.1)→bindC ko l m x = m x
 | [],m,_=>rfl
 | (y,v) :: r,m,h=>by
  unfold bindC
  rw [bindC_not r _ fun hm=>h (List.mem_cons_of_mem _ hm)]
  split
  ·rfl
  ·exact if_neg fun e:x = y=>h (e ▸ List.mem_cons_self ..)
theorem bind_at {x:Str} {v:PV}:∀ (l:List (Str × PV)) (m m':Str→Option PV),(l.map (·.1)).Nodup→(x,v)∈l→(ko x = some .local→bindL ko l m x = some v)∧(ko x ≠ some .local→bindC ko l m' x = some v)
 | (y,w) :: r,m,m',hn,h=>by
  have hn:=List.nodup_cons.mp hn
  rcases List.mem_cons.mp h with h | h
  ·cases h
   exact ⟨fun hk=>by unfold bindL; rw [bindL_not r _ hn.1,if_pos hk]; exact if_pos rfl,fun hk=>by unfold bindC; rw [bindC_not r _ hn.1,if_neg hk]; exact if_pos rfl⟩
  ·have w:=fun m m'=>bind_at r m m' hn.2 h
   exact ⟨fun hk=>by unfold bindL; exact (w _ m').1 hk,fun hk=>by unfold bindC; exact (w m _).2 hk⟩
end
structure FnB (B:Bd) (u:Nat) (names:List (Str × Nat)) (ps:List Str) (f:Nat) (d:FDef) (fd:FuncData) (body:List Stmt):Prop where
 hu:u≤90
 hK:∃ o,B.D.K.lookup (B.D.fa f) = some o∧o.data = .func fd
 hcd:codeIn B.D.K fd.code fd.qualname = true
 hb:fd.body = .stmts body
 hcl:fd.closure = []
 hg:fd.globals = mainGlobals
 hbi:fd.builtins = builtinsNs
 co:fd.scope.isCoroutine = false
 gen:fd.scope.isGenerator = false
 kind:fd.scope.kind = .function
 nf:∀ x,fd.scope.names.lookup x ≠ some .free
 nd:(fd.scope.names.map (·.1)).Nodup
 pl:ps.length = d.params
 pn:ps.Nodup
 pk:∀ x∈ps,fd.scope.names.lookup x = some .local ∨ fd.scope.names.lookup x = some .cell
 bind:∀ vals:List PV,vals.length = d.params→bindArgs fd ⟨vals,[]⟩ = pure (ps.zip vals)
 nm:∀ x i,names.lookup x = some i→d.params≤i ∨ ps[i]? = some x
 ts:TSs B u ⟨names,fd.scope,allOwn⟩ d.body (fun env=>execs body env)
noncomputable def FnGo (B:Bd) (f:Nat) (d:FDef):Prop :=
 ∀ (A:Around) (N:Nx) (ds:List V) (vs:List PV) (K:V→St→Prop) (R:Result→Shared→Prop),ds.length = d.params→kSs B.P B.T d.body (enter d ds) N.σ (outK K)→Room (B.n + 1) 0 A→Sm B.D N→Vals B N ds vs →
  (∀ d Y v,K d Y.σ→Aft B.D N noA Y→Val B Y d v→R (.ok (.ret v)) Y.s)→codeAny (model B.D.prog B.D.w) A (.call (.ref (B.D.fa f)) ⟨vs,[]⟩) R N.s
theorem enter_get {d:FDef} {ds:List V} {i:Nat} {x:V} (h:(enter d ds)[i]? = some (some x)):ds[i]? = some x:=by
 delta enter at h
 by_cases hi:i < (ds.map some).length
 ·rw [List.getElem?_append_left hi,List.getElem?_map] at h
  obtain ⟨y,e,e2⟩:=Option.map_eq_some_iff.mp h
  rw [e,e2]
 ·rw [List.getElem?_append_right (Nat.le_of_not_lt hi),List.getElem?_replicate] at h
  split at h <;> cases h
theorem Room.lt {n:Nat} {A:Around} (rm:Room (n + 1) 0 A):A.depth < recursionLimit:=Nat.lt_of_le_of_lt (Nat.le_trans (Nat.le_trans (Nat.le_add_right _ _) (Nat.le_add_right _ _)) (Nat.le_add_right _ _)) rm.depth
theorem Room.deep {n u:Nat} {A:Around} {env:PEnv} (rm:Room (n + 1) 0 A) (hu:u≤90):Room n u (A.deeper env) :=
 ⟨Nat.lt_of_le_of_lt (show A.depth + 1 + 5 * n + min u 2 + 2≤A.depth + 5 * (n + 1) + min 0 2 + 2 by
  rw [Nat.mul_succ,Nat.add_assoc A.depth,Nat.add_comm 1,Nat.zero_min,Nat.add_assoc A.depth (5 * n + 1),Nat.add_assoc (5 * n)]
  exact Nat.add_le_add_right (Nat.add_le_add_left (Nat.add_le_add_left (Nat.le_trans (Nat.add_le_add_left (Nat.min_le_right ..) 1) (by decide)) _) _) 2) rm.depth,Nat.lt_of_le_of_lt (show A.units + 3 + 100 * n + u≤A.units + 100 * (n + 1) + 0 by
  rw [Nat.mul_succ,Nat.add_assoc A.units,Nat.add_comm 3,Nat.add_assoc A.units,Nat.add_assoc (100 * n)]
  exact Nat.add_le_add_left (Nat.add_le_add_left (Nat.le_trans (Nat.add_le_add_left hu 3) (by decide)) _) _) rm.units,rm.hand⟩
section
variable {B:Bd} {g:Gt}
theorem call_fn (H:Facts B g) {u:Nat} {names:List (Str × Nat)} {ps:List Str} {f:Nat} {d:FDef} {fd:FuncData} {body:List Stmt} (F:FnB B u names ps f d fd body):FnGo B f d:=fun A N ds vs K R hl q rm sm rs z=>by
 obtain ⟨o,hK,hdt⟩:=F.hK
 have X:=H.x sm
 have hvl:vs.length = d.params:=(RVs_length rs).trans hl
 have hzip:(ps.zip vs).map (·.1) = ps:=List.map_fst_zip (Nat.le_of_eq (F.pl.trans hvl.symm))
 have mem_ps:∀ x∈ps.zip vs,x.1∈ps:=fun x hx=>hzip ▸ List.mem_map.mpr ⟨x,hx,rfl⟩
 have cs:∀ x k,fd.scope.names.lookup x = some NameKind.cell→((cellsFrom k fd.scope.names []).lookup x).isSome = true:=fun x k e=>cellsFrom_lookup _ _ _ (.inl (mem_of_lookup e))
 refine codeAny_call_cells (o:=o) (fd:=fd) (body:=body) (binds:=ps.zip vs) rm.lt (X _ _ hK) hdt (H.lim.keeps sm.gi) (codeRec_of X F.hcd) F.hb (F.bind vs hvl) F.hcl (fun x hx=>(F.pk _ (mem_ps x hx)).imp id fun e=>⟨e,cs _ _ e⟩) (fun s1 ic=>?_) F.co F.gen F.kind
 have ic0:=ic.toInCall
 obtain ⟨h1,tk1,rfl⟩:=ic0.same
 have hcells:(callEnvC fd N.s.heap.objs.size (B.D.fa f)).cells = cellsFrom (N.s.heap.objs.size + 1) fd.scope.names []:=rfl
 have hscope:(callEnvC fd N.s.heap.objs.size (B.D.fa f)).scope = fd.scope:=rfl
 have hloc:(callEnvC fd N.s.heap.objs.size (B.D.fa f)).locals = N.s.heap.objs.size:=rfl
 have hframe:(callEnvC fd N.s.heap.objs.size (B.D.fa f)).frame = some N.s.heap.objs.size:=rfl
 have hglob:(callEnvC fd N.s.heap.objs.size (B.D.fa f)).globals = fd.globals:=rfl
 have hbuil:(callEnvC fd N.s.heap.objs.size (B.D.fa f)).builtins = fd.builtins:=rfl
 generalize callEnvC fd N.s.heap.objs.size (B.D.fa f) = env at *
 have hkd:∀ x,env.kindOf x = fd.scope.names.lookup x:=fun x=>congrArg (fun s:Scope=>s.names.lookup x) hscope
 have cn:(env.cells.map (·.1)).Nodup:=by rw [hcells]; exact cellsFrom_nodup _ _ _ F.nd List.nodup_nil fun x _ hm=>nomatch hm
 have cell_at:∀ q∈env.cells,∃ v,h1.IsCell q.2 v:=fun q hq=>⟨_,ic.cell q.1 q.2 (lookup_of cn hq)⟩
 have m:More N { N.s with heap:=h1,toks:=tk1 }:=⟨ic0.keep,rfl,rfl⟩
 have old:∀ b,N.s.heap.objs.size≤b→¬ N.has b:=fun b h n=>absurd (has_lt n) (Nat.not_lt.mpr h)
 have af:=m.aft sm
 have pl:Pv (N.at { N.s with heap:=h1,toks:=tk1 }) env.locals:=(Ns_has ic0.ns).elim fun o e=>m.pv sm (old _ (Nat.le_of_eq hloc.symm)) e
 have pc:∀ q∈env.cells,¬ N.has q.2∧Pv (N.at { N.s with heap:=h1,toks:=tk1 }) q.2:=fun q hq =>
  have n:=old q.2 (Nat.le_of_lt (hloc ▸ ic.above q.1 q.2 hq))
  ⟨n,(cell_at q hq).elim fun v w=>(cell_has w).elim fun o e=>m.pv sm n e⟩
 have gs:Gs B u ⟨names,fd.scope,allOwn⟩ ⟨env,A.deeper env,enter d ds⟩ (N.at { N.s with heap:=h1,toks:=tk1 }):=by
  refine ⟨⟨rm.deep F.hu,⟨hscope,(congrArg Scope.kind hscope).trans F.kind,hglob.trans F.hg,hbuil.trans F.hbi,⟨pl.lt,pl.nc⟩,fun q hq=>⟨(pc q hq).2.lt,(pc q hq).2.nc⟩,by rw [hframe]; rfl,fun x hx=>?_⟩,fun x i d' h1' h2' h3'=>?_,af.sm⟩,
   fun b f=>f.elim (fun e=>by rw [e]; exact pl) fun ⟨x,_,e⟩=>(pc (x,b) (mem_of_lookup e)).2,⟨_,ic0.ns⟩,fun x _ hx=>?_,fun x y b _ hx h1' h2'=>name_of_addr ic.apart (mem_of_lookup h1') (mem_of_lookup h2')⟩
  ·rw [hcells]
   exact hx.elim (cs _ _) fun hx=>absurd hx (F.nf x)
  ·have hd:=enter_get h3'
   have hi:i < d.params:=hl ▸ (List.getElem?_eq_some_iff.mp hd).1
   have hpx:=(F.nm x i h1').resolve_left (Nat.not_le.mpr hi)
   obtain ⟨v,hv,rv⟩:=RVs_get rs hd
   have hm:(x,v)∈ps.zip vs:=List.mem_of_getElem? (i:=i) (by rw [List.getElem?_zip_eq_some]; exact ⟨hpx,hv⟩)
   refine ⟨v,?_,RV_le af.le _ _ rv⟩
   have ba:=bind_at (ko:=env.kindOf) (ps.zip vs) (fun _=>none) (fun _=>none) (by rw [hzip]; exact F.pn) hm
   rcases F.pk x (mem_ps _ hm) with hxk | hxk
   ·exact .inl ⟨(hkd x).trans hxk,_,ic0.ns,ba.1 ((hkd x).trans hxk)⟩
   ·obtain ⟨b,hb⟩:=Option.isSome_iff_exists.mp (cs x (N.s.heap.objs.size + 1) hxk)
    rw [← hcells] at hb
    have w:=ic.cell x b hb
    rw [ba.2 fun e=>by rw [hkd,hxk] at e; cases e] at w
    exact .inr ⟨.inl ((hkd x).trans hxk),b,hb,w⟩
  ·obtain ⟨b,hb⟩:=Option.isSome_iff_exists.mp (cs x (N.s.heap.objs.size + 1) hx)
   rw [← hcells] at hb
   exact ⟨b,_,hb,ic.cell x b hb⟩
 have nF:∀ b,Fr ⟨names,fd.scope,allOwn⟩ env b→¬ N.has b:=fun b f=>f.elim (fun e=>by rw [e]; exact old _ (Nat.le_of_eq hloc.symm)) fun ⟨x,_,e⟩=>(pc (x,b) (mem_of_lookup e)).1
 have done:∀ {Y},Aft B.D (N.at { N.s with heap:=h1,toks:=tk1 }) (Fr ⟨names,fd.scope,allOwn⟩ env) Y→Aft B.D N noA Y:=fun a=>(af.up.trans a).hide nF
 exact F.ts ⟨env,A.deeper env,enter d ds⟩ _ _ _ _ gs q ⟨fun ρ Y k a _=>z .none Y .none k (done a) rfl,fun d Y v k a r=>z d Y v k (done a) r⟩
theorem tok_go {D:Wd} {P:Prog} (hF:∀ n T,TOk ⟨D,P,T,n⟩→∀ f d,P.fn f = some d→FnGo ⟨D,P,T,n⟩ f d):∀ n,TOk ⟨D,P,⟨callK P n⟩,n⟩
 | 0=>fun A N f ds vs K e=>False.elim e
 | n + 1=>fun A N f ds vs K e rm sm rs=>oK_of (show oK (P.fn f) _ from e) fun d hd e =>
  have w:=bK_of e
  ⟨by show (P.fn f).isSome = true; rw [hd]; rfl,fun R z=>hF n ⟨callK P n⟩ (tok_go hF n) f d hd A N ds vs K R (of_decide_eq_true w.1) w.2 rm sm rs z⟩
end
end Mine.Internal
namespace Mine.Internal
open PySem PySem.W PyProof.Rows
noncomputable section
noncomputable def oB {α:Type} (o:Option α) (f:α→Bool):Bool:=match o with
 | some a=>f a
 | none=>false
@[irreducible] noncomputable def oS {α:Type} {p:α→Prop} (o:Option { a:α // p a }) (f:α→Bool):Bool:=match o with
 | some a=>f a.1
 | none=>false
theorem oS_of {α:Type} {p:α→Prop} {o:Option { a:α // p a }} {f:α→Bool} (h:oS o f = true):∃ a,p a∧f a = true:=by
 delta oS at h
 cases o with
 | some a=>exact ⟨a.1,a.2,h⟩
 | none=>exact absurd h Bool.false_ne_true
theorem oS_el {α:Type} {p:α→Prop} {o:Option { a:α // p a }} {f:α→Bool} {Z:Prop} (h:oS o f = true) (z:∀ a,p a→f a = true→Z):Z:=(oS_of h).elim fun a w=>z a w.1 w.2
noncomputable def dCon (e:PE):Option { w:Const × Nat × Pos // e = .Constant w.1 w.2.1 w.2.2 }:=if h:e.ctorIdx = 19 then PySem.Expr.Constant.elim (motive_1:=fun e=>Option { w:Const × Nat × Pos // e = .Constant w.1 w.2.1 w.2.2 }) e h (fun k n p=>some ⟨(k,n,p),rfl⟩) else none
noncomputable def kInt (k:Const):Option { j:Int // k = .int j }:=if h:k.ctorIdx = 2 then PySem.Const.int.elim (motive:=fun k=>Option { j:Int // k = .int j }) k h (fun j=>some ⟨j,rfl⟩) else none
noncomputable def kStr (k:Const):Option { x:Str // k = .str x }:=if h:k.ctorIdx = 5 then PySem.Const.str.elim (motive:=fun k=>Option { x:Str // k = .str x }) k h (fun x=>some ⟨x,rfl⟩) else none
noncomputable def kBool (k:Const):Option { b:Bool // k = .bool b }:=if h:k.ctorIdx = 1 then PySem.Const.bool.elim (motive:=fun k=>Option { b:Bool // k = .bool b }) k h (fun b=>some ⟨b,rfl⟩) else none
noncomputable def kNone (k:Const):Option { b:Unit // k = .none }:=if h:k.ctorIdx = 0 then PySem.Const.none.elim (motive:=fun k=>Option { b:Unit // k = .none }) k h (some ⟨(),rfl⟩) else none
noncomputable def dNeg (e:PE):Option { w:UnaryOp × PE × Pos // e = .UnaryOp w.1 w.2.1 w.2.2 }:=if h:e.ctorIdx = 3 then PySem.Expr.UnaryOp.elim (motive_1:=fun e=>Option { w:UnaryOp × PE × Pos // e = .UnaryOp w.1 w.2.1 w.2.2 }) e h (fun o f p=>some ⟨(o,f,p),rfl⟩) else none
noncomputable def dName (e:PE):Option { x:Str × Pos // e = .Name x.1 x.2 }:=if h:e.ctorIdx = 23 then PySem.Expr.Name.elim (motive_1:=fun e=>Option { x:Str × Pos // e = .Name x.1 x.2 }) e h (fun x p=>some ⟨(x,p),rfl⟩) else none
noncomputable def dTup (e:PE):Option { w:List PE × Nat × Pos // e = .Tuple w.1 w.2.1 w.2.2 }:=if h:e.ctorIdx = 25 then PySem.Expr.Tuple.elim (motive_1:=fun e=>Option { w:List PE × Nat × Pos // e = .Tuple w.1 w.2.1 w.2.2 }) e h (fun es k p=>some ⟨(es,k,p),rfl⟩) else none
noncomputable def dList (e:PE):Option { w:List PE × Pos // e = .List w.1 w.2 }:=if h:e.ctorIdx = 24 then PySem.Expr.List.elim (motive_1:=fun e=>Option { w:List PE × Pos // e = .List w.1 w.2 }) e h (fun es p=>some ⟨(es,p),rfl⟩) else none
noncomputable def dDict (e:PE):Option { w:List (Option PE) × List PE × Pos // e = .Dict w.1 w.2.1 w.2.2 }:=if h:e.ctorIdx = 6 then PySem.Expr.Dict.elim (motive_1:=fun e=>Option { w:List (Option PE) × List PE × Pos // e = .Dict w.1 w.2.1 w.2.2 }) e h (fun ks vs p=>some ⟨(ks,vs,p),rfl⟩) else none
noncomputable def dAttr (e:PE):Option { w:PE × Str × Pos // e = .Attribute w.1 w.2.1 w.2.2 }:=if h:e.ctorIdx = 20 then PySem.Expr.Attribute.elim (motive_1:=fun e=>Option { w:PE × Str × Pos // e = .Attribute w.1 w.2.1 w.2.2 }) e h (fun o a p=>some ⟨(o,a,p),rfl⟩) else none
noncomputable def dSub (e:PE):Option { w:PE × PE × Pos // e = .Subscript w.1 w.2.1 w.2.2 }:=if h:e.ctorIdx = 21 then PySem.Expr.Subscript.elim (motive_1:=fun e=>Option { w:PE × PE × Pos // e = .Subscript w.1 w.2.1 w.2.2 }) e h (fun o i p=>some ⟨(o,i,p),rfl⟩) else none
noncomputable def dSlice (e:PE):Option { w:Option PE × Option PE × Pos // e = .Slice w.1 w.2.1 none w.2.2 }:=if h:e.ctorIdx = 26 then PySem.Expr.Slice.elim (motive_1:=fun e=>Option { w:Option PE × Option PE × Pos // e = .Slice w.1 w.2.1 none w.2.2 }) e h (fun l h s p=>match s with | none=>some ⟨(l,h,p),rfl⟩ | some _=>none) else none
noncomputable def dSlr (e:PE):Option { w:PE × Pos // e = .Slice none none (some w.1) w.2 }:=if h:e.ctorIdx = 26 then PySem.Expr.Slice.elim (motive_1:=fun e=>Option { w:PE × Pos // e = .Slice none none (some w.1) w.2 }) e h (fun l h s p=>match l,h,s with | none,none,some f=>some ⟨(f,p),rfl⟩ | _,_,_=>none) else none
noncomputable def dBin (e:PE):Option { w:PE × Operator × PE × Pos // e = .BinOp w.1 w.2.1 w.2.2.1 w.2.2.2 }:=if h:e.ctorIdx = 2 then PySem.Expr.BinOp.elim (motive_1:=fun e=>Option { w:PE × Operator × PE × Pos // e = .BinOp w.1 w.2.1 w.2.2.1 w.2.2.2 }) e h (fun l o r p=>some ⟨(l,o,r,p),rfl⟩) else none
noncomputable def dBool (e:PE):Option { w:BoolOp × List PE × Pos // e = .BoolOp w.1 w.2.1 w.2.2 }:=if h:e.ctorIdx = 0 then PySem.Expr.BoolOp.elim (motive_1:=fun e=>Option { w:BoolOp × List PE × Pos // e = .BoolOp w.1 w.2.1 w.2.2 }) e h (fun o es p=>some ⟨(o,es,p),rfl⟩) else none
noncomputable def dCmp (e:PE):Option { w:PE × List CmpOp × List PE × Pos // e = .Compare w.1 w.2.1 w.2.2.1 w.2.2.2 }:=if h:e.ctorIdx = 15 then PySem.Expr.Compare.elim (motive_1:=fun e=>Option { w:PE × List CmpOp × List PE × Pos // e = .Compare w.1 w.2.1 w.2.2.1 w.2.2.2 }) e h (fun l o r p=>some ⟨(l,o,r,p),rfl⟩) else none
noncomputable def dIte (e:PE):Option { w:PE × PE × PE × Pos // e = .IfExp w.1 w.2.1 w.2.2.1 w.2.2.2 }:=if h:e.ctorIdx = 5 then PySem.Expr.IfExp.elim (motive_1:=fun e=>Option { w:PE × PE × PE × Pos // e = .IfExp w.1 w.2.1 w.2.2.1 w.2.2.2 }) e h (fun t b o p=>some ⟨(t,b,o,p),rfl⟩) else none
noncomputable def dCall (e:PE):Option { w:PE × List PE × Pos // e = .Call w.1 w.2.1 [] w.2.2 }:=if h:e.ctorIdx = 16 then PySem.Expr.Call.elim (motive_1:=fun e=>Option { w:PE × List PE × Pos // e = .Call w.1 w.2.1 [] w.2.2 }) e h (fun f es k p=>match k with | []=>some ⟨(f,es,p),rfl⟩ | _ :: _=>none) else none
noncomputable def dComp (e:PE):Option { w:PE × List PComp × Scope × Pos // e = .ListComp w.1 w.2.1 w.2.2.1 w.2.2.2 }:=if h:e.ctorIdx = 8 then PySem.Expr.ListComp.elim (motive_1:=fun e=>Option { w:PE × List PComp × Scope × Pos // e = .ListComp w.1 w.2.1 w.2.2.1 w.2.2.2 }) e h (fun t g s p=>some ⟨(t,g,s,p),rfl⟩) else none
noncomputable def dJs (e:PE):Option { w:List PE × Pos // e = .JoinedStr w.1 w.2 }:=if h:e.ctorIdx = 18 then PySem.Expr.JoinedStr.elim (motive_1:=fun e=>Option { w:List PE × Pos // e = .JoinedStr w.1 w.2 }) e h (fun es p=>some ⟨(es,p),rfl⟩) else none
noncomputable def dFmt (e:PE):Option { w:PE × Int × Pos // e = .FormattedValue w.1 w.2.1 none w.2.2 }:=if h:e.ctorIdx = 17 then PySem.Expr.FormattedValue.elim (motive_1:=fun e=>Option { w:PE × Int × Pos // e = .FormattedValue w.1 w.2.1 none w.2.2 }) e h (fun f i o p=>match o with | none=>some ⟨(f,i,p),rfl⟩ | some _=>none) else none
noncomputable def dOne {α:Type} (l:List α):Option { a:α // l = [a] }:=match l with
 | [a]=>some ⟨a,rfl⟩
 | _=>none
noncomputable def dTwo {α:Type} (l:List α):Option { a:α × α // l = [a.1,a.2] }:=match l with
 | [a,b]=>some ⟨(a,b),rfl⟩
 | _=>none
noncomputable def dCons {α:Type} (l:List α):Option { a:α × List α // l = a.1 :: a.2 }:=match l with
 | a :: b=>some ⟨(a,b),rfl⟩
 | _=>none
noncomputable def dGen (g:PComp):Option { w:PE × PE × List PE // g = ⟨w.1,w.2.1,w.2.2,0⟩ }:=match g with
 | ⟨t,i,f,0⟩=>some ⟨(t,i,f),rfl⟩
 | _=>none
noncomputable def noSet (e:PE):Bool:=e.ctorIdx != 7
noncomputable def biStr:Bi→Str × PV
 | .len=>("len",.builtin "len")
 | .list=>("list",.type "list")
 | .tuple=>("tuple",.type "tuple")
 | .max=>("max",.builtin "max")
 | .dict=>("dict",.type "dict")
 | _=>("sorted",.builtin "sorted")
noncomputable def nst (b:Bi):Bool:=b.ctorIdx == 5
noncomputable def isFb:Bi→Bool
 | .list=>true
 | .dict=>true
 | _=>false
noncomputable def isF (x:X):Bool:=x.ctorIdx == 4 || (x.ctorIdx == 5 || (x.ctorIdx == 28 || (x.ctorIdx == 21 || if h:x.ctorIdx = 19 then X.bi.elim (motive_1:=fun _=>Bool) x h (fun b _=>isFb b) else false)))
noncomputable def isGlob (c:Ck) (x:Str):Bool:=c.sc.names.lookup x == some .globalImplicit && !(x == ("__debug__":Str))
noncomputable def isVar (c:Ck) (x:Str) (i:Nat):Bool:=c.names.lookup x == some i && (isLoc (c.sc.names.lookup x) && (!(x == ("__debug__":Str)) && !(x == ("__classdict__":Str))))
noncomputable def strN (v:V):Option Nat:=if h:v.ctorIdx = 3 then V.str.elim (motive_1:=fun _=>Option Nat) v h (fun n=>some n) else none
noncomputable def dCst (x:X):Option { v:V // x = .cst v }:=if h:x.ctorIdx = 0 then X.cst.elim (motive_1:=fun x=>Option { v:V // x = .cst v }) x h (fun v=>some ⟨v,rfl⟩) else none
noncomputable def dVs (v:V):Option { z:Nat // v = .str z }:=if h:v.ctorIdx = 3 then V.str.elim (motive_1:=fun v=>Option { z:Nat // v = .str z }) v h (fun z=>some ⟨z,rfl⟩) else none
noncomputable def dVn (v:V):Option { z:Unit // v = .none }:=if h:v.ctorIdx = 0 then V.none.elim (motive_1:=fun v=>Option { z:Unit // v = .none }) v h (some ⟨(),rfl⟩) else none
noncomputable def isN (x:X):Bool:=oS (dCst x) fun v=>oS (dVn v) fun _=>true
noncomputable def oO (o:Option PE) (b:Bool) (f:PE→Bool):Bool:=match o with
 | some e=>f e
 | none=>b
noncomputable def chkCst (v:V) (e:PE):Bool:=match v with
 | .none=>oS (dCon e) fun w=>oS (kNone w.1) fun _=>true
 | .bool b=>oS (dCon e) fun w=>oS (kBool w.1) fun d=>b == d
 | .int i=>oS (dCon e) (fun w=>oS (kInt w.1) fun j=>decide (i = j)) || oS (dNeg e) fun w=>w.1 == .USub && oS (dCon w.2.1) fun w=>oS (kInt w.1) fun j=>decide (i = -j)
 | .str z=>oS (dCon e) fun w=>oS (kStr w.1) fun x=>strOk x && encS x == z
 | _=>false
noncomputable def namesT (tg:Tg) (e:PE):List (Str × Nat):=match tg with
 | .one i=>match dName e with
  | some x=>[(x.1.1,i)]
  | none=>[]
 | .many is=>match dTup e with
  | some es=>(es.1.1.zip is).filterMap fun p=>(dName p.1).map fun x=>(x.1.1,p.2)
  | none=>[]
noncomputable def namesC:C→List PComp→List (Str × Nat)
 | .elt _,_=>[]
 | .gen tg _ _ r,l=>match l with
  | g :: l=>namesT tg g.target++namesC r l
  | []=>[]
noncomputable def freeOf (c:Ck) (sc:Scope):List (Str × Nat):=c.names.filter fun p=>sc.names.lookup p.1 == some .free
noncomputable def cpB (c:Ck) (sc:Scope) (nm:List (Str × Nat)) (slots:List Nat):Bool :=
 (sc.kind == .function) && ((sc.names.all fun x=>(x.2 != .local || sc.names.lookup x.1 == some .local) && ((x.2 != .cell || sc.names.lookup x.1 == some .cell) && (x.2 != .free || (c.sc.names.lookup x.1 == some .cell || c.sc.names.lookup x.1 == some .free)))) &&
  nm.all fun p=>slots.contains p.2 || (c.names.lookup p.1 == some p.2 && sc.names.lookup p.1 == some .free))
noncomputable def isNm (c:Ck) (x:Str) (i:Nat):Bool:=c.names.lookup x == some i && ((c.names.all fun p=>p.2 != i || p.1 == x) && (c.sc.names.lookup x == some .local || (c.own x && c.sc.names.lookup x == some .cell)))
noncomputable def chkNm (c:Ck):List Nat→List PE→Bool
 | [],es=>es.isEmpty
 | i :: is,es=>oS (dCons es) fun w=>oS (dName w.1) fun x=>isNm c x.1 i && chkNm c is w.2
noncomputable def chkNn (c:Ck):List Nat→List Str→Bool
 | [],es=>es.isEmpty
 | i :: is,es=>oS (dCons es) fun w=>isNm c w.1 i && chkNn c is w.2
noncomputable def chkTg (c:Ck) (tg:Tg) (e:PE):Bool:=match tg with
 | .one i=>oS (dName e) fun x=>isNm c x.1 i
 | .many is=>oS (dTup e) fun w=>chkNm c is w.1
section
variable (P:Prog) (g:Gt)
mutual
noncomputable def chkE:X→Ck→PE→Bool
 | .cst v,c,e=>chkCst v e
 | .var i,c,e=>oS (dName e) fun w=>isVar c w.1 i
 | .glob k,c,e=>(P.glob k).isNone || oS (dName e) fun w=>g.consts.lookup w.1 == some k && isGlob c w.1
 | .tup xs,c,e=>oS (dTup e) fun w=>decide (xs.length≤1000) && chkEs xs c w.1
 | .list xs,c,e=>oS (dList e) fun w=>decide (xs.length≤1000) && chkEs xs c w.1
 | .dict xs,c,e=>oS (dDict e) fun w=>decide (w.1.length≤15) && chkKv xs c w.1 w.2.1
 | .mut x,c,e=>(isF x && plainTest e) && chkE x c e
 | .attr y f,c,e=>oS (dAttr e) fun w=>(plainBase w.1 && (g.flds.contains w.2.1 && (strOk w.2.1 && encS w.2.1 == f))) && chkE y c w.1
 | .item y i,c,e=>oS (dSub e) fun w=>notSlice w.2.1 && (chkE y c w.1 && chkE i c w.2.1)
 | .sidx cs i,c,e=>oS (dSub e) fun w=>oS (dCon w.1) fun k=>oS (kStr k.1) fun x=>(strOk x && (cs.map strN == x.cps.toList.map fun c=>some (encL [c]))) && (notSlice w.2.1 && chkE i c w.2.1)
 | .sl y l h,c,e=>oS (dSub e) fun w=>oS (dSlice w.2.1) fun s=>chkE y c w.1 && (oO s.1 (isN l) (fun e=>chkE l c e) && oO s.2.1 (isN h) (fun e=>chkE h c e))
 | .bin o a b,c,e=>oS (dBin e) fun w=>(bopOf o == w.2.1) && (chkE a c w.1 && chkE b c w.2.2.1)
 | .and xs,c,e=>oS (dBool e) fun w=>(w.1 == .And) && chkEs xs c w.2.1
 | .or xs,c,e=>oS (dBool e) fun w=>(w.1 == .Or) && chkEs xs c w.2.1
 | .cmp o a b,c,e=>oS (dCmp e) fun w=>oS (dOne w.2.1) fun op=>oS (dOne w.2.2.1) fun r=>(op == copOf o && !behindInMarks (copOf o) r) && (chkE a c w.1 && chkE b c r)
 | .ite x y z,c,e=>oS (dIte e) fun w=>chkE x c w.1 && (chkE y c w.2.1 && chkE z c w.2.2.1)
 | .call f xs,c,e=>oS (dCall e) fun w=>oS (dName w.1) fun x=>(g.fns.lookup x.1 == some f && ((P.fn f).isSome && isGlob c x.1)) && chkEs xs c w.2.1
 | .meth y f xs,c,e=>oS (dCall e) fun w=>oS (dAttr w.1) fun a=>(plainBase a.1 && (a.2.2.endLine == w.2.2.line && (decide (w.2.1.length < 29) && (g.mths.contains a.2.1 && (strOk a.2.1 && encS a.2.1 == f))))) && (chkE y c a.1 && chkEs xs c w.2.1)
 | .new k xs,c,e=>oS (dCall e) fun w=>oS (dName w.1) fun x=>(g.clss.lookup x.1 == some k && isGlob c x.1) && chkEs xs c w.2.1
 | .bi b xs,c,e=>bif nst b then oS (dCall e) fun w=>oS (dName w.1) fun x=>oS (dOne w.2.1) fun a=>oS (dCall a) fun v=>oS (dName v.1) fun y=>(x.1 == (biStr b).1 && (isGlob c x.1 && (y.1 == ("set":Str) && isGlob c y.1))) && (xs.length == 1 && chkEs xs c v.2.1)
  else oS (dCall e) fun w=>oS (dName w.1) fun x=>(x.1 == (biStr b).1 && isGlob c x.1) && chkEs xs c w.2.1
 | .get y xs,c,e=>oS (dCall e) fun w=>oS (dAttr w.1) fun a=>(a.2.1 == ("get":Str) && (plainBase a.1 && (a.2.2.endLine == w.2.2.line && decide (w.2.1.length < 29)))) && (chkE y c a.1 && chkEs xs c w.2.1)
 | .comp C,c,e=>oS (dComp e) fun w=>(cpB c w.2.2.1 (namesC C w.2.1++freeOf c w.2.2.1) C.slots && !w.2.1.isEmpty) && chkC C c ⟨namesC C w.2.1++freeOf c w.2.2.1,relS w.2.2.1 c.sc,ownC w.2.2.1⟩ w.1 w.2.1
 | .fstr xs,c,e=>oS (dJs e) fun w=>decide (2≤xs.length) && chkPs xs c w.1
 | .not x,c,e=>oS (dNeg e) fun w=>w.1 == .Not && chkE x c w.2.1
 | .rev y,c,e=>oS (dSub e) fun w=>oS (dSlr w.2.1) fun s=>chkE y c w.1 && chkCst (.int (-1)) s.1
 | .isN y,c,e=>oS (dCmp e) fun w=>oS (dOne w.2.1) fun op=>oS (dOne w.2.2.1) fun r=>oS (dCon r) fun k=>oS (kNone k.1) fun _=>op == .Is && chkE y c w.1
 | .cat x y,c,e=>oS (dBin e) fun w=>w.2.1 == .Add && (chkE x c w.1 && chkE y c w.2.2.1)
 | .sfind y,c,e=>oS (dCall e) fun w=>oS (dAttr w.1) fun a=>oS (dCon a.1) fun k=>oS (kStr k.1) fun x=>oS (dOne w.2.1) fun t=>(x == ("ABCS":Str) && (a.2.1 == ("index":Str) && (a.2.2.endLine == w.2.2.line && !isStarred t))) && chkE y c t
 | .emp y,c,e=>oS (dCmp e) fun w=>oS (dOne w.2.1) fun op=>oS (dOne w.2.2.1) fun r=>oS (dList r) fun s=>(op == .Eq && s.1.isEmpty) && chkE y c w.1
noncomputable def chkEs:List X→Ck→List PE→Bool
 | [],c,es=>es.isEmpty
 | x :: xs,c,es=>oS (dCons es) fun w=>!isStarred w.1 && (chkE x c w.1 && chkEs xs c w.2)
noncomputable def chkPs:List X→Ck→List PE→Bool
 | [],c,es=>es.isEmpty
 | x :: xs,c,es=>oS (dCons es) fun w=>((oS (dFmt w.1) fun f=>f.2.1 == -1 && chkE x c f.1) || oS (dCon w.1) fun k=>oS (kStr k.1) fun y=>oS (dCst x) fun v=>oS (dVs v) fun z=>strOk y && encS y == z) && chkPs xs c w.2
noncomputable def chkKv:List X→Ck→List (Option PE)→List PE→Bool
 | [],c,ks,vs=>ks.isEmpty && vs.isEmpty
 | x :: xs,c,ks,vs=>oS (dCons ks) fun k=>match k.1 with
  | some e=>chkE x c e && chkKw xs c k.2 vs
  | none=>false
noncomputable def chkKw:List X→Ck→List (Option PE)→List PE→Bool
 | [],c,ks,vs=>false
 | x :: xs,c,ks,vs=>oS (dCons vs) fun v=>chkE x c v.1 && chkKv xs c ks v.2
noncomputable def chkC:C→Ck→Ck→PE→List PComp→Bool
 | .elt x,c,c',elt,gens=>gens.isEmpty && chkE x c' elt
 | .gen tg src ifs r,c,c',elt,gens=>oS (dCons gens) fun w=>oS (dGen w.1) fun v=>(noSet v.2.1 && (chkTg c' tg v.1 && r.slots.all fun i=>!tg.slots.contains i)) && (chkSrc src c v.1 v.2.1 && (chkEs ifs c' v.2.2 && chkC r c' c' elt w.2))
noncomputable def chkSrc:Src→Ck→PE→PE→Bool
 | .val x,c,t,e=>chkE x c e
 | .range x,c,t,e=>oS (dCall e) fun w=>oS (dName w.1) fun n=>oS (dOne w.2.1) fun a=>(n.1 == ("range":Str) && (isGlob c n.1 && !isStarred a)) && chkE x c a
 | .enum x,c,t,e=>oS (dTup t) fun _=>oS (dCall e) fun w=>oS (dName w.1) fun n=>oS (dOne w.2.1) fun a=>(n.1 == ("enumerate":Str) && (isGlob c n.1 && !isStarred a)) && chkE x c a
end
end
end
end Mine.Internal
namespace Mine.Internal
open PySem PySem.W PyProof.Rows
noncomputable def TA (B:Bd) (u:Nat) (c:Ck) (x:X) (e:PE):Prop:=TE B u c x (fun env=>eval e env)∧TB B u c x (fun env=>isTrue e env (eval e env))∧(isF x = true→TF B u c x (fun env=>eval e env))
noncomputable def biNames:List (Str × PV) :=
 [("len",.builtin "len"),("list",.type "list"),("tuple",.type "tuple"),("max",.builtin "max"),("dict",.type "dict"),("sorted",.builtin "sorted"),("set",.type "set"),("range",.type "range"),("enumerate",.type "enumerate")]
noncomputable def SsOk (B:Bd) (u:Nat) (b:Bi) (y:Str) (q:PV):Prop:=∀ (g:Gt) (c:Ck) (x:X) (f:PE) (p1 p2 p3 p4:Pos),Facts B g→BiOk B.D c y q→BiOk B.D c "set" (.type "set")→isStarred f = false→TEs B u c [x] (fun env=>spliced (backTo p3 (starEach [f] env)))→TE B u c (.bi b [x]) (fun env=>eval (.Call (.Name y p1) [.Call (.Name "set" p2) [f] [] p3] [] p4) env)
structure Hs (B:Bd) (u:Nat) (g:Gt):Prop where
 F:Facts B g
 T:TOk B
 hu:40≤u
 bi:∀ p∈biNames,nsIn B.D.K mainGlobals p.1 = some none∧nsIn B.D.K builtinsNs p.1 = some (some p.2)
 so:CallOk B u (.builtin "sorted") .sorted
 ss:SsOk B u .sortedSet "sorted" (.builtin "sorted")
section
variable {B:Bd} {u:Nat} {g:Gt} {c:Ck} {x:X} {e:PE} {xs:List X} {es:List PE}
theorem ta_te (hp:plainTest e = true) (hf:isF x = false) (h:TE B u c x (fun env=>eval e env)):TA B u c x e:=⟨h,tb_te hp h,fun q=>absurd (hf.symm.trans q) Bool.false_ne_true⟩
theorem ta_tf (hp:plainTest e = true) (h:TF B u c x (fun env=>eval e env)):TA B u c x e:=⟨h.te,tb_te hp h.te,fun _=>h⟩
theorem eq_of {α:Type} [BEq α] [LawfulBEq α] {a b:α} (h:(a == b) = true):a = b:=eq_of_beq h
theorem isGlob_of {y:Str} (h:isGlob c y = true):c.sc.names.lookup y = some .globalImplicit∧(y == ("__debug__":Str)) = false:=⟨eq_of (and_l h),of_not (and_r h)⟩
theorem Hs.b (H:Hs B u g) {y:Str} {v:PV} (m:(y,v)∈biNames) (h:isGlob c y = true):BiOk B.D c y v:=⟨(H.bi _ m).1,(H.bi _ m).2,(isGlob_of h).1,(isGlob_of h).2⟩
theorem ta_var {y:Str} {i:Nat} {p:Pos} (h:isVar c y i = true):TA B u c (.var i) (.Name y p):=ta_te rfl rfl (te_var (eq_of (and_l h)) (and_l (and_r h)) (of_not (and_l (and_r (and_r h)))) (of_not (and_r (and_r (and_r h)))))
theorem ta_void {k:Nat} (h:B.P.glob k = none):TA B u c (.glob k) e:=⟨te_void h,fun G N Q E K H q z=>by
 have q:oK (B.P.glob k) _:=q
 rw [h] at q; exact False.elim q,fun q=>absurd q Bool.false_ne_true⟩
theorem TA.at {e':PE} (h:e = e') (a:TA B u c x e'):TA B u c x e:=h ▸ a
theorem ta_cst {v:V} (h:chkCst v e = true):TA B u c (.cst v) e:=by
 cases v with
 | none=>exact oS_el (o:=dCon e) h fun w he h=>oS_el h fun _ hk _=>TA.at (he.trans (congrArg (PySem.Expr.Constant · _ _) hk)) (ta_te rfl rfl te_none)
 | bool b=>exact oS_el (o:=dCon e) h fun w he h=>oS_el h fun d hk h=>TA.at (he.trans (congrArg (PySem.Expr.Constant · _ _) hk)) (eq_of h ▸ ta_te rfl rfl te_bool)
 | int i =>
  rcases Bool.or_eq_true_iff.mp h with h | h
  ·exact oS_el (o:=dCon e) h fun w he h=>oS_el h fun d hk h=>by
    rw [he,hk,of_decide_eq_true h]; exact ta_te rfl rfl te_int
  ·exact oS_el (o:=dNeg e) h fun w he h=>oS_el (and_r h) fun k hf h2=>oS_el h2 fun d hk h2=>by
    rw [he,eq_of (and_l h),hf,hk,of_decide_eq_true h2]; exact ⟨te_neg,fun e y Q E K H q z=>False.elim q,fun q=>absurd q Bool.false_ne_true⟩
 | str z=>exact oS_el (o:=dCon e) h fun w he h=>oS_el h fun d hk h=>TA.at (he.trans (congrArg (PySem.Expr.Constant · _ _) hk)) (ta_te rfl rfl (te_str (and_l h) (eq_of (and_r h))))
 | _=>exact absurd h Bool.false_ne_true
theorem All2.imp {α β:Type} {R S:α→β→Prop} (h:∀ a b,R a b→S a b) {l:List α} {k:List β} (x:All2 R l k):All2 S l k:=by
 induction x with
 | nil=>exact .nil
 | cons a _ ih=>exact .cons (h _ _ a) ih
noncomputable def TAs (B:Bd) (u:Nat) (c:Ck) (xs:List X) (es:List PE):Prop:=All2 (TA B u c) xs es∧es.all (fun e=>!isStarred e) = true
theorem TAs.tes (h:TAs B u c xs es) (p:Pos):TEs B u c xs (fun env=>spliced (backTo p (starEach es env))):=by
 obtain ⟨h,hs⟩:=h
 induction h with
 | nil=>exact tes_nil
 | cons a _ ih=>exact tes_cons (of_not (and_l hs)) a.1 (ih (and_r hs))
theorem strs_of {f:Nat→Nat}:∀ {cs:List V} {l:List Nat},cs.map strN = l.map (fun c=>some (f c))→cs = l.map fun c=>V.str (f c)
 | [],[],_=>rfl
 | [],_ :: _,h=>nomatch h
 | _ :: _,[],h=>nomatch h
 | v :: cs,c :: l,h=>by
  have h:=List.cons.inj h
  rw [strs_of h.2,show v = .str (f c) by
   have h1:=h.1
   cases v <;> first | exact congrArg V.str (Option.some.inj h1) | exact nomatch h1]; rfl
theorem isN_of (h:isN x = true):x = .cst .none:=oS_el h fun v hx h=>oS_el h fun _ hv _=>hx.trans (congrArg X.cst hv)
theorem noSet_of (h:noSet e = true) (env:PEnv) (v:PV):foldedSetIterable e env v = pure v:=by
 cases e <;> first | rfl | exact absurd h Bool.false_ne_true
theorem isNm_of {y:Str} {i:Nat} (h:isNm c y i = true):Nm c y i :=
 ⟨eq_of (and_l h),fun z hz=>(Bool.or_eq_true_iff.mp (List.all_eq_true.mp (and_l (and_r h)) _ (mem_of_lookup hz))).elim (fun e=>absurd rfl (bne_iff_ne.mp e)) eq_of,(Bool.or_eq_true_iff.mp (and_r (and_r h))).imp eq_of fun e=>⟨and_l e,eq_of (and_r e)⟩⟩
theorem chkNm_of:∀ {is:List Nat} {es:List PE},chkNm c is es = true→NmS c is es
 | [],es,h=>by rw [List.isEmpty_iff.mp h]; exact .nil
 | i :: is,es,h=>oS_el (o:=dCons es) h fun w he h=>oS_el h fun y hy h=>by rw [he,hy]; exact .cons (isNm_of (and_l h)) (chkNm_of (and_r h))
theorem chkNn_of:∀ {is:List Nat} {es:List Str},chkNn c is es = true→NmN c is es
 | [],es,h=>by rw [List.isEmpty_iff.mp h]; exact .nil
 | i :: is,es,h=>oS_el (o:=dCons es) h fun w he h=>by rw [he]; exact .cons (isNm_of (and_l h)) (chkNn_of (and_r h))
theorem chkTg_of {tg:Tg} (h:chkTg c tg e = true):TgOk c tg e:=by
 cases tg with
 | one i=>exact oS_el (o:=dName e) h fun y he h=>he ▸ .one (isNm_of h)
 | many is=>exact oS_el (o:=dTup e) h fun w he h=>he ▸ .many (chkNm_of h)
theorem cpB_of {sc:Scope} {nm:List (Str × Nat)} {sl:List Nat} (h:cpB c sc nm sl = true):CpOk c sc nm sl:=by
 have h2:=List.all_eq_true.mp (and_l (and_r h))
 have key:∀ {p:NameKind × Str} {k:NameKind} {b:Bool},(p.1 != k || b) = true→p.1 = k→b = true:=fun {p k b} h e=>(Bool.or_eq_true_iff.mp h).elim (fun n=>absurd e (bne_iff_ne.mp n)) id
 refine ⟨eq_of (and_l h),fun x hx e=>eq_of (key (p:=(x.2,x.1)) (and_l (h2 x hx)) e),fun x hx e=>eq_of (key (p:=(x.2,x.1)) (and_l (and_r (h2 x hx))) e),fun x hx e=>(Bool.or_eq_true_iff.mp (key (p:=(x.2,x.1)) (and_r (and_r (h2 x hx))) e)).imp eq_of eq_of,fun x i e=>?_⟩
 exact (Bool.or_eq_true_iff.mp (List.all_eq_true.mp (and_r (and_r h)) _ (mem_of_lookup e))).imp (fun e=>List.contains_iff_mem.mp e) fun e=>⟨eq_of (and_l e),eq_of (and_r e)⟩
noncomputable def Cl (B:Bd) (u:Nat) (c c':Ck) (x:C) (elt:PE) (gens:List PComp):Prop:=match x with
 | .elt x=>gens = []∧TE B u c' x (fun env=>eval elt env)
 | .gen tg src ifs r=>∃ target iter ifsE rest,gens = ⟨target,iter,ifsE,0⟩ :: rest∧TSr B u c target src iter∧(∀ env x,foldedSetIterable iter env x = pure x)∧LoopSt B u c' tg ifs r target elt ifsE rest
theorem Cl.bd {x:C} {elt:PE} {gens:List PComp} (h:Cl B u c c x elt gens):BdOk B u c x elt gens:=by
 cases x with
 | elt y=>rw [h.1]; exact bd_elt h.2
 | gen tg src ifs r=>obtain ⟨target,iter,ifsE,rest,rfl,h1,h2,h3⟩:=h; exact bd_gen h1 h2 h3
end
end Mine.Internal
namespace Mine.Internal
open PySem PySem.W PyProof.Rows
section
variable {B:Bd} {u:Nat} {g:Gt}
theorem snd_bi (h:Hs B u g) {c:Ck} {b:Bi} {xs:List X} {es:List PE} {np pos:Pos} (hn:nst b = false) (k1:isGlob c (biStr b).1 = true) (r:TAs B u c xs es):TA B u c (.bi b xs) (.Call (.Name (biStr b).1 np) es [] pos):=by
 cases b with
 | len=>exact ta_te rfl rfl (te_bi h.F (h.b (by decide +kernel) k1) rfl r.2 (r.tes _) ok_len)
 | list=>exact ta_tf rfl (tf_bi h.F (h.b (by decide +kernel) k1) rfl r.2 (r.tes _) cf_list)
 | tuple=>exact ta_te rfl rfl (te_bi h.F (h.b (by decide +kernel) k1) rfl r.2 (r.tes _) ok_tuple)
 | dict=>exact ta_tf rfl (tf_bi h.F (h.b (by decide +kernel) k1) rfl r.2 (r.tes _) cf_dict)
 | sorted=>exact ta_te rfl rfl (te_bi h.F (h.b (by decide +kernel) k1) rfl r.2 (r.tes _) h.so)
 | sortedSet=>exact nomatch hn
 | max=>exact ta_te rfl rfl (te_bi h.F (h.b (by decide +kernel) k1) rfl r.2 (r.tes _) ok_max)
theorem snd_ss (h:Hs B u g) {c:Ck} {b:Bi} {xs:List X} {es:List PE} {p1 p2 p3 p4:Pos} (hn:nst b = true) (k1:isGlob c (biStr b).1 = true) (k2:isGlob c "set" = true) (hl:(xs.length == 1) = true) (r:TAs B u c xs es):TA B u c (.bi b xs) (.Call (.Name (biStr b).1 p1) [.Call (.Name "set" p2) es [] p3] [] p4):=by
 have ts:=r.tes p3
 obtain ⟨r,hs⟩:=r
 cases r with
 | nil=>exact nomatch hl
 | cons t r=>cases r with
  | nil=>cases b with
   | sortedSet=>exact ta_te rfl rfl (h.ss g _ _ _ _ _ _ _ h.F (h.b (by decide +kernel) k1) (h.b (by decide +kernel) k2) (of_not (and_l hs)) ts)
   | _=>exact nomatch hn
  | cons _ _=>exact nomatch hl
theorem fstr_of {c:Ck} {xs:List X} {es:List PE} {p:Pos} (hl:decide (2≤xs.length) = true) (r:All2 (TP B u c) xs es):TE B u c (.fstr xs) (fun env=>eval (.JoinedStr es p) env):=by
 cases r with
 | nil=>exact nomatch hl
 | cons a r=>cases r with
  | nil=>exact nomatch hl
  | cons b r=>exact te_fstr a b r
theorem cl_comp {c:Ck} {C:C} {elt:PE} {gens:List PComp} {sc:Scope} {p:Pos} {nm:List (Str × Nat)} (K0:CpOk c sc nm C.slots) (hg:(!gens.isEmpty) = true) (r:Cl B u c ⟨nm,relS sc c.sc,ownC sc⟩ C elt gens):TA B u c (.comp C) (.ListComp elt gens sc p):=by
 cases C with
 | elt x=>rw [r.1] at hg; exact absurd hg Bool.false_ne_true
 | gen tg src ifs r'=>obtain ⟨target,iter,ifsE,rest,e,h1,h2,h3⟩:=r; exact e ▸ ta_tf rfl (tf_comp K0 h1 h2 h3)
mutual
theorem sndE (h:Hs B u g):∀ (x:X) (c:Ck) (e:PE),chkE B.P g x c e = true→TA B u c x e
 | .cst v,c,e,k=>ta_cst k
 | .var i,c,e,k=>oS_el (o:=dName e) k fun w he k=>he ▸ ta_var k
 | .glob i,c,e,k=>(Bool.or_eq_true_iff.mp k).elim (fun k=>ta_void (Option.isNone_iff_eq_none.mp k)) fun k=>oS_el (o:=dName e) k fun w he k=>he ▸ ta_te rfl rfl (te_glob h.F (eq_of (and_l k)) (isGlob_of (and_r k)).1 (isGlob_of (and_r k)).2)
 | .tup xs,c,e,k=>oS_el (o:=dTup e) k fun w he k=>he ▸ ta_te rfl rfl (te_tup (of_decide_eq_true (and_l k)) ((sndEs h xs c w.1 (and_r k)).tes _))
 | .list xs,c,e,k=>oS_el (o:=dList e) k fun w he k=>he ▸ ta_tf rfl (tf_list (of_decide_eq_true (and_l k)) ((sndEs h xs c w.1 (and_r k)).tes _))
 | .dict xs,c,e,k=>oS_el (o:=dDict e) k fun w he k=>he ▸ ta_tf rfl (tf_dict (sndKv h xs c w.1 w.2.1 (and_r k)) (of_decide_eq_true (and_l k)))
 | .mut x,c,e,k=>have t:=te_mut ((sndE h x c e (and_r k)).2.2 (and_l (and_l k)))
  ⟨t,tb_te (and_r (and_l k)) t,fun q=>absurd q Bool.false_ne_true⟩
 | .attr y f,c,e,k=>oS_el (o:=dAttr e) k fun w he k=>he ▸ ta_te rfl rfl (te_attr h.F (and_l (and_l k)) (List.contains_iff_mem.mp (and_l (and_r (and_l k)))) (and_l (and_r (and_r (and_l k)))) (eq_of (and_r (and_r (and_r (and_l k))))) (sndE h y c w.1 (and_r k)).1)
 | .item y i,c,e,k=>oS_el (o:=dSub e) k fun w he k=>he ▸ ta_te rfl rfl (te_item (and_l k) (sndE h y c w.1 (and_l (and_r k))).1 (sndE h i c w.2.1 (and_r (and_r k))).1)
 | .sidx cs i,c,e,k=>oS_el (o:=dSub e) k fun w he k=>oS_el k fun w2 ho k=>oS_el k fun x hx k=>by
  rw [he,ho,hx]
  exact ta_te rfl rfl (te_sidx (and_l (and_l k)) (strs_of (eq_of (and_r (and_l k)))) (and_l (and_r k)) (sndE h i c w.2.1 (and_r (and_r k))).1)
 | .sl y l r,c,e,k=>oS_el (o:=dSub e) k fun w he k=>oS_el k fun s hs k=>by
  have to:∀ (x:X) (o:Option PE),(∀ e,chkE B.P g x c e = true→TA B u c x e)→oO o (isN x) (fun e=>chkE B.P g x c e) = true→TO B u c x o:=fun x o f k=>match o,k with
   | some e,k=>(f e k).1
   | none,k=>isN_of k
  rw [he,hs]
  exact ta_te rfl rfl (te_sl (sndE h y c w.1 (and_l k)).1 (to l s.1 (fun e=>sndE h l c e) (and_l (and_r k))) (to r s.2.1 (fun e=>sndE h r c e) (and_r (and_r k))))
 | .bin o a b,c,e,k=>oS_el (o:=dBin e) k fun w he k=>by
  rw [he,← eq_of (and_l k)]
  exact ta_te rfl rfl (te_bin (sndE h a c w.1 (and_l (and_r k))).1 (sndE h b c w.2.2.1 (and_r (and_r k))).1)
 | .and xs,c,e,k=>oS_el (o:=dBool e) k fun w he k=>by
  have r:=(sndEs h xs c w.2.1 (and_r k)).1
  rw [he,eq_of (and_l k)]
  exact ⟨te_and (r.imp fun a b h=>h.1),tb_and (r.imp fun a b h=>h.2.1),fun q=>absurd q Bool.false_ne_true⟩
 | .or xs,c,e,k=>oS_el (o:=dBool e) k fun w he k=>by
  have r:=(sndEs h xs c w.2.1 (and_r k)).1
  rw [he,eq_of (and_l k)]
  exact ⟨te_or (r.imp fun a b h=>h.1),tb_or (r.imp fun a b h=>h.2.1),fun q=>absurd q Bool.false_ne_true⟩
 | .cmp o a b,c,e,k=>oS_el (o:=dCmp e) k fun w he k=>oS_el k fun op h1 k=>oS_el k fun r h2 k=>by
  have r1:=(sndE h a c w.1 (and_l (and_r k))).1
  have r2:=(sndE h b c r (and_r (and_r k))).1
  have u3:=Nat.le_trans (by decide:30≤40) h.hu
  rw [he,h1,h2,eq_of (and_l (and_l k))]
  exact ⟨te_cmp u3 (of_not (and_r (and_l k))) r1 r2,tb_cmp u3 (of_not (and_r (and_l k))) r1 r2,fun q=>absurd q Bool.false_ne_true⟩
 | .ite x y z,c,e,k=>oS_el (o:=dIte e) k fun w he k =>
  have r1:=sndE h x c w.1 (and_l k)
  have r2:=sndE h y c w.2.1 (and_l (and_r k))
  have r3:=sndE h z c w.2.2.1 (and_r (and_r k))
  he ▸ ⟨te_ite r1.2.1 r2.1 r3.1,TB.ite r1.2.1 r2.2.1 r3.2.1,fun q=>absurd q Bool.false_ne_true⟩
 | .call f xs,c,e,k=>oS_el (o:=dCall e) k fun w he k=>oS_el k fun y hq k =>
  have r:=sndEs h xs c w.2.1 (and_r k)
  have k1:=and_l k
  TA.at (he.trans (congrArg (PySem.Expr.Call · _ _ _) hq)) (ta_te rfl rfl (te_call h.F h.T (eq_of (and_l k1)) (and_l (and_r k1)) (isGlob_of (and_r (and_r k1))).1 (isGlob_of (and_r (and_r k1))).2 r.2 (r.tes _)))
 | .meth y f xs,c,e,k=>oS_el (o:=dCall e) k fun w he k=>oS_el k fun a hq k =>
  have r:=sndEs h xs c w.2.1 (and_r (and_r k))
  have k1:=and_l k
  have k4:=and_r (and_r (and_r k1))
  TA.at (he.trans (congrArg (PySem.Expr.Call · _ _ _) hq)) (ta_te rfl rfl (te_meth h.F h.T (and_l k1) (and_l (and_r k1)) (of_decide_eq_true (and_l (and_r (and_r k1)))) r.2 (List.contains_iff_mem.mp (and_l k4)) (and_l (and_r k4)) (eq_of (and_r (and_r k4))) (sndE h y c a.1 (and_l (and_r k))).1 (r.tes _)))
 | .new i xs,c,e,k=>oS_el (o:=dCall e) k fun w he k=>oS_el k fun y hq k =>
  have r:=sndEs h xs c w.2.1 (and_r k)
  have k1:=and_l k
  TA.at (he.trans (congrArg (PySem.Expr.Call · _ _ _) hq)) (ta_te rfl rfl (te_new h.F h.T h.hu (eq_of (and_l k1)) (isGlob_of (and_r k1)).1 (isGlob_of (and_r k1)).2 r.2 (r.tes _)))
 | .bi b xs,c,e,k=>by
  cases hb:nst b with
  | true =>
   replace k:(bif nst b then _ else _) = true:=k
   rw [hb] at k
   exact oS_el (o:=dCall e) k fun w he k=>oS_el k fun y hq k=>oS_el k fun a ha k=>oS_el k fun v hv k=>oS_el k fun y2 hq2 k=>by
    have k1:=and_l k
    rw [he,hq,ha,hv,hq2,eq_of (and_l k1),eq_of (and_l (and_r (and_r k1)))]
    rw [eq_of (and_l k1),eq_of (and_l (and_r (and_r k1)))] at k1
    exact snd_ss h hb (and_l (and_r k1)) (and_r (and_r (and_r k1))) (and_l (and_r k)) (sndEs h xs c v.2.1 (and_r (and_r k)))
  | false =>
   replace k:(bif nst b then _ else _) = true:=k
   rw [hb] at k
   exact oS_el (o:=dCall e) k fun w he k=>oS_el k fun y hq k=>by
    have k1:=and_r (and_l k)
    rw [eq_of (and_l (and_l k))] at k1
    rw [he,hq,eq_of (and_l (and_l k))]
    exact snd_bi h hb k1 (sndEs h xs c w.2.1 (and_r k))
 | .get y xs,c,e,k=>oS_el (o:=dCall e) k fun w he k=>oS_el k fun a hq k=>by
  have k1:=and_l k
  have r:=sndEs h xs c w.2.1 (and_r (and_r k))
  rw [he,hq,eq_of (and_l k1)]
  exact ta_te rfl rfl (te_get (and_l (and_r k1)) (and_l (and_r (and_r k1))) (of_decide_eq_true (and_r (and_r (and_r k1)))) r.2 (sndE h y c a.1 (and_l (and_r k))).1 (r.tes _))
 | .comp C,c,e,k=>oS_el (o:=dComp e) k fun w he k=>he ▸ cl_comp (cpB_of (and_l (and_l k))) (and_r (and_l k)) (sndC h C c _ w.1 w.2.1 (and_r k))
 | .fstr xs,c,e,k=>oS_el (o:=dJs e) k fun w he k=>he ▸ ta_te rfl rfl (fstr_of (and_l k) (sndPs h xs c w.1 (and_r k)))
 | .not x,c,e,k=>oS_el (o:=dNeg e) k fun w he k=>by
  have r:=sndE h x c w.2.1 (and_r k)
  rw [he,eq_of (and_l k)]
  exact ⟨te_not r.1,tb_not r.2.1,fun q=>absurd q Bool.false_ne_true⟩
 | .rev y,c,e,k=>oS_el (o:=dSub e) k fun w he k=>oS_el k fun s hs k=>by
  rw [he,hs]
  exact ta_te rfl rfl (te_rev (sndE h y c w.1 (and_l k)).1 (ta_cst (and_r k)).1)
 | .isN y,c,e,k=>oS_el (o:=dCmp e) k fun w he k=>oS_el k fun op h1 k=>oS_el k fun r h2 k=>oS_el k fun q h3 k=>oS_el k fun _ h4 k=>by
  rw [he,h1,h2,h3,h4,eq_of (and_l k)]
  have r:=(sndE h y c w.1 (and_r k)).1
  exact ⟨te_isN r,tb_isN r,fun q=>absurd q Bool.false_ne_true⟩
 | .cat x y,c,e,k=>oS_el (o:=dBin e) k fun w he k=>by
  rw [he,eq_of (and_l k)]
  exact ta_tf rfl (tf_cat (sndE h x c w.1 (and_l (and_r k))).1 (sndE h y c w.2.2.1 (and_r (and_r k))).1)
 | .sfind y,c,e,k=>oS_el (o:=dCall e) k fun w he k=>oS_el k fun a hq k=>oS_el k fun q hc k=>oS_el k fun x hx k=>oS_el k fun t ht k=>by
  have k1:=and_l k
  have k2:=and_r k1
  rw [he,hq,hc,hx,ht,eq_of (and_l k1),eq_of (and_l k2)]
  exact ta_te rfl rfl (te_sfind (and_l (and_r k2)) (of_not (and_r (and_r k2))) (sndE h y c t (and_r k)).1)
 | .emp y,c,e,k=>oS_el (o:=dCmp e) k fun w he k=>oS_el k fun op h1 k=>oS_el k fun r h2 k=>oS_el k fun s h3 k=>by
  have k1:=and_l k
  have u3:=Nat.le_trans (by decide:30≤40) h.hu
  rw [he,h1,h2,h3,eq_of (and_l k1),List.isEmpty_iff.mp (and_r k1)]
  have r:=(sndE h y c w.1 (and_r k)).1
  exact ⟨te_emp u3 r,tb_emp u3 r,fun q=>absurd q Bool.false_ne_true⟩
theorem sndEs (h:Hs B u g):∀ (xs:List X) (c:Ck) (es:List PE),chkEs B.P g xs c es = true→TAs B u c xs es
 | [],c,es,k=>List.isEmpty_iff.mp k ▸ ⟨.nil,rfl⟩
 | x :: xs,c,es,k=>oS_el (o:=dCons es) k fun w he k =>
  have r:=sndEs h xs c w.2 (and_r (and_r k))
  he ▸ ⟨.cons (sndE h x c w.1 (and_l (and_r k))) r.1,(congrArg (· && _) (and_l k)).trans r.2⟩
theorem sndPs (h:Hs B u g):∀ (xs:List X) (c:Ck) (es:List PE),chkPs B.P g xs c es = true→All2 (TP B u c) xs es
 | [],c,es,k=>List.isEmpty_iff.mp k ▸ .nil
 | x :: xs,c,es,k=>oS_el (o:=dCons es) k fun w he k =>
  have r:=sndPs h xs c w.2 (and_r k)
  he ▸ .cons ((Bool.or_eq_true_iff.mp (and_l k)).elim (fun k=>oS_el k fun f hf k=>by
   rw [hf,eq_of (and_l k)]; exact tp_fmt (sndE h x c f.1 (and_r k)).1) fun k=>oS_el k fun q hq k=>oS_el k fun y hy k=>oS_el k fun v hv k=>oS_el k fun z hz k=>by
   rw [hq,hy,hv,hz]; exact tp_cst (and_l k) (eq_of (and_r k))) r
theorem sndKv (h:Hs B u g):∀ (xs:List X) (c:Ck) (ks:List (Option PE)) (vs:List PE),chkKv B.P g xs c ks vs = true→Kv B u c xs ks vs
 | [],c,ks,vs,k=>List.isEmpty_iff.mp (and_l k) ▸ List.isEmpty_iff.mp (and_r k) ▸ .nil
 | [x],c,ks,vs,k=>oS_el (o:=dCons ks) k fun w he k=>match w.1,k with
  | some e,k=>absurd (and_r k) Bool.false_ne_true
  | none,k=>absurd k Bool.false_ne_true
 | x :: y :: xs,c,ks,vs,k=>oS_el (o:=dCons ks) k fun w he k=>he ▸ match w.1,k with
  | some e,k=>oS_el (o:=dCons vs) (and_r k) fun v hv k2=>hv ▸ .cons (sndE h x c e (and_l k)).1 (sndE h y c v.1 (and_l k2)).1 (sndKv h xs c w.2 v.2 (and_r k2))
  | none,k=>absurd k Bool.false_ne_true
theorem sndC (h:Hs B u g):∀ (x:C) (c c':Ck) (elt:PE) (gens:List PComp),chkC B.P g x c c' elt gens = true→Cl B u c c' x elt gens
 | .elt x,c,c',elt,gens,k=>⟨List.isEmpty_iff.mp (and_l k),(sndE h x c' elt (and_r k)).1⟩
 | .gen tg src ifs r,c,c',elt,gens,k=>oS_el (o:=dCons gens) k fun w hg k=>oS_el k fun v h1 k =>
  have k1:=and_l k
  have k2:=and_r k
  ⟨v.1,v.2.1,v.2.2,w.2,hg.trans (congrArg (· :: w.2) h1),sndSrc h src c v.1 v.2.1 (and_l k2),noSet_of (and_l k1),loop_ok (chkTg_of (and_l (and_r k1))) ((sndEs h ifs c' v.2.2 (and_l (and_r k2))).1.imp fun a b h=>h.2.1)
   (fun i hi m=>absurd (List.contains_iff_mem.mpr m) (by rw [of_not (List.all_eq_true.mp (and_r (and_r k1)) i hi)]; exact Bool.false_ne_true)) (sndC h r c' c' elt w.2 (and_r (and_r k2))).bd⟩
theorem sndSrc (h:Hs B u g):∀ (x:Src) (c:Ck) (t e:PE),chkSrc B.P g x c t e = true→TSr B u c t x e
 | .val x,c,t,e,k=>tsr_val (sndE h x c e k).1
 | .range x,c,t,e,k=>oS_el (o:=dCall e) k fun w he k=>oS_el k fun y hq k=>oS_el k fun a ha k=>by
  have k1:=and_l k
  have hs:=of_not (and_r (and_r k1))
  have hb:=and_l (and_r k1)
  rw [eq_of (and_l k1)] at hb
  rw [he,hq,ha,eq_of (and_l k1)]
  exact tsr_range h.F (h.b (by decide +kernel) hb) hs (tes_cons hs (sndE h x c a (and_r k)).1 tes_nil)
 | .enum x,c,t,e,k=>oS_el (o:=dTup t) k fun tt ht k=>oS_el (o:=dCall e) k fun w he k=>oS_el k fun y hq k=>oS_el k fun a ha k=>by
  have k1:=and_l k
  have hs:=of_not (and_r (and_r k1))
  have hb:=and_l (and_r k1)
  rw [eq_of (and_l k1)] at hb
  rw [ht,he,hq,ha,eq_of (and_l k1)]
  exact tsr_enum h.F (h.b (by decide +kernel) hb) hs (tes_cons hs (sndE h x c a (and_r k)).1 tes_nil)
end
end
end Mine.Internal
namespace Mine.Internal
open PySem PySem.W PyProof.Rows
noncomputable section
noncomputable def dRet (s:Stmt):Option { w:PE × Pos // s = .Return (some w.1) w.2 }:=if h:s.ctorIdx = 3 then PySem.Stmt.Return.elim (motive_2:=fun s=>Option { w:PE × Pos // s = .Return (some w.1) w.2 }) s h (fun e p=>match e with | some e=>some ⟨(e,p),rfl⟩ | none=>none) else none
noncomputable def dExp (s:Stmt):Option { w:PE × Pos // s = .Expr w.1 w.2 }:=if h:s.ctorIdx = 24 then PySem.Stmt.Expr.elim (motive_2:=fun s=>Option { w:PE × Pos // s = .Expr w.1 w.2 }) s h (fun e p=>some ⟨(e,p),rfl⟩) else none
noncomputable def dSIf (s:Stmt):Option { w:PE × List Stmt × List Stmt × Pos // s = .If w.1 w.2.1 w.2.2.1 w.2.2.2 }:=if h:s.ctorIdx = 12 then PySem.Stmt.If.elim (motive_2:=fun s=>Option { w:PE × List Stmt × List Stmt × Pos // s = .If w.1 w.2.1 w.2.2.1 w.2.2.2 }) s h (fun e a b p=>some ⟨(e,a,b,p),rfl⟩) else none
noncomputable def dWhi (s:Stmt):Option { w:PE × List Stmt × List Stmt × Pos // s = .While w.1 w.2.1 w.2.2.1 w.2.2.2 }:=if h:s.ctorIdx = 11 then PySem.Stmt.While.elim (motive_2:=fun s=>Option { w:PE × List Stmt × List Stmt × Pos // s = .While w.1 w.2.1 w.2.2.1 w.2.2.2 }) s h (fun e a b p=>some ⟨(e,a,b,p),rfl⟩) else none
noncomputable def dFor (s:Stmt):Option { w:PE × PE × List Stmt × List Stmt × Pos // s = .For w.1 w.2.1 w.2.2.1 w.2.2.2.1 w.2.2.2.2 }:=if h:s.ctorIdx = 9 then PySem.Stmt.For.elim (motive_2:=fun s=>Option { w:PE × PE × List Stmt × List Stmt × Pos // s = .For w.1 w.2.1 w.2.2.1 w.2.2.2.1 w.2.2.2.2 }) s h (fun t i a b p=>some ⟨(t,i,a,b,p),rfl⟩) else none
noncomputable def dAsg (s:Stmt):Option { w:List PE × PE × Pos // s = .Assign w.1 w.2.1 w.2.2 }:=if h:s.ctorIdx = 5 then PySem.Stmt.Assign.elim (motive_2:=fun s=>Option { w:List PE × PE × Pos // s = .Assign w.1 w.2.1 w.2.2 }) s h (fun t e p=>some ⟨(t,e,p),rfl⟩) else none
noncomputable def dX (x:X):Option { C:C // x = .comp C }:=if h:x.ctorIdx = 21 then X.comp.elim (motive_1:=fun x=>Option { C:C // x = .comp C }) x h (fun C=>some ⟨C,rfl⟩) else none
noncomputable def dXm (x:X):Option { C:C // x = .mut (.comp C) }:=if h:x.ctorIdx = 6 then X.mut.elim (motive_1:=fun x=>Option { C:C // x = .mut (.comp C) }) x h (fun y=>match dX y with | some C=>some ⟨C.1,congrArg X.mut C.2⟩ | none=>none) else none
noncomputable def asPure {α:Type} (m:Sem α):Option { a:α // m = .pure a }:=if h:m.ctorIdx = 0 then PySem.Sem.pure.elim (motive:=fun m=>Option { a:α // m = .pure a }) m h (fun a=>some ⟨a,rfl⟩) else none
noncomputable def env0 (c:Ck):PEnv:={ scope:=c.sc,locals:=0,globals:=0,cells:=[],qual:="",func:=none,code:=.none,frame:=none,builtins:=0 }
noncomputable def swB (c:Ck) (e:PE) (t:Option PE) (l:Nat) (r:Bool):Bool:=oS (asPure (swapsWith e t l (env0 c))) fun b=>b == r
noncomputable def mthN:Mth→Str
 | .app=>"append"
 | .ext=>"extend"
 | .rem=>"remove"
section
variable (P:Prog) (g:Gt)
noncomputable def chkA (c:Ck) (x:X) (ts:List PE) (e:PE) (l:Nat) (t:Tgt):Bool:=chkE P g x c e && oS (dOne ts) fun t0=>match t with
 | .name i=>oS (dName t0) fun y=>isNm c y.1 i && (swB c e (some t0) l false || (((dX x).isSome || (dXm x).isSome) && swB c e (some t0) l true))
 | .attr o f=>oS (dAttr t0) fun a=>((g.flds.contains a.2.1 && (strOk a.2.1 && encS a.2.1 == f)) && swB c e (some t0) l false) && chkE P g o c a.1
 | .item o k=>oS (dSub t0) fun a=>swB c e (some t0) l false && (chkE P g o c a.1 && chkE P g k c a.2.1)
mutual
noncomputable def chkS:S→Ck→Stmt→Bool
 | .raise,c,s=>true
 | .ret x,c,s=>oS (dRet s) fun w=>chkE P g x c w.1
 | .expr x,c,s=>oS (dExp s) fun w=>swB c w.1 none w.2.line false && chkE P g x c w.1
 | .ite x a b,c,s=>oS (dSIf s) fun w=>chkE P g x c w.1 && (chkSs a c w.2.1 && chkSs b c w.2.2.1)
 | .while_ x b,c,s=>oS (dWhi s) fun w=>w.2.2.1.isEmpty && (chkE P g x c w.1 && chkSs b c w.2.1)
 | .for_ tg src b,c,s=>oS (dFor s) fun w=>(w.2.2.2.1.isEmpty && (noSet w.2.1 && chkTg c tg w.1)) && (chkSrc P g src c w.1 w.2.1 && chkSs b c w.2.2.1)
 | .mth m o x,c,s=>oS (dExp s) fun w=>oS (dCall w.1) fun v=>oS (dAttr v.1) fun a=>oS (dOne v.2.1) fun e=>(a.2.1 == mthN m && (plainBase a.1 && (a.2.2.endLine == v.2.2.line && !isStarred e))) && (chkE P g o c a.1 && chkE P g x c e)
 | .asgT is x,c,s=>oS (dAsg s) fun w=>oS (dOne w.1) fun t=>oS (dTup t) fun es=>(chkNm c is es.1 && (swB c w.2.1 (some t) w.2.2.line false && oS (asPure (swappedStores [t] w.2.1 (env0 c))) fun r=>r == none)) && chkE P g x c w.2.1
 | .asgTs b is xs,c,s=>oS (dAsg s) fun w=>oS (dOne w.1) fun t=>oS (dTup t) fun es=>oS (dTup w.2.1) fun vs=>(decide (xs.length≤1000) && (swB c w.2.1 (some t) w.2.2.line false && oS (asPure (swappedStores [t] w.2.1 (env0 c))) fun r=>match b with
   | false=>r == none && chkNm c is es.1
   | true=>oB r fun ns=>chkNn c is.reverse ns.reverse)) && chkEs P g xs c vs.1
 | .asg t x,c,s=>oS (dAsg s) fun w=>chkA P g c x w.1 w.2.1 w.2.2.line t
noncomputable def chkSs:List S→Ck→List Stmt→Bool
 | [],c,l=>l.isEmpty
 | s :: ss,c,l=>oS (dCons l) fun w=>chkS s c w.1 && chkSs ss c w.2
end
end
end
theorem sw_of {c:Ck} {e:PE} {t:Option PE} {l:Nat} {r:Bool} (h:swB c e t l r = true) (env:PEnv) (he:env.scope = c.sc):swapsWith e t l env = pure r:=oS_el h fun a w k=>by
 rw [← eq_of k]
 refine Eq.trans ?_ w
 delta swapsWith Env.blockKind Env.kindOf
 rw [he]; rfl
theorem ss_of {c:Ck} {ts:List PE} {e:PE} {r:Option (List Str)} (h:swappedStores ts e (env0 c) = .pure r) (env:PEnv) (he:env.scope = c.sc):swappedStores ts e env = pure r:=by
 refine Eq.trans ?_ h
 delta swappedStores Env.blockKind Env.kindOf
 rw [he]; rfl
section
variable {B:Bd} {u:Nat} {g:Gt} {c:Ck}
theorem snd_comp (h:Hs B u g) {C:C} {e:PE} (k:chkE B.P g (.comp C) c e = true):∃ (elt:PE) (sc:Scope) (p:Pos) (tg:Tg) (src:Src) (ifs:List X) (r:Mine.Internal.C) (target iter:PE) (ifsE:List PE) (rest:List PComp) (nm:List (Str × Nat)),
  e = .ListComp elt (⟨target,iter,ifsE,0⟩ :: rest) sc p∧C = .gen tg src ifs r∧CpOk c sc nm (tg.slots++r.slots)∧TSr B u c target src iter∧(∀ env x,foldedSetIterable iter env x = pure x)∧LoopSt B u ⟨nm,relS sc c.sc,ownC sc⟩ tg ifs r target elt ifsE rest:=by
 obtain ⟨⟨elt,gens,sc,p⟩,he,k⟩:=oS_of (o:=dComp e) k
 have r:=sndC h C c _ elt gens (and_r k)
 have K0:=cpB_of (and_l (and_l k))
 cases C with
 | elt x=>exact nomatch r.1 ▸ and_r (and_l k)
 | gen tg src ifs r'=>obtain ⟨target,iter,ifsE,rest,rfl,h1,h2,h3⟩:=r; exact ⟨elt,sc,p,tg,src,ifs,r',target,iter,ifsE,rest,_,he,rfl,K0,h1,h2,h3⟩
theorem sndA (h:Hs B u g) {x:X} {ts:List PE} {e:PE} {pos:Pos} {t:Tgt} (k:chkA B.P g c x ts e pos.line t = true):TS B u c (.asg t x) (fun env=>exec (.Assign ts e pos) env):=by
 have ke:=and_l k
 obtain ⟨t0,h0,k⟩:=oS_of (and_r k)
 rw [show ts = [t0] from h0]
 cases t with
 | name i =>
  obtain ⟨y,hy,k⟩:=oS_of k
  have hn:=isNm_of (and_l k)
  rcases Bool.or_eq_true_iff.mp (and_r k) with k3 | k3
  ·rw [show t0 = .Name y.1 y.2 from hy] at k3 ⊢
   exact ts_name hn (sndE h x c e ke).1 (sw_of k3)
  ·have k4:=and_r k3
   have go:∀ C,chkE B.P g (.comp C) c e = true→TS B u c (.asg (.name i) (.comp C)) (fun env=>exec (.Assign [t0] e pos) env)∧TS B u c (.asg (.name i) (.mut (.comp C))) (fun env=>exec (.Assign [t0] e pos) env):=fun C k=>by
    obtain ⟨elt,sc,p,tg,src,ifs,r,target,iter,ifsE,rest,nm,h1,h2,h3,h4,h5,h6⟩:=snd_comp h k
    rw [show t0 = .Name y.1 y.2 from hy,h1] at k4
    rw [show t0 = .Name y.1 y.2 from hy,h1,h2]
    exact ts_nameC hn h3 h4 h5 h6 (sw_of k4)
   rcases Bool.or_eq_true_iff.mp (and_l k3) with k5 | k5
   ·obtain ⟨C,_⟩:=Option.isSome_iff_exists.mp k5
    rw [C.2] at ke ⊢
    exact (go C.1 ke).1
   ·obtain ⟨C,_⟩:=Option.isSome_iff_exists.mp k5
    rw [C.2] at ke ⊢
    exact (go C.1 (and_r ke)).2
 | attr o f =>
  obtain ⟨a,ha,k⟩:=oS_of k
  have k1:=and_l (and_l k)
  have k3:=and_r (and_l k)
  rw [show t0 = .Attribute a.1 a.2.1 a.2.2 from ha] at k3 ⊢
  exact ts_attr h.F (List.contains_iff_mem.mp (and_l k1)) (and_l (and_r k1)) (eq_of (and_r (and_r k1))) (sndE h x c e ke).1 (sndE h o c a.1 (and_r k)).1 (sw_of k3)
 | item o j =>
  obtain ⟨a,ha,k⟩:=oS_of k
  have k3:=and_l k
  rw [show t0 = .Subscript a.1 a.2.1 a.2.2 from ha] at k3 ⊢
  exact ts_item (Nat.le_trans (by decide) h.hu) (sndE h x c e ke).1 (sndE h o c a.1 (and_l (and_r k))).1 (sndE h j c a.2.1 (and_r (and_r k))).1 (sw_of k3)
theorem snd_mth (h:Hs B u g) {m:Mth} {y x:X} {o e:PE} {apos cpos pos:Pos} (hb:plainBase o = true) (hl:(apos.endLine == cpos.line) = true) (hst:isStarred e = false) (h1:TE B u c y (fun env=>eval o env)) (h2:TE B u c x (fun env=>eval e env)) :
  TS B u c (.mth m y x) (fun env=>exec (.Expr (.Call (.Attribute o (mthN m) apos) [e] [] cpos) pos) env):=by
 cases m with
 | app=>exact ts_mth ok_app PySem.F.plainAttrs_list PySem.F.slot_list_append PySem.F.type_list_append hb hl hst h1 h2
 | ext=>exact ts_mth ok_ext PySem.F.plainAttrs_list PySem.F.slot_list_extend PySem.F.type_list_extend hb hl hst h1 h2
 | rem=>exact ts_mth ok_rem PySem.F.plainAttrs_list PySem.F.slot_list_remove PySem.F.type_list_remove hb hl hst h1 h2
mutual
theorem sndS (h:Hs B u g):∀ (x:S) (s:Stmt),chkS B.P g x c s = true→TS B u c x (fun env=>exec s env)
 | .raise,s,k=>ts_raise
 | .ret x,s,k=>oS_el (o:=dRet s) k fun w e k=>e ▸ ts_ret (sndE h x c w.1 k).1
 | .expr x,s,k=>oS_el (o:=dExp s) k fun w e k=>e ▸ ts_expr (sndE h x c w.1 (and_r k)).1 (sw_of (and_l k))
 | .ite x a b,s,k=>oS_el (o:=dSIf s) k fun w e k=>e ▸ ts_ite (sndE h x c w.1 (and_l k)).2.1 (sndSs h a w.2.1 (and_l (and_r k))) (sndSs h b w.2.2.1 (and_r (and_r k)))
 | .while_ x b,s,k=>oS_el (o:=dWhi s) k fun w e k=>e ▸ List.isEmpty_iff.mp (and_l k) ▸ ts_while (sndE h x c w.1 (and_l (and_r k))).2.1 (sndSs h b w.2.1 (and_r (and_r k)))
 | .for_ tg src b,s,k=>oS_el (o:=dFor s) k fun w e k=>e ▸ List.isEmpty_iff.mp (and_l (and_l k)) ▸ ts_for (sndSrc h src c w.1 w.2.1 (and_l (and_r k))) (noSet_of (and_l (and_r (and_l k)))) (chkTg_of (and_r (and_r (and_l k)))) (sndSs h b w.2.2.1 (and_r (and_r k)))
 | .mth m o x,s,k=>oS_el (o:=dExp s) k fun w e k=>oS_el k fun v e1 k=>oS_el k fun a e2 k=>oS_el k fun f e3 k=>by
  have k1:=and_l k
  rw [e,e1,e2,e3,eq_of (and_l k1)]
  exact snd_mth h (and_l (and_r k1)) (and_l (and_r (and_r k1))) (of_not (and_r (and_r (and_r k1)))) (sndE h o c a.1 (and_l (and_r k))).1 (sndE h x c f (and_r (and_r k))).1
 | .asgT is x,s,k=>oS_el (o:=dAsg s) k fun w e k=>oS_el k fun t e1 k=>oS_el k fun es e2 k=>oS_el (and_r (and_r (and_l k))) fun r hr k2=>by
  have k1:=and_l (and_r (and_l k))
  rw [e2] at k1 hr
  rw [e,e1,e2]
  exact ts_asgT (chkNm_of (and_l (and_l k))) (sndE h x c w.2.1 (and_r k)).1 (sw_of k1) fun env he=>eq_of k2 ▸ ss_of hr env he
 | .asgTs b is xs,s,k=>oS_el (o:=dAsg s) k fun w e k=>oS_el k fun t e1 k=>oS_el k fun es e2 k=>oS_el k fun vs e3 k=>oS_el (and_r (and_r (and_l k))) fun r hr k2=>by
  have k1:=and_l (and_r (and_l k))
  have l:=of_decide_eq_true (and_l (and_l k))
  have r':=sndEs h xs c vs.1 (and_r k)
  rw [e2,e3] at k1 hr
  rw [e,e1,e2,e3]
  cases b with
  | false=>exact ts_asgTs (names:=[]) (chkNm_of (and_r k2)) (r'.tes _) l (sw_of k1) fun env he=>eq_of (and_l k2) ▸ ss_of hr env he
  | true=>cases r with
   | none=>exact nomatch k2
   | some ns=>exact ts_asgTs (chkNn_of k2) (r'.tes _) l (sw_of k1) fun env he=>ss_of hr env he
 | .asg t x,s,k=>oS_el (o:=dAsg s) k fun w e k=>e ▸ sndA h k
theorem sndSs (h:Hs B u g):∀ (xs:List S) (l:List Stmt),chkSs B.P g xs c l = true→TSs B u c xs (fun env=>execs l env)
 | [],l,k=>List.isEmpty_iff.mp k ▸ tss_nil
 | s :: ss,l,k=>oS_el (o:=dCons l) k fun w e k=>e ▸ tss_cons (sndS h s w.1 (and_l k)) (sndSs h ss w.2 (and_r k))
end
end
end Mine.Internal
namespace Mine.Internal
open PySem PySem.W PyProof.Rows
noncomputable section
noncomputable def oE {α:Type} (o:Option α):Option { a:α // o = some a }:=match o with
 | some a=>some ⟨a,rfl⟩
 | none=>none
noncomputable def dFun (d:Data):Option { f:FuncData // d = .func f }:=if h:d.ctorIdx = 7 then PySem.Data.func.elim (motive:=fun d=>Option { f:FuncData // d = .func f }) d h (fun f=>some ⟨f,rfl⟩) else none
noncomputable def dSts (b:FuncBody):Option { l:List Stmt // b = .stmts l }:=match b with
 | .stmts l=>some ⟨l,rfl⟩
 | _=>none
noncomputable def chkFn (P:Prog) (g:Gt) (names:List (Str × Nat)) (d:FDef) (fd:FuncData):Bool:=oS (dSts fd.body) fun body =>
 (fd.closure.isEmpty && (decide (fd.globals = mainGlobals) && (decide (fd.builtins = builtinsNs) && (!fd.scope.isCoroutine && (!fd.scope.isGenerator && (fd.scope.kind == .function && ((fd.scope.names.all fun x=>x.2 != .free) && decide (fd.scope.names.map (·.1)).Nodup))))))) &&
 ((fd.params.posonlyargs.isEmpty && (fd.params.kwonlyargs.isEmpty && (fd.params.vararg.isNone && (fd.params.kwarg.isNone && (decide (fd.defaults = .none) &&
 (decide (fd.params.args.length = d.params) && (decide (fd.params.args.map (·.arg)).Nodup && (((fd.params.args.map (·.arg)).all fun x=>fd.scope.names.lookup x == some .local || fd.scope.names.lookup x == some .cell) &&
 (names.all fun q=>decide (d.params≤q.2) || (fd.params.args.map (·.arg))[q.2]? == some q.1))))))))) && chkSs P g d.body ⟨names,fd.scope,allOwn⟩ body)
noncomputable def chkAt (P:Prog) (g:Gt) (K:Frag) (names:List (Str × Nat)) (a:Addr) (d:FDef):Bool:=oS (oE (K.lookup a)) fun o=>oS (dFun o.data) fun fd=>codeIn K fd.code fd.qualname && chkFn P g names d fd
end
theorem lookup_zip {β:Type}:∀ {ns:List Str} {vs:List β} (n:Str),n∈ns→vs.length = ns.length→((ns.zip vs).lookup n).isSome = true
 | x :: ns,v :: vs,n,h,hl=>by
  rw [List.zip_cons_cons,List.lookup_cons]
  cases e:n == x with
  | true=>rfl
  | false=>exact lookup_zip n ((List.mem_cons.mp h).elim (fun h=>absurd h (beq_eq_false_iff_ne.mp e)) id) (Nat.succ.inj hl)
theorem fmap_same {α β:Type} {f g:α→Option β}:∀ {l:List α},(∀ x∈l,f x = g x)→l.filterMap f = l.filterMap g
 | [],_=>rfl
 | x :: l,h=>by rw [List.filterMap_cons,List.filterMap_cons,h x (List.mem_cons_self ..),fmap_same fun y hy=>h y (List.mem_cons_of_mem _ hy)]
theorem zip_lookup {β:Type}:∀ {ns:List Str} {vs:List β},ns.Nodup→vs.length = ns.length→(ns.filterMap fun n=>((ns.zip vs).lookup n).map (n,·)) = ns.zip vs
 | [],[],_,_=>rfl
 | x :: ns,v :: vs,hn,hl=>by
  have hn:=List.nodup_cons.mp hn
  rw [List.zip_cons_cons,List.filterMap_cons,List.lookup_cons,BEq.rfl]
  refine congrArg ((x,v) :: ·) (Eq.trans (fmap_same fun y hy=>?_) (zip_lookup hn.2 (Nat.succ.inj hl)))
  rw [List.lookup_cons,show (y == x) = false from beq_eq_false_iff_ne.mpr fun e=>hn.1 (e ▸ hy)]
theorem bind_at0 {name qual:Str} {ar:List Arg} {ka:List (Option PE)} {dfl:List PE} {bd:FuncBody} {sc:Scope} {gl:Addr} {cl:List (Str × Addr)} {kd doc pm code ct:PV} {an:Option Addr} {bi:Addr} (hn:(ar.map (·.arg)).Nodup) {vals:List PV} (hl:vals.length = (ar.map (·.arg)).length) :
  bindArgs ⟨name,qual,⟨[],ar,none,[],ka,none,dfl⟩,bd,sc,gl,cl,.none,kd,doc,pm,an,code,ct,bi⟩ ⟨vals,[]⟩ = pure ((ar.map (·.arg)).zip vals):=by
 have e1:(decide (vals.length > (ar.map (·.arg)).length) && true) = true→False:=by rw [hl,Bool.and_true]; exact fun h=>Nat.lt_irrefl _ (of_decide_eq_true h)
 have hm:((ar.map (·.arg)).filter fun n=>(((ar.map (·.arg)).zip vals).lookup n).isNone) = []:=List.filter_eq_nil_iff.mpr fun n h e=>nomatch (Option.isNone_iff_eq_none.mp e ▸ lookup_zip n h hl:(none:Option PV).isSome = true)
 have e2:∀ k,(!(((ar.map (·.arg)).take ((ar.map (·.arg)).length - (List.drop k ([]:List PV)).length)).filter fun n=>(((ar.map (·.arg)).zip vals).lookup n).isNone).isEmpty) = true→False:=fun k=>by
  rw [List.drop_nil,List.length_nil,Nat.sub_zero,List.take_length,hm]; exact Bool.false_ne_true
 have e3:∀ (l:List Str) (k:Nat),l.zip (List.drop k ([]:List PV)) = []:=fun l k=>by rw [List.drop_nil,List.zip_nil_right]
 refine Eq.trans (if_neg e1) (Eq.trans (if_neg (e2 _)) ?_)
 show (forIn (List.zip (List.drop _ _) (List.drop _ ([]:List PV))) _ _ >>= _) = _
 rw [e3]
 exact congrArg (Sem.pure (α:=List (Str × PV))) ((congrArg (List.filterMap fun n=>(((ar.map (·.arg)).zip vals).lookup n).map (n,·)) (List.append_nil (ar.map (·.arg)))).trans (zip_lookup hn hl))
theorem bind_is {fd:FuncData} (h1:fd.params.posonlyargs = []) (h2:fd.params.kwonlyargs = []) (h3:fd.params.vararg = none) (h4:fd.params.kwarg = none) (h5:fd.defaults = .none)
  (hn:(fd.params.args.map (·.arg)).Nodup) {vals:List PV} (hl:vals.length = fd.params.args.length):bindArgs fd ⟨vals,[]⟩ = pure ((fd.params.args.map (·.arg)).zip vals):=by
 obtain ⟨_,_,⟨po,ar,va,ko,_,kw,_⟩,_,_,_,_,df,_,_,_,_,_,_,_⟩:=fd
 subst h1 h2 h3 h4 h5
 exact bind_at0 hn (hl.trans (List.length_map ..).symm)
section
variable {B:Bd} {u:Nat} {g:Gt}
theorem fn_at (h:Hs B u g) (hu:u≤90) {f:Nat} {d:FDef} {names:List (Str × Nat)} (k:chkAt B.P g B.D.K names (B.D.fa f) d = true):FnGo B f d:=by
 obtain ⟨o,ho,k⟩:=oS_of k
 obtain ⟨fd,hd,k⟩:=oS_of k
 obtain ⟨body,hb,k2⟩:=oS_of (and_r k)
 have a:=and_l k2
 have b:=and_l (and_r k2)
 have a3:=and_r (and_r (and_r a))
 have b3:=and_r (and_r (and_r b))
 have b6:=and_r (and_r b3)
 have b8:=and_r (and_r b6)
 have nf:=List.all_eq_true.mp (and_l (and_r (and_r (and_r a3))))
 have pk:=List.all_eq_true.mp (and_l b8)
 have nm:=List.all_eq_true.mp (and_r b8)
 have pl:fd.params.args.length = d.params:=of_decide_eq_true (and_l b6)
 have pn:(fd.params.args.map (·.arg)).Nodup:=of_decide_eq_true (and_l (and_r b6))
 exact call_fn h.F (u:=u) (names:=names) (ps:=fd.params.args.map (·.arg)) (fd:=fd) (body:=body) ⟨hu,⟨o,ho,hd⟩,and_l k,hb,List.isEmpty_iff.mp (and_l a),of_decide_eq_true (and_l (and_r a)),of_decide_eq_true (and_l (and_r (and_r a))),of_not (and_l a3),of_not (and_l (and_r a3)),eq_of (and_l (and_r (and_r a3))),
  fun x e=>absurd rfl (bne_iff_ne.mp (nf _ (mem_of_lookup e))),of_decide_eq_true (and_r (and_r (and_r (and_r a3)))),by rw [List.length_map,pl],pn,fun x hx=>(Bool.or_eq_true_iff.mp (pk x hx)).imp eq_of eq_of,
  fun vals hv=>bind_is (List.isEmpty_iff.mp (and_l b)) (List.isEmpty_iff.mp (and_l (and_r b))) (Option.isNone_iff_eq_none.mp (and_l (and_r (and_r b)))) (Option.isNone_iff_eq_none.mp (and_l b3)) (of_decide_eq_true (and_l (and_r b3))) pn (by rw [hv,pl]),
  fun x i e=>(Bool.or_eq_true_iff.mp (nm _ (mem_of_lookup e))).imp of_decide_eq_true eq_of,sndSs h d.body body (and_r (and_r k2))⟩
end
end Mine.Internal
namespace Mine.Internal
open PySem PySem.W PyProof.Rows
noncomputable section
noncomputable def clsB (K:Frag) (C:Addr):Bool :=
 findIn K (.ref C) "__getattribute__" == some (some (.builtin "object.__getattribute__")) && (findIn K (.ref C) "__getattr__" == some none && (findIn K (.ref C) "__setattr__" == some (some (.builtin "object.__setattr__")) &&
  (plainOver K C && ((clsIn K C).any (·.hasDict) && ((clsIn K C).isSome && (makesIn K C && keepIn K (.ref C)))))))
noncomputable def factB (K:Frag) (P:Prog) (g:Gt) (fa ca:Nat→Addr) (nc:Nat) (live:List Nat):Bool :=
 (g.fns.all fun p=>nsIn K mainGlobals p.1 == some (some (.ref (fa p.2)))) && ((live.all fun i=>keepIn K (.ref (fa i))) && ((g.clss.all fun p=>nsIn K mainGlobals p.1 == some (some (.ref (ca p.2))) && decide (p.2 < nc)) &&
 (((List.range nc).all fun i=>clsB K (ca i)) && ((g.flds.all fun x=>(List.range nc).all fun i=>fldIn K (ca i) x) &&
 ((g.mths.all fun x=>(List.range nc).all fun i=>(P.meth i (encS x)).all fun f=>findIn K (.ref (ca i)) x == some (some (.ref (fa f))) && (typeIn K (.ref (fa f)) == some (.type "function") && (P.fn f).isSome)) &&
 ((List.range nc).all fun i=>(P.init i).all fun f=>findIn K (.ref (ca i)) "__init__" == some (some (.ref (fa f))) && typeIn K (.ref (fa f)) == some (.type "function")))))))
noncomputable def vRef (v:PV):Option { a:Addr // v = .ref a }:=if h:v.ctorIdx = 10 then PySem.Value.ref.elim (motive:=fun v=>Option { a:Addr // v = .ref a }) v h (fun a=>some ⟨a,rfl⟩) else none
noncomputable def vInt (v:PV):Option { w:Int × Tok // v = .int w.1 w.2 }:=if h:v.ctorIdx = 4 then PySem.Value.int.elim (motive:=fun v=>Option { w:Int × Tok // v = .int w.1 w.2 }) v h (fun i t=>some ⟨(i,t),rfl⟩) else none
noncomputable def vStr (v:PV):Option { w:Str × Tok // v = .str w.1 w.2 }:=if h:v.ctorIdx = 6 then PySem.Value.str.elim (motive:=fun v=>Option { w:Str × Tok // v = .str w.1 w.2 }) v h (fun i t=>some ⟨(i,t),rfl⟩) else none
noncomputable def dSeq (d:Data):Option { w:Array PV × Nat // d = .seq w.1 w.2 }:=if h:d.ctorIdx = 2 then PySem.Data.seq.elim (motive:=fun d=>Option { w:Array PV × Nat // d = .seq w.1 w.2 }) d h (fun a n=>some ⟨(a,n),rfl⟩) else none
mutual
noncomputable def rvB (K:Frag):V→PV→Bool
 | .none,v=>v == .none
 | .bool b,v=>v == .bool b
 | .int i,v=>oS (vInt v) fun w=>decide (w.1 = i)
 | .str z,v=>oS (vStr v) fun w=>strOk w.1 && encS w.1 == z
 | .tup l,v=>oS (vRef v) fun a=>oS (oE (K.lookup a)) fun o=>oS (dSeq o.data) fun w=>(o.cls == .type "tuple" && (o.dict.isNone && o.slots.isEmpty)) && rvsB K l w.1.toList
 | .list l,v=>oS (vRef v) fun a=>oS (oE (K.lookup a)) fun o=>oS (dSeq o.data) fun w=>(o.cls == .type "list" && (o.dict.isNone && o.slots.isEmpty)) && rvsB K l w.1.toList
 | _,_=>false
noncomputable def rvsB (K:Frag):List V→List PV→Bool
 | [],vs=>vs.isEmpty
 | d :: r,vs=>oS (dCons vs) fun w=>rvB K d w.1 && rvsB K r w.2
end
end
theorem clsB_of {K:Frag} {C:Addr} (h:clsB K C = true):ClsOk K C:=by
 have h3:=and_r (and_r (and_r h))
 exact ⟨eq_of (and_l h),eq_of (and_l (and_r h)),eq_of (and_l (and_r (and_r h))),and_l h3,and_l (and_r h3),and_l (and_r (and_r h3)),and_l (and_r (and_r (and_r h3))),and_r (and_r (and_r (and_r h3)))⟩
theorem facts_of {B:Bd} {g:Gt} {live:List Nat} (X:B.D.K.In B.D.base) (lim:B.D.base.NoLimit) (hl:∀ i,(B.P.fn i).isSome = true→i∈live) (hm:∀ i k f,B.P.meth i k = some f→i < B.D.nc)
  (k:factB B.D.K B.P g B.D.fa B.D.ca B.D.nc live = true) (co:∀ x k,g.consts.lookup x = some k→∀ d,B.P.glob k = some d→∃ v,nsIn B.D.K mainGlobals x = some (some v)∧∀ N,Sm B.D N→Val B N d v):Facts B g:=by
 have k3:=and_r (and_r (and_r k))
 have al:∀ {α:Type} {l:List α} {f:α→Bool},l.all f = true→∀ a∈l,f a = true:=fun h=>List.all_eq_true.mp h
 have alo:∀ {o:Option Nat} {f:Nat→Bool},o.all f = true→∀ a,o = some a→f a = true:=fun h a e=>by subst e; exact h
 exact ⟨X,lim,fun x i h=>eq_of (al (and_l k) _ (mem_of_lookup h)),fun i h=>al (and_l (and_r k)) i (hl i h),fun x i h=>have w:=al (and_l (and_r (and_r k))) _ (mem_of_lookup h); ⟨eq_of (and_l w),of_decide_eq_true (and_r w)⟩,
  fun i h=>clsB_of (al (and_l k3) i (List.mem_range.mpr h)),fun x hx i hi=>al (al (and_l (and_r k3)) x hx) i (List.mem_range.mpr hi),
  fun x hx i f hf=>have hi:=hm i _ f hf
   have w:=alo (al (al (and_l (and_r (and_r k3))) x hx) i (List.mem_range.mpr hi)) f hf
   ⟨hi,eq_of (and_l w),eq_of (and_l (and_r w)),and_r (and_r w)⟩,
  fun i f hf hi=>have w:=alo (al (and_r (and_r (and_r k3))) i (List.mem_range.mpr hi)) f hf
   ⟨eq_of (and_l w),eq_of (and_r w)⟩,co⟩
theorem seqO_of {o:Obj} {T:String} {vs:Array PV} {n:Nat} (hw:o.data = .seq vs n) (e1:(o.cls == .type T && (o.dict.isNone && o.slots.isEmpty)) = true):o = { cls:=.type T,dict:=none,data:=.seq vs n,slots:=#[] }:=by
 obtain ⟨c,d,dt,sl⟩:=o
 rw [show c = .type T from eq_of (and_l e1),show d = none from Option.isNone_iff_eq_none.mp (and_l (and_r e1)),show dt = .seq vs n from hw,show sl = #[] from Array.isEmpty_iff.mp (and_r (and_r e1))]
section
variable {D:Wd} {N:Nx}
mutual
theorem rvB_of (X:D.K.In D.base) (m:Sm D N):∀ (d:V) (v:PV),rvB D.K d v = true→RV D N d v
 | .none,v,e=>eq_of e
 | .bool b,v,e=>eq_of e
 | .int i,v,e=>oS_el (o:=vInt v) e fun w h e=>⟨w.2,of_decide_eq_true e ▸ h⟩
 | .str z,v,e=>oS_el (o:=vStr v) e fun w h e=>⟨w.1,w.2,h,and_l e,eq_of (and_r e)⟩
 | .tup l,v,e=>oS_el (o:=vRef v) e fun a h e=>oS_el e fun o ho e=>oS_el e fun w hw e=>by
  have ho:=X a o ho
  refine ⟨a,w.1,h,m.cs a (by rw [ho]; rfl),⟨w.2,(m.gi a o ho).trans (congrArg some (seqO_of hw (and_l e)))⟩,rvsB_of X m l _ (and_r e)⟩
 | .list l,v,e=>oS_el (o:=vRef v) e fun a h e=>oS_el e fun o ho e=>oS_el e fun w hw e=>by
  have ho:=X a o ho
  refine ⟨a,w.1,h,m.cs a (by rw [ho]; rfl),⟨w.2,(m.gi a o ho).trans (congrArg some (seqO_of hw (and_l e)))⟩,rvsB_of X m l _ (and_r e)⟩
 | .dict _,v,e=>absurd e Bool.false_ne_true
 | .loc _,v,e=>absurd e Bool.false_ne_true
theorem rvsB_of (X:D.K.In D.base) (m:Sm D N):∀ (d:List V) (v:List PV),rvsB D.K d v = true→RVs D N d v
 | [],v,e=>List.isEmpty_iff.mp e
 | d :: r,v,e=>oS_el (o:=dCons v) e fun w h e=>⟨w.1,w.2,h,rvB_of X m d _ (and_l e),rvsB_of X m r _ (and_r e)⟩
end
noncomputable def mkEs (p:Params) (ts:List (Str × Tok × PV)):List DictEntry:=ts.map fun t=>⟨PyData.keyHash p t.1,.str t.1 t.2.1,t.2.2⟩
noncomputable def rvdB (K:Frag) (l:List (Nat × V)) (ts:List (Str × Tok × PV)):Bool:=ts.length == l.length && (l.zip ts).all fun q=>strOk q.2.1 && (encS q.2.1 == q.1.1 && rvB K q.1.2 q.2.2.2)
theorem rvdB_of (X:D.K.In D.base) (m:Sm D N):∀ (l:List (Nat × V)) (ts:List (Str × Tok × PV)),rvdB D.K l ts = true→RVd D N (l.map fun q=>(.str q.1,q.2)) (ts.map fun t=>(t.1,t.2.2))
 | [],[],e=>rfl
 | [],_ :: _,e=>nomatch and_l e
 | _ :: _,[],e=>nomatch and_l e
 | q :: l,t :: ts,e=>have w:=and_r e
  ⟨t.1,t.2.2,_,rfl,⟨by rw [eq_of (and_l (and_r (and_l w)))],and_l (and_l w)⟩,rvB_of X m q.2 _ (and_r (and_r (and_l w))),rvdB_of X m l ts (by
   show (ts.length == l.length && _) = true
   rw [show (ts.length == l.length) = true from beq_iff_eq.mpr (Nat.succ.inj (eq_of (and_l e)))]; exact and_r w)⟩
theorem pairs_mk {p:Params}:∀ ts:List (Str × Tok × PV),Pairs (strKind D.prog D.w) (mkEs p ts) (ts.map fun t=>(t.1,t.2.2))
 | []=>.nil
 | t :: ts=>.cons (strKind_is D.prog D.w t.1 t.2.1) rfl (pairs_mk ts)
theorem rv_dict (X:D.K.In D.base) (m:Sm D N) {a n:Nat} {ts:List (Str × Tok × PV)} {l:List (Nat × V)} (ho:D.K.lookup a = some ⟨.type "dict",none,.dict (mkEs D.w.params ts).toArray n,#[]⟩) (ha:1 < a) (hn:(ts.map (·.1)).Nodup) (e:rvdB D.K l ts = true) :
  RV D N (.dict (l.map fun q=>(.str q.1,q.2))) (.ref a):=by
 have ho:=X _ _ ho
 refine ⟨a,ts.map fun t=>(t.1,t.2.2),rfl,m.cs a (by rw [ho]; rfl),⟨ha,_,_,_,m.gi a _ ho,⟨rfl,rfl,rfl⟩,rfl,fun en he=>?_,pairs_mk ts,by rw [List.map_map]; exact hn⟩,rvdB_of X m l ts e⟩
 obtain ⟨t,ht,rfl⟩:=List.mem_map.mp (List.mem_toArray.mp he)
 exact ⟨t.1,strKind_is D.prog D.w t.1 t.2.1,rfl⟩
end
theorem bi_of {K:Frag} {mb:Str→Option PV} {h:Heap} {ob:Obj} (hob:h.get? builtinsNs = some ob) (hb:h.Ns builtinsNs mb) {x:Str} {v:PV} (e:mb x = some v):nsIn ((builtinsNs,ob) :: K) builtinsNs x = some (some v):=by
 obtain ⟨o,es,ep,ho,hd,_,hf⟩:=hb
 rw [hob] at ho
 cases ho
 have hx:=hf x
 rw [e] at hx
 delta nsFind findBy at hx
 rw [← Array.find?_toList] at hx
 delta nsIn
 rw [List.lookup_cons,BEq.rfl]
 obtain ⟨oc,od,odt,osl⟩:=ob
 cases hd
 dsimp only
 cases e1:es.toList.find? (fun d=>d.key.isStr x) with
 | some d=>rw [e1] at hx; exact congrArg some hx
 | none=>rw [e1] at hx; cases hx
end Mine.Internal
namespace Mine.Internal
open PySem PySem.W PyProof.Rows
section
variable {B:Bd} {g:Gt}
theorem super_go {ps:List Str} {f f2 c1:Nat} {d:FDef} {fd:FuncData} {names:List (Str × Nat)} {q0 q1 ap cp pe:Pos} {es:List PE} {rest:List Stmt} {xs:List X} {ss:List S} {cc cda:Addr} {oc ocd:Obj} {ar:Arg} {cd:ClassData} {vs0:Array PV} {file:Str} {tf:Tok} (h:Hs B 40 g)
  (hK:∃ o,B.D.K.lookup (B.D.fa f) = some o∧o.data = .func fd) (hcode:codeIn B.D.K fd.code fd.qualname = true) (hb:fd.body = .stmts (.Expr (.Call (.Attribute (.Call (.Name "super" q0) [] [] q1) "__init__" ap) es [] cp) pe :: rest))
  (hd:d.body = .expr (.meth (.var 0) 0 xs) :: ss) (hln:(ap.endLine == cp.line) = true) (hel:es.length < 29) (hes:chkEs B.P g xs ⟨names,fd.scope,allOwn⟩ es = true) (hss:chkSs B.P g ss ⟨names,fd.scope,allOwn⟩ rest = true) (hclo:fd.closure = [(("__class__":Str),cc)])
  (hgl:fd.globals = mainGlobals) (hbi:fd.builtins = builtinsNs) (hco:fd.scope.isCoroutine = false) (hgen:fd.scope.isGenerator = false) (hk:fd.scope.kind = .function) (hnc:∀ x∈fd.scope.names,x.2 ≠ .cell) (hfr:∀ x∈fd.scope.names,x.2 = .free→x.1 = ("__class__":Str))
  (hpl:ps.length = d.params) (hpn:ps.Nodup) (hlo:∀ x∈ps,fd.scope.names.lookup x = some .local) (hbind:∀ vals:List PV,vals.length = d.params→bindArgs fd ⟨vals,[]⟩ = pure (ps.zip vals))
  (hpo:fd.params.posonlyargs = []) (hnm:∀ x i,names.lookup x = some i→d.params≤i ∨ ps[i]? = some x) (har:fd.params.args.head? = some ar) (hmp:ar.arg∈ps) (hv0:names.lookup ar.arg = some 0) (hks:fd.scope.names.lookup ("super":Str) = some .globalImplicit) (hkc:fd.scope.names.lookup ("__class__":Str) = some .free)
  (hm:∀ i f',B.P.meth i 0 = some f'→i = c1∧f' = f2) (hcc:B.D.K.lookup cc = some oc) (hoc:oc.data = .cell (some (.ref (B.D.ca c1)))) (hcl:clsIn B.D.K (B.D.ca c1) = some cd) (hmro:mroIn B.D.K (B.D.ca c1) (.ref (B.D.ca c1)) = some true)
  (hal:alongIn B.D.K "__init__" ((cd.mro.dropWhile (· != .ref (B.D.ca c1))).drop 1) = some (some (.ref (B.D.fa f2)))) (hty:typeIn B.D.K (.ref (B.D.fa f2)) = some (.type "function")) (hfn:fnIn B.D.K (B.D.fa f2) = true) (hno:nsIn B.D.K cStatics "thirdparty.any" = some none)
  (hg:nsIn B.D.K mainGlobals "super" = some none) (hbt:nsIn B.D.K builtinsNs "super" = some (some (.type "super"))) (hcd:fd.code = .ref cda) (hcv:B.D.K.lookup cda = some ocd) (hcw:ocd.data = .fields vs0) (hv2:vs0[2]? = some (.str file tf)) (hfile:((B.D.prog.main.file:Str) == file) = true)
  (htop:(B.D.prog.main.scope.names.lookup ("super":Str)).isSome = false):FnGo B f d:=fun A N ds vs K R hl q rm sm rs z=>by
 obtain ⟨of0,hK,hdt⟩:=hK
 have X:=h.F.x sm
 have hvl:vs.length = d.params:=(RVs_length rs).trans hl
 have hal':ps.length = d.params:=hpl
 have hzip:(ps.zip vs).map (·.1) = ps:=List.map_fst_zip (Nat.le_of_eq (hal'.trans hvl.symm))
 have mem_ps:∀ x∈ps.zip vs,x.1∈ps:=fun x hx=>hzip ▸ List.mem_map.mpr ⟨x,hx,rfl⟩
 refine ks_codeAny_call_defAt (o:=of0) (fd:=fd) (binds:=ps.zip vs) rm.lt (X _ _ hK) hdt (h.F.lim.keeps sm.gi) (codeRec_of X hcode) hb (BindsTo.of_eq (hbind vs hvl)) hnc (fun x hx=>hlo _ (mem_ps x hx)) (fun h₀ hns hk₀=>?_) hco hgen hk
 have hcells:(callEnv fd N.s.heap.objs.size (B.D.fa f)).cells = fd.closure:=rfl
 have hscope:(callEnv fd N.s.heap.objs.size (B.D.fa f)).scope = fd.scope:=rfl
 have hloc:(callEnv fd N.s.heap.objs.size (B.D.fa f)).locals = N.s.heap.objs.size:=rfl
 have hframe:(callEnv fd N.s.heap.objs.size (B.D.fa f)).frame = some N.s.heap.objs.size:=rfl
 have hglob:(callEnv fd N.s.heap.objs.size (B.D.fa f)).globals = fd.globals:=rfl
 have hbuil:(callEnv fd N.s.heap.objs.size (B.D.fa f)).builtins = fd.builtins:=rfl
 have hfunc:(callEnv fd N.s.heap.objs.size (B.D.fa f)).func = some (B.D.fa f):=rfl
 have hcode':(callEnv fd N.s.heap.objs.size (B.D.fa f)).code = fd.code:=rfl
 generalize callEnv fd N.s.heap.objs.size (B.D.fa f) = env at *
 have hkd:∀ x,env.kindOf x = fd.scope.names.lookup x:=fun x=>congrArg (fun s:Scope=>s.names.lookup x) hscope
 have hkind:env.scope.kind = .function:=(congrArg Scope.kind hscope).trans hk
 have hint:interactive env = false:=by delta interactive; rw [hkind]; rfl
 have m:More N { N.s with heap:=h₀,toks:=N.s.toks + (ps.zip vs).length }:=⟨hk₀,rfl,rfl⟩
 have af:=m.aft sm
 have nl:¬ N.has env.locals:=by rw [hloc]; exact no_new
 have pl:Pv (N.at { N.s with heap:=h₀,toks:=N.s.toks + (ps.zip vs).length }) env.locals:=(Ns_has hns).elim fun o e=>m.pv sm nl (by rw [hloc]; exact e)
 have X₀:B.D.K.In h₀:=h.F.x (B:=B) (N:=N.at _) af.sm
 have bse:∀ {a o},B.D.K.lookup a = some o→¬ chg N.μ a:=fun {a o} e ⟨p,hp,e2⟩=>nomatch (sm.new p hp).symm.trans ((congrArg B.D.base.get? e2).trans (h.F.X a o e))
 have gs:Gs B 40 ⟨names,fd.scope,allOwn⟩ ⟨env,A.deeper env,enter d ds⟩ (N.at { N.s with heap:=h₀,toks:=N.s.toks + (ps.zip vs).length }):=by
  refine ⟨⟨rm.deep (by decide),⟨hscope,hkind,hglob.trans hgl,hbuil.trans hbi,⟨pl.lt,pl.nc⟩,fun q hq=>?_,by rw [hframe]; rfl,fun x hx=>?_⟩,fun x i d' h1' h2' h3'=>?_,af.sm⟩,
   fun b f=>f.elim (fun e=>by rw [e]; exact pl) fun ⟨x,e,_⟩=>absurd rfl (hnc _ (mem_of_lookup e.2)),⟨_,by rw [hloc]; exact hns⟩,fun x _ hx=>absurd rfl (hnc _ (mem_of_lookup hx)),fun x y b _ hx=>absurd rfl (hnc _ (mem_of_lookup hx))⟩
  ·rw [hcells,hclo,List.mem_singleton] at hq
   rw [hq]
   exact ⟨has_of (X₀ _ _ hcc),bse hcc⟩
  ·rw [hcells,hclo]
   refine hx.elim (fun hx=>absurd rfl (hnc _ (mem_of_lookup hx))) fun hx=>?_
   rw [show x = ("__class__":Str) from hfr _ (mem_of_lookup hx) rfl]; rfl
  ·have hd:=enter_get h3'
   have hi:i < d.params:=hl ▸ (List.getElem?_eq_some_iff.mp hd).1
   have hpx:=(hnm x i h1').resolve_left (Nat.not_le.mpr hi)
   obtain ⟨v,hv,rv⟩:=RVs_get rs hd
   have hm:(x,v)∈ps.zip vs:=List.mem_of_getElem? (i:=i) (by rw [List.getElem?_zip_eq_some]; exact ⟨hpx,hv⟩)
   exact ⟨v,.inl ⟨(hkd x).trans (hlo x (mem_ps _ hm)),_,by rw [hloc]; exact hns,lookup_of (by rw [List.map_reverse,hzip]; exact ((List.reverse_perm _).nodup_iff).mpr hpn) (List.mem_reverse.mpr hm)⟩,RV_le af.le _ _ rv⟩
 have nF:∀ b,Fr ⟨names,fd.scope,allOwn⟩ env b→¬ N.has b:=fun b f=>f.elim (fun e=>by rw [e]; exact nl) fun ⟨x,e,_⟩=>absurd rfl (hnc _ (mem_of_lookup e.2))
 have done:∀ {Y},Aft B.D (N.at { N.s with heap:=h₀,toks:=N.s.toks + (ps.zip vs).length }) (Fr ⟨names,fd.scope,allOwn⟩ env) Y→Aft B.D N noA Y:=fun a=>(af.up.trans a).hide nF
 rw [hd] at q
 -- self
 refine oK_of (show oK (((enter d ds)[0]?).bind id) _ from q) fun dself e0 q=>?_
 have e0:=var_of e0
 have hlar:fd.scope.names.lookup ar.arg = some .local:=hlo _ hmp
 obtain ⟨v0,at0,r0⟩:=gs.go.fe ar.arg 0 dself hv0 (by rw [hkd,hlar]; rfl) e0
 cases dself with
 | loc k =>
  obtain ⟨p,rfl,hp⟩:=id r0
  refine (st_of (f:=fun o=>oK (methO B.P k 0 o) _) gs.go.sm hp q id).elim fun o w=>?_
  obtain ⟨q,ho,hst⟩:=w
  cases o with
  | inst ci fs =>
   cases eg:getA fs 0 with
   | some _=>rw [methO,eg] at q; exact False.elim q
   | none =>
   rw [methO,eg] at q
   refine oK_of (oK_map q) fun f' e2 q=>?_
   obtain ⟨rfl,rfl⟩:=hm _ _ e2
   obtain ⟨od,mm,I⟩:=ins_at (B:=B) ho
   obtain ⟨mL,nsL,emL⟩:∃ mm,h₀.Ns env.locals mm∧mm ar.arg = some (.ref p.1):=at0.elim (fun w=>w.2) fun w=>w.1.elim (fun e=>nomatch (e.symm.trans ((hkd _).trans hlar))) fun e=>nomatch (e.symm.trans ((hkd _).trans hlar))
   obtain ⟨oD,hD1,hD2⟩:∃ oD,h₀.get? (B.D.ca ci) = some oD∧oD.data = .cls cd:=by
    have:=hcl
    unfold clsIn at this
    split at this
    ·rename_i ho; cases this; exact ⟨_,X₀ _ _ ho,rfl⟩
    ·cases this
   have as:=sndEs h xs ⟨names,fd.scope,allOwn⟩ es hes
   refine ks_wpAt_execs_cons (ks_wpAt_Expr_any (ks_wpAt_MethodCall (ks_wpAt_super_base (fd:=fd) (ar:=ar) ((hkd _).trans hks) ((hkd _).trans hkc) (by decide +kernel) hfunc (X₀ _ _ hK) hdt (by rw [hpo]; exact har) (hcode'.trans hcd) (X₀ _ _ hcv) hcw hv2 hfile htop ?_) (eval_methB hln hel as.2)) hint rfl)
   refine load_blt (G:=⟨env,A.deeper env,enter d ds⟩) (N:=N.at { N.s with heap:=h₀,toks:=N.s.toks + (ps.zip vs).length }) gs.go h.F hks hg hbt ⟨rfl,?_⟩
   refine wpAny_loadName_free hkind ((hkd _).trans hkc) (by rw [hcells,hclo]; rfl) ⟨_,X₀ _ _ hcc,hoc⟩ ?_
   refine wpAny_loadName_local hkind ((hkd _).trans hlar) nsL emL ?_
   refine ks_wpAny_isType_cls hD1 hD2 ⟨rfl,?_⟩
   refine ks_wpAny_call_super hD1 hD2 I.at_.at_ I.at_.cls (fun c e=>?_) (looks_mroIn X₀ hmro) (fun h1 e1 k1=>?_)
   ·have:=I.at_.no
    unfold notCls at this
    rw [e] at this
    exact Bool.noConfusion this
   have m1:More (N.at { N.s with heap:=h₀,toks:=N.s.toks + (ps.zip vs).length }) { N.s with heap:=h1.push (methodObj (.ref (B.D.fa f')) (.ref p.1)),toks:=N.s.toks + (ps.zip vs).length + 1 }:=⟨fun b o e=>Heap.get?_push_of_some _ (k1 b o e),rfl,rfl⟩
   have X1:=X₀.keeps k1
   obtain ⟨off,hof,hofc⟩:∃ of,h1.get? (B.D.fa f') = some of∧of.cls = .type "function":=by
    have ht':(B.D.K.lookup (B.D.fa f')).map (·.cls) = some (.type "function"):=hty
    cases z:B.D.K.lookup (B.D.fa f') with
    | none=>rw [z] at ht'; cases ht'
    | some of=>rw [z] at ht'; exact ⟨of,X1 _ _ z,Option.some.inj ht'⟩
   have hne:p.1 ≠ B.D.ca ci:=fun e=>by
    have h2:=I.at_.at_
    rw [e] at h2
    have h3:oD = _:=Option.some.inj (hD1.symm.trans h2)
    have:=I.at_.no
    unfold notCls at this
    rw [← h3,hD2] at this
    exact Bool.noConfusion this
   refine ks_wpAny_getMethod_super e1 (looks_opaque X1 hno) (l₀:=cd.mro) (fun A Q E s k q=>wpAny_bind ((looks_clsIn X1 hcl) A _ E s k (wpAny_pure q))) rfl X1 hal hof hofc hne (by decide +kernel) ?_
   have n1:¬ (N.at { N.s with heap:=h₀,toks:=N.s.toks + (ps.zip vs).length }).has h1.objs.size:=fun hh=>(Option.isSome_iff_exists.mp hh).elim fun o e=>Nat.lt_irrefl _ (Heap.lt_size (k1 _ _ e))
   have hq0:(h1.push (methodObj (.ref (B.D.fa f')) (.ref p.1))).get? h1.objs.size = some (methodObj (.ref (B.D.fa f')) (.ref p.1)):=Heap.get?_push_size _ rfl
   have a1:=m1.aft gs.go.sm
   have pq:=m1.pv gs.go.sm n1 hq0
   refine callWith_gen (G:=⟨env,A.deeper env,enter d ds⟩) (N:=N.at { N.s with heap:=h1.push (methodObj (.ref (B.D.fa f')) (.ref p.1)),toks:=N.s.toks + (ps.zip vs).length + 1 }) (Pp:=MethP B.D.K h1.objs.size (B.D.fa f') (.ref p.1)) (keeps_M hfn) as.2 ?_
   refine as.tes cp ⟨env,A.deeper env,enter d ds⟩ (N.at { N.s with heap:=h1.push (methodObj (.ref (B.D.fa f')) (.ref p.1)),toks:=N.s.toks + (ps.zip vs).length + 1 }) _ _ _ (gs.go.to a1) q fun ds2 Y vs3 q2 _ a3 rv3=>?_
   have hq3:=a3.old pq.nc hq0
   refine ⟨⟨hq3,h.F.x a3.sm⟩,wpAny_call (method_call hq3 ((h.T (A.deeper env) Y _ _ _ _ q2 gs.go.rm.zero a3.sm ⟨_,_,rfl,Val.on a3 (Val.on a1 r0),rv3⟩).2 _ fun d4 Z v4 q4 a4 rv4=>?_))⟩
   have a14:=(a1.trans a3).trans a4
   exact wpAt_of_wpAny (sndSs h ss rest hss ⟨env,A.deeper env,enter d ds⟩ Z _ _ _ (gs.to a14) q4 ⟨fun ρ Y k a _=>z .none Y .none k (done (a14.up.trans a)) rfl,fun d Y v k a r=>z d Y v k (done (a14.up.trans a)) r⟩)
  | _=>exact False.elim q
 | _=>exact False.elim q
end
end Mine.Internal
namespace Mine.Internal
open PySem PySem.W PyProof.Rows
noncomputable section
noncomputable def dCel (d:Data):Option { v:Option PV // d = .cell v }:=if h:d.ctorIdx = 6 then PySem.Data.cell.elim (motive:=fun d=>Option { v:Option PV // d = .cell v }) d h (fun v=>some ⟨v,rfl⟩) else none
noncomputable def dFld (d:Data):Option { v:Array PV // d = .fields v }:=if h:d.ctorIdx = 9 then PySem.Data.fields.elim (motive:=fun d=>Option { v:Array PV // d = .fields v }) d h (fun v=>some ⟨v,rfl⟩) else none
noncomputable def supC (K:Frag) (P:Prog) (g:Gt) (fa ca:Nat→Addr) (f2 c1:Nat) (d:FDef) (names:List (Str × Nat)) (xs:List X) (ss:List S) (file:Str) (fd:FuncData) (bd:List Stmt) (v:PE × List PE × Pos) (a:PE × Str × Pos) (s0:List PE) (su:Str) (ar:Arg) (cl:Str) (cv:Option PV) (fl:Str) (cd:ClassData):Bool :=
 ((su == ("super":Str) && (a.2.1 == ("__init__":Str) && (cl == ("__class__":Str) && (s0.isEmpty && (cv == some (.ref (ca c1)) && (fl == file && (a.2.2.endLine == v.2.2.line && decide (v.2.1.length < 29)))))))) &&
 (codeIn K fd.code fd.qualname && (chkEs P g xs ⟨names,fd.scope,allOwn⟩ v.2.1 && (chkSs P g ss ⟨names,fd.scope,allOwn⟩ bd && (decide (fd.globals = mainGlobals) && (decide (fd.builtins = builtinsNs) && (!fd.scope.isCoroutine && (!fd.scope.isGenerator && fd.scope.kind == .function)))))))) &&
 (((fd.scope.names.all fun x=>x.2 != .cell && (x.2 != .free || x.1 == ("__class__":Str))) && (fd.params.posonlyargs.isEmpty && (fd.params.kwonlyargs.isEmpty && (fd.params.vararg.isNone && (fd.params.kwarg.isNone && (decide (fd.defaults = .none) && (decide (fd.params.args.length = d.params) &&
  (decide (fd.params.args.map (·.arg)).Nodup && (((fd.params.args.map (·.arg)).all fun x=>fd.scope.names.lookup x == some .local) && (names.all fun q=>decide (d.params≤q.2) || (fd.params.args.map (·.arg))[q.2]? == some q.1)))))))))) &&
 (names.lookup ar.arg == some 0 && (fd.scope.names.lookup ("super":Str) == some .globalImplicit && (fd.scope.names.lookup ("__class__":Str) == some .free && (mroIn K (ca c1) (.ref (ca c1)) == some true && (alongIn K "__init__" ((cd.mro.dropWhile (· != .ref (ca c1))).drop 1) == some (some (.ref (fa f2))) &&
  (typeIn K (.ref (fa f2)) == some (.type "function") && (fnIn K (fa f2) && (nsIn K cStatics "thirdparty.any" == some none && nsIn K mainGlobals "super" == some none)))))))))
noncomputable def sup4 (K:Frag) (P:Prog) (g:Gt) (fa ca:Nat→Addr) (f2 c1:Nat) (d:FDef) (names:List (Str × Nat)) (xs:List X) (ss:List S) (file:Str) (fd:FuncData) (bd:List Stmt) (v:PE × List PE × Pos) (a:PE × Str × Pos) (s0:List PE) (su:Str) (ar:Arg) (cl:Str) (cv:Option PV) (cda:Addr):Bool :=
 oS (oE (K.lookup cda)) fun ocd=>oS (dFld ocd.data) fun vs=>oS (oE (vs:Array PV)[2]?) fun fv=>oS (vStr fv) fun fl=>oS (oE (clsIn K (ca c1))) fun cd=>supC K P g fa ca f2 c1 d names xs ss file fd bd v a s0 su ar cl cv fl.1 cd
noncomputable def sup3 (K:Frag) (P:Prog) (g:Gt) (fa ca:Nat→Addr) (f2 c1:Nat) (d:FDef) (names:List (Str × Nat)) (xs:List X) (ss:List S) (file:Str) (fd:FuncData) (bd:List Stmt) (v:PE × List PE × Pos) (a:PE × Str × Pos) (s0:List PE) (su:Str):Bool :=
 oS (oE fd.params.args.head?) fun ar=>oS (dOne fd.closure) fun cl=>oS (vRef fd.code) fun cda=>oS (oE (K.lookup cl.2)) fun oc=>oS (dCel oc.data) fun cv=>sup4 K P g fa ca f2 c1 d names xs ss file fd bd v a s0 su ar cl.1 cv cda
noncomputable def sup2 (K:Frag) (P:Prog) (g:Gt) (fa ca:Nat→Addr) (f2 c1:Nat) (d:FDef) (names:List (Str × Nat)) (xs:List X) (ss:List S) (file:Str) (fd:FuncData) (bd:List Stmt) (ex:PE):Bool :=
 oS (dCall ex) fun v=>oS (dAttr v.1) fun a=>oS (dCall a.1) fun s0=>oS (dName s0.1) fun su=>sup3 K P g fa ca f2 c1 d names xs ss file fd bd v a s0.2.1 su.1
noncomputable def supB (K:Frag) (P:Prog) (g:Gt) (fa ca:Nat→Addr) (f f2 c1:Nat) (d:FDef) (names:List (Str × Nat)) (xs:List X) (ss:List S) (file:Str):Bool :=
 oS (oE (K.lookup (fa f))) fun o=>oS (dFun o.data) fun fd=>oS (dSts fd.body) fun body=>oS (dCons body) fun bd=>oS (dExp bd.1) fun ex=>sup2 K P g fa ca f2 c1 d names xs ss file fd bd.2 ex.1
end
theorem an8 {x1 x2 x3 x4 x5 x6 x7 x8:Bool} {C:Prop} (k:(x1 && (x2 && (x3 && (x4 && (x5 && (x6 && (x7 && x8))))))) = true) (K:x1 = true→x2 = true→x3 = true→x4 = true→x5 = true→x6 = true→x7 = true→x8 = true→C):C:=K (and_l k) (and_l (and_r k)) (and_l (and_r (and_r k))) (and_l (and_r (and_r (and_r k)))) (and_l (and_r (and_r (and_r (and_r k))))) (and_l (and_r (and_r (and_r (and_r (and_r k)))))) (and_l (and_r (and_r (and_r (and_r (and_r (and_r k))))))) (and_r (and_r (and_r (and_r (and_r (and_r (and_r k)))))))
theorem an9 {x1 x2 x3 x4 x5 x6 x7 x8 x9:Bool} {C:Prop} (k:(x1 && (x2 && (x3 && (x4 && (x5 && (x6 && (x7 && (x8 && x9)))))))) = true) (K:x1 = true→x2 = true→x3 = true→x4 = true→x5 = true→x6 = true→x7 = true→x8 = true→x9 = true→C):C:=K (and_l k) (and_l (and_r k)) (and_l (and_r (and_r k))) (and_l (and_r (and_r (and_r k)))) (and_l (and_r (and_r (and_r (and_r k))))) (and_l (and_r (and_r (and_r (and_r (and_r k)))))) (and_l (and_r (and_r (and_r (and_r (and_r (and_r k))))))) (and_l (and_r (and_r (and_r (and_r (and_r (and_r (and_r k)))))))) (and_r (and_r (and_r (and_r (and_r (and_r (and_r (and_r k))))))))
theorem an10 {x1 x2 x3 x4 x5 x6 x7 x8 x9 x10:Bool} {C:Prop} (k:(x1 && (x2 && (x3 && (x4 && (x5 && (x6 && (x7 && (x8 && (x9 && x10))))))))) = true) (K:x1 = true→x2 = true→x3 = true→x4 = true→x5 = true→x6 = true→x7 = true→x8 = true→x9 = true→x10 = true→C):C:=K (and_l k) (and_l (and_r k)) (and_l (and_r (and_r k))) (and_l (and_r (and_r (and_r k)))) (and_l (and_r (and_r (and_r (and_r k))))) (and_l (and_r (and_r (and_r (and_r (and_r k)))))) (and_l (and_r (and_r (and_r (and_r (and_r (and_r k))))))) (and_l (and_r (and_r (and_r (and_r (and_r (and_r (and_r k)))))))) (and_l (and_r (and_r (and_r (and_r (and_r (and_r (and_r (and_r k))))))))) (and_r (and_r (and_r (and_r (and_r (and_r (and_r (and_r (and_r k)))))))))
theorem an22 {a b c d:Bool} {C:Prop} (k:(a && b && (c && d)) = true) (K:a = true→b = true→c = true→d = true→C):C:=K (and_l (and_l k)) (and_r (and_l k)) (and_l (and_r k)) (and_r (and_r k))
theorem sup_go {B:Bd} {g:Gt} {f f2 c1:Nat} {d:FDef} {names:List (Str × Nat)} {xs:List X} {ss:List S} {file:Str} (h:Hs B 40 g) (hd:d.body = .expr (.meth (.var 0) 0 xs) :: ss) (hm:∀ i f',B.P.meth i 0 = some f'→i = c1∧f' = f2)
  (hbt:nsIn B.D.K builtinsNs "super" = some (some (.type "super"))) (hfile:((B.D.prog.main.file:Str) == file) = true) (htop:(B.D.prog.main.scope.names.lookup ("super":Str)).isSome = false) (k:supB B.D.K B.P g B.D.fa B.D.ca f f2 c1 d names xs ss file = true):FnGo B f d :=
 oS_el k fun o ho k=>oS_el k fun fd hfd k=>oS_el k fun body hb k=>oS_el k fun bd hbd k=>oS_el k fun ex hex k=>oS_el k fun v hv k=>oS_el k fun a ha k=>oS_el k fun s0 hs0 k=>oS_el k fun su hsu k=>oS_el k fun ar har k =>
 oS_el k fun cl hcl k=>oS_el k fun cda hcda k=>oS_el k fun oc hoc k=>oS_el k fun cv hcv k=>oS_el k fun ocd hocd k=>oS_el k fun vs hvs k=>oS_el k fun fv hfv k=>oS_el k fun fl hfl k=>oS_el k fun cd hcd k=>an22 k fun ka kb kc kd=>an8 ka fun a1 a2 a3 a4 a5 a6 a7 a8=>an8 kb fun b1 b2 b3 b4 b5 b6 b7 b8=>an10 kc fun c1 c2 c3 c4 c5 c6 c7 c8 c9 c10=>an9 kd fun d1 d2 d3 d4 d5 d6 d7 d8 d9=>by
 have nms:=List.all_eq_true.mp c1
 have hpn:(fd.params.args.map (·.arg)).Nodup:=of_decide_eq_true c8
 have hpl:fd.params.args.length = d.params:=of_decide_eq_true c7
 have hn2:=List.all_eq_true.mp c10
 have hal:=List.all_eq_true.mp c9
 have hbody:fd.body = .stmts (.Expr (.Call (.Attribute (.Call (.Name "super" su.2) [] [] s0.2.2) "__init__" a.2.2) v.2.1 [] v.2.2) ex.2 :: bd.2):=by
  rw [hb,hbd,hex,hv,ha,hs0,hsu,eq_of a1,eq_of a2,List.isEmpty_iff.mp a4]
 exact super_go (ps:=fd.params.args.map (·.arg)) (fd:=fd) (ar:=ar) (cd:=cd) h ⟨o,ho,hfd⟩ b1 hbody hd a7 (of_decide_eq_true a8) b2 b3 (hcl.trans (by rw [← eq_of a3]))
  (of_decide_eq_true b4) (of_decide_eq_true b5) (of_not b6) (of_not b7) (eq_of b8) (fun x hx=>bne_iff_ne.mp (and_l (nms x hx))) (fun x hx e=>(Bool.or_eq_true_iff.mp (and_r (nms x hx))).elim (fun n=>absurd e (bne_iff_ne.mp n)) eq_of)
  ((List.length_map ..).trans hpl) hpn (fun x hx=>eq_of (hal x hx)) (fun vals hv=>bind_is (List.isEmpty_iff.mp c2) (List.isEmpty_iff.mp c3) (Option.isNone_iff_eq_none.mp c4) (Option.isNone_iff_eq_none.mp c5) (of_decide_eq_true c6) hpn (by rw [hv,hpl]))
  (List.isEmpty_iff.mp c2) (fun x i e=>(Bool.or_eq_true_iff.mp (hn2 _ (mem_of_lookup e))).imp of_decide_eq_true eq_of) har (List.mem_map.mpr ⟨ar,List.mem_of_head? har,rfl⟩) (eq_of d1) (eq_of d2) (eq_of d3) hm hoc (hcv.trans (congrArg Data.cell (eq_of a5))) hcd
  (eq_of d4) (eq_of d5) (eq_of d6) d7 (eq_of d8) (eq_of d9) hbt hcda hocd hvs (hfv.trans (congrArg some hfl)) (by rw [eq_of a6]; exact hfile) htop
end Mine.Internal
namespace Mine.Internal
open PySem
namespace P1
noncomputable def f_all_of:FDef :=
 { params:=1,slots:=1,body:=[.ite (.cmp .eq (.bi .len [(.var 0)]) (.cst (.int 1))) [.ret (.item (.var 0) (.cst (.int 0)))] [],
  .ret (.ite (.cmp .gt (.bi .len [(.var 0)]) (.cst (.int 0))) (.tup [(.cst (.str 431008790872165)),(.bi .tuple [(.var 0)])]) (.glob 999))] }
noncomputable def f_Names___init:FDef :=
 { params:=5,slots:=6,body:=[.asg (.attr (.var 0) 91018014822433855916448552147567129127201744206719258460276) (.var 1),
  .asg (.attr (.var 0) 2089024793972003303873052788) (.var 2),
  .asg (.attr (.var 0) 2050339269201387993285263476) (.var 3),
  .asg (.attr (.var 0) 9442840468706836533258501435379962347636) (.var 4),
  .asg (.attr (.var 0) 1934282215274345678596210804) (.mut (.dict [])),
  .for_ (.one 5) (.val (.var 3)) [.ite (.cmp .in_ (.item (.var 5) (.cst (.int 0))) (.tup [(.cst (.str 1042241545940152352869)),(.cst (.str 452999038107759))])) [.raise] []],
  .asg (.attr (.var 0) 1934282344401593776985866357) (.cst (.int 0))] }
noncomputable def f_Names_fresh:FDef :=
 { params:=2,slots:=2,body:=[.asg (.attr (.var 0) 1934282344401593776985866357) (.bin .add (.attr (.var 0) 1934282344401593776985866357) (.cst (.int 1))),
  .ret (.fstr [(.var 1),(.cst (.str 40)),(.attr (.var 0) 1934282344401593776985866357)])] }
noncomputable def f_Names_rel:FDef :=
 { params:=2,slots:=2,body:=[.ret (.tup [(.cst (.str 505775562686573)),(.item (.attr (.var 0) 9442840468706836533258501435379962347636) (.var 1))])] }
noncomputable def f_Names_places:FDef :=
 { params:=2,slots:=4,body:=[.ite (.or [(.meth (.attr (.var 0) 91018014822433855916448552147567129127201744206719258460276) 461795089186932 [(.var 1)]),(.glob 999)]) [.ret (.cst (.int (-1)))] [],
  .raise,
  .raise,
  .raise,
  .raise] }
noncomputable def f_Names_named:FDef :=
 { params:=3,slots:=6,body:=[.ite (.meth (.attr (.var 0) 91018014822433855916448552147567129127201744206719258460276) 461795089186932 [(.var 1)]) [.ret (.meth (.var 0) 505775562686573 [(.var 1)])] [],
  .raise,
  .raise,
  .raise,
  .raise,
  .raise] }
noncomputable def f_Names_arity:FDef :=
 { params:=2,slots:=3,body:=[.asg (.name 2) (.item (.var 1) (.cst (.int 0))),
  .ite (.cmp .eq (.var 2) (.cst (.str 505775562686573))) [.ret (.meth (.var 0) 13718444222045834973046468235386452060926671848844973262849473248587749245040621500453887869439101108335 [(.item (.var 1) (.cst (.int 1)))])] [],
  .ite (.cmp .in_ (.var 2) (.tup [(.cst (.str 4746086129707480553143090519474292)),(.cst (.str 1023794788672322142310))])) [.raise] [],
  .ite (.cmp .in_ (.var 2) (.tup [(.cst (.str 523367740342387)),(.cst (.str 1088358388532248576119))])) [.raise] [],
  .ite (.cmp .in_ (.var 2) (.tup [(.cst (.str 977677880109517766767)),(.cst (.str 1079135047281738252399)),(.cst (.str 8507063594590921578787178697020942581862)),(.cst (.str 1069911670846801313907))])) [.raise] [],
  .ite (.cmp .in_ (.var 2) (.tup [(.cst (.str 986901300524892553327)),(.cst (.str 9612981530472886828724840677988351606901))])) [.ret (.bin .sub (.bin .add (.meth (.var 0) 1895596745843988977414045818 [(.item (.var 1) (.cst (.int 1)))]) (.meth (.var 0) 1895596745843988977414045818 [(.item (.var 1) (.cst (.int 2)))])) (.ite (.cmp .eq (.var 2) (.cst (.str 986901300524892553327))) (.cst (.int 2)) (.cst (.int 0))))] [],
  .ite (.cmp .eq (.var 2) (.cst (.str 922337696266917511281))) [.raise] [],
  .ret (.meth (.var 0) 1895596745843988977414045818 [(.ite (.cmp .in_ (.var 2) (.tup [(.cst (.str 1895596653610251016640397413)),(.cst (.str 4137613609484209967886426670366835))])) (.glob 999) (.item (.var 1) (.cst (.int 1))))])] }
noncomputable def f_Names_arity_of_relation:FDef :=
 { params:=2,slots:=5,body:=[.for_ (.one 2) (.val (.meth (.attr (.var 0) 91018014822433855916448552147567129127201744206719258460276) 4178178428691374958171360535249012 [])) [.raise],
  .ret (.ite (.cmp .in_ (.var 1) (.comp (.gen (.many [3,4]) (.val (.meth (.attr (.var 0) 91018014822433855916448552147567129127201744206719258460276) 4543261975642413826906189065093236 [])) [] (.elt (.glob 999))))) (.cst (.int 2)) (.cst (.int 1)))] }
noncomputable def f_Opener___init:FDef :=
 { params:=5,slots:=5,body:=[.expr (.meth (.var 0) 0 [(.var 1),(.var 2),(.var 3),(.var 4)]),
  .asg (.attr (.var 0) 2243767363446240513821245557) (.cst (.int 0)),
  .asg (.attr (.var 0) 4259307989734766077997039554134133) (.cst (.int 0)),
  .asg (.attr (.var 0) 1042241488765539319916) (.cst (.int 0))] }
noncomputable def f_Opener_spend:FDef :=
 { params:=3,slots:=3,body:=[.asg (.attr (.var 0) 2243767363446240513821245557) (.bin .add (.attr (.var 0) 2243767363446240513821245557) (.var 1)),
  .asg (.attr (.var 0) 1042241488765539319916) (.bi .max [(.attr (.var 0) 1042241488765539319916),(.bin .add (.attr (.var 0) 4259307989734766077997039554134133) (.var 2))]),
  .ite (.cmp .gt (.attr (.var 0) 2243767363446240513821245557) (.glob 0)) [.raise] [],
  .ite (.cmp .gt (.bin .add (.attr (.var 0) 4259307989734766077997039554134133) (.var 2)) (.glob 1)) [.raise] []] }
noncomputable def f_Opener_used:FDef :=
 { params:=3,slots:=5,body:=[.asgT [3,4] (.get (.get (.var 2) [(.cst (.str 0)),(.dict [])]) [(.var 1),(.tup [(.cst (.int 1)),(.cst (.int 1))])]),
  .expr (.meth (.var 0) 2243767363446240513821245541 [(.var 3),(.var 4)]),
  .ret (.item (.var 2) (.var 1))] }
noncomputable def f_Opener_begun:FDef :=
 { params:=3,slots:=5,body:=[.ite (.and [(.cmp .eq (.item (.var 1) (.cst (.int 0))) (.cst (.str 1023794727099668889702))),(.cmp .notIn (.item (.var 1) (.cst (.int 2))) (.var 2)),(.cmp .ge (.meth (.var 0) 4583826678792810814624776111259764 [(.item (.var 1) (.cst (.int 2)))]) (.cst (.int 0)))]) [.raise] [],
  .ite (.cmp .eq (.item (.var 1) (.cst (.int 0))) (.cst (.str 435406839480441))) [.raise,
   .raise] [],
  .ite (.and [(.cmp .eq (.item (.var 1) (.cst (.int 0))) (.cst (.str 435406826897519))),(.cmp .eq (.item (.var 1) (.cst (.int 2))) (.cst (.str 47)))]) [.raise,
   .raise] [],
  .ret (.tup [(.cst (.str 0)),(.tup [])])] }
noncomputable def f_Opener_call_of:FDef :=
 { params:=3,slots:=5,body:=[.asgT [3,4] (.meth (.var 0) 1914939439053977769006334063 [(.var 1),(.var 2)]),
  .ite (.and [(.cmp .ne (.var 3) (.cst (.str 0))),(.glob 999)]) [.raise] [],
  .ret (.tup [(.var 3),(.var 4)])] }
noncomputable def f_Opener_expr:FDef :=
 { params:=3,slots:=4,body:=[.asg (.attr (.var 0) 4259307989734766077997039554134133) (.bin .add (.attr (.var 0) 4259307989734766077997039554134133) (.cst (.int 1))),
  .expr (.meth (.var 0) 2243767363446240513821245541 [(.cst (.int 1)),(.cst (.int 0))]),
  .asg (.name 3) (.meth (.var 0) 8677205264829240640962846540743768539239 [(.var 1),(.var 2)]),
  .asg (.attr (.var 0) 4259307989734766077997039554134133) (.bin .sub (.attr (.var 0) 4259307989734766077997039554134133) (.cst (.int 1))),
  .ret (.var 3)] }
noncomputable def f_Opener_expr_of:FDef :=
 { params:=3,slots:=11,body:=[.asg (.name 3) (.item (.var 1) (.cst (.int 0))),
  .ite (.cmp .in_ (.var 3) (.tup [(.cst (.str 1088358388532248576119)),(.cst (.str 977677880109517766767))])) [.raise] [],
  .ite (.cmp .eq (.var 3) (.cst (.str 1023794788672322142310))) [.raise] [],
  .ite (.and [(.cmp .eq (.var 3) (.cst (.str 247464047))),(.glob 999)]) [.raise] [],
  .ite (.cmp .eq (.var 3) (.cst (.str 1895596745844028559822159992))) [.ret (.tup [(.cst (.str 9612981530472886828724840677988351606901)),(.meth (.var 0) 940784479923051954291 [(.item (.var 1) (.cst (.int 4))),(.var 2)]),(.meth (.var 0) 940784479923051954291 [(.item (.var 1) (.cst (.int 5))),(.var 2)])])] [],
  .ite (.cmp .eq (.var 3) (.cst (.str 1934282344401558592617971827))) [.raise,
   .raise] [],
  .ite (.cmp .eq (.var 3) (.cst (.str 222298215))) [.raise] [],
  .ite (.cmp .eq (.var 3) (.cst (.str 479387283619957))) [.raise] [],
  .ite (.and [(.cmp .eq (.var 3) (.cst (.str 1023794727099668889702))),(.cmp .in_ (.item (.var 1) (.cst (.int 2))) (.var 2))]) [.ret (.meth (.var 0) 4867780200473109852296548783751269 [(.meth (.var 0) 1088358410522472743013 [(.item (.var 1) (.cst (.int 2))),(.var 2)]),(.cst (.str 510173609197685)),(.item (.var 1) (.cst (.int 1)))])] [],
  .asgT [7,8] (.ite (.cmp .in_ (.var 3) (.tup [(.cst (.str 1023794727099668889702)),(.cst (.str 435406839480441)),(.cst (.str 435406826897519))])) (.meth (.var 0) 8507063148377852269946524166966015426663 [(.var 1),(.var 2)]) (.glob 999)),
  .ite (.cmp .ne (.var 7) (.cst (.str 0))) [.raise] [],
  .ite (.cmp .eq (.var 3) (.cst (.str 1023794727099668889702))) [.ret (.meth (.var 0) 2147053159526524811376328805 [(.item (.var 1) (.cst (.int 2))),(.item (.var 1) (.cst (.int 1)))])] [],
  .ite (.cmp .eq (.var 3) (.cst (.str 435406839480441))) [.raise,
   .raise,
   .raise] [],
  .ite (.or [(.cmp .ne (.var 3) (.cst (.str 435406826897519))),(.cmp .notIn (.item (.var 1) (.cst (.int 2))) (.glob 7))]) [.raise] [],
  .ret (.tup [(.item (.glob 7) (.item (.var 1) (.cst (.int 2)))),(.meth (.var 0) 940784479923051954291 [(.item (.var 1) (.cst (.int 3))),(.var 2)]),(.meth (.var 0) 940784479923051954291 [(.item (.var 1) (.cst (.int 4))),(.var 2)])])] }
noncomputable def f_Opener_wanted:FDef :=
 { params:=4,slots:=5,body:=[.asg (.name 4) (.cmp .in_ (.item (.var 1) (.cst (.int 0))) (.glob 2)),
  .ite (.or [(.cmp .in_ (.item (.var 1) (.cst (.int 0))) (.glob 4)),(.cmp .ne (.var 4) (.cmp .eq (.var 2) (.cst (.str 4502697214463632837895632474603635))))]) [.raise] [],
  .ret (.var 1)] }
noncomputable def f_Opener_is_marked:FDef :=
 { params:=2,slots:=2,body:=[.ite (.cmp .ne (.item (.var 1) (.cst (.int 0))) (.cst (.str 1895596745844028559822159992))) [.ret (.cst (.bool false))] [],
  .ret (.or [(.cmp .notIn (.item (.var 1) (.cst (.int 2))) (.tup [(.cst (.str 0)),(.cst (.str 510173609197685))])),(.cmp .notIn (.item (.var 1) (.cst (.int 3))) (.tup [(.cst (.str 0)),(.cst (.str 510173609197685))])),(.meth (.var 0) 39659329125711092606061701497258847366907394231631973 [(.item (.var 1) (.cst (.int 4)))]),(.meth (.var 0) 39659329125711092606061701497258847366907394231631973 [(.item (.var 1) (.cst (.int 5)))])])] }
noncomputable def f_Opener_bounded:FDef :=
 { params:=4,slots:=5,body:=[.asg (.name 4) (.mut (.list [(.tup [(.cst (.str 222298223)),(.var 1),(.meth (.var 0) 940784479923051954291 [(.var 2),(.var 3)])])])),
  .ite (.meth (.var 0) 39659329125711092606061701497258847366907394231631973 [(.var 2)]) [.mth .ext (.var 4) (.meth (.var 0) 4462132008400113337266168758534245 [(.var 1),(.var 2),(.var 3)])] [],
  .ret (.call 1 [(.var 4)])] }
noncomputable def f_Opener_marked:FDef :=
 { params:=4,slots:=12,body:=[.asgTs true [4,5,6] [(.meth (.var 0) 940784479923051954291 [(.item (.var 2) (.cst (.int 4))),(.var 3)]),(.meth (.var 0) 940784479923051954291 [(.item (.var 2) (.cst (.int 5))),(.var 3)]),(.mut (.list []))],
  .ite (.or [(.cmp .notIn (.item (.var 2) (.cst (.int 3))) (.tup [(.cst (.str 0)),(.cst (.str 510173609197685))])),(.meth (.var 0) 39659329125711092606061701497258847366907394231631973 [(.item (.var 2) (.cst (.int 5)))])]) [.asgT [7,8,9] (.meth (.var 0) 8677204331838147416323293475933322739815 [(.var 4)]),
   .asg (.name 10) (.var 1),
   .for_ (.one 11) (.val (.var 8)) [.asg (.name 10) (.tup [(.cst (.str 986901300524892553327)),(.var 11),(.var 10)])],
   .mth .app (.var 6) (.tup [(.cst (.str 431008786677869)),(.var 7),(.meth (.var 0) 8847346326594962108587803811764427030629 [(.var 9),(.meth (.var 0) 1069911622468295983206 [(.var 10),(.item (.var 2) (.cst (.int 3))),(.item (.var 2) (.cst (.int 5))),(.var 3)])])])] [],
  .ite (.or [(.cmp .notIn (.item (.var 2) (.cst (.int 2))) (.tup [(.cst (.str 0)),(.cst (.str 510173609197685))])),(.meth (.var 0) 39659329125711092606061701497258847366907394231631973 [(.item (.var 2) (.cst (.int 4)))])]) [.asgT [7,8,9] (.meth (.var 0) 8677204331838147416323293475933322739815 [(.var 5)]),
   .asg (.name 10) (.var 1),
   .for_ (.one 11) (.val (.rev (.var 8))) [.asg (.name 10) (.tup [(.cst (.str 986901300524892553327)),(.var 10),(.var 11)])],
   .mth .app (.var 6) (.tup [(.cst (.str 431008786677869)),(.var 7),(.meth (.var 0) 8847346326594962108587803811764427030629 [(.var 9),(.meth (.var 0) 1069911622468295983206 [(.var 10),(.item (.var 2) (.cst (.int 2))),(.item (.var 2) (.cst (.int 4))),(.var 3)])])])] [],
  .ret (.var 6)] }
noncomputable def f_Opener_side:FDef :=
 { params:=5,slots:=6,body:=[.asg (.name 5) (.ite (.cmp .notIn (.var 2) (.tup [(.cst (.str 0)),(.cst (.str 510173609197685))])) (.list [(.tup [(.var 2),(.var 1)])]) (.list [])),
  .ret (.call 1 [(.bin .add (.var 5) (.ite (.meth (.var 0) 39659329125711092606061701497258847366907394231631973 [(.var 3)]) (.meth (.var 0) 4462132008400113337266168758534245 [(.var 1),(.var 3),(.var 4)]) (.list [])))])] }
noncomputable def f_Opener_each_of:FDef :=
 { params:=2,slots:=10,body:=[.asg (.name 2) (.meth (.var 0) 1895596745843988977414045818 [(.var 1)]),
  .asg (.name 3) (.comp (.gen (.one 7) (.range (.var 2)) [] (.elt (.meth (.var 0) 1992310811413141719202398313 [(.cst (.str 940784378767954935913))])))),
  .asg (.name 4) (.comp (.gen (.one 8) (.val (.var 3)) [] (.elt (.tup [(.cst (.str 523367740342387)),(.var 8)])))),
  .ite (.cmp .eq (.var 2) (.cst (.int 1))) [.ret (.tup [(.tup [(.tup [(.item (.var 3) (.cst (.int 0))),(.var 1)])]),(.var 4),(.cst .none)])] [],
  .asg (.name 5) (.item (.var 4) (.cst (.int 0))),
  .for_ (.one 6) (.val (.sl (.var 4) (.cst (.int 1)) (.cst .none))) [.asg (.name 5) (.tup [(.cst (.str 9612981530472886828724840677988351606901)),(.var 5),(.var 6)])],
  .ret (.tup [(.bi .tuple [(.comp (.gen (.one 9) (.val (.var 3)) [] (.elt (.tup [(.var 9),(.tup [(.cst (.str 1088358388532248576119))])]))))]),(.var 4),(.tup [(.cst (.str 222298223)),(.var 5),(.var 1)])])] }
noncomputable def f_Opener_guarded:FDef :=
 { params:=3,slots:=3,body:=[.ret (.ite (.isN (.var 1)) (.var 2) (.tup [(.cst (.str 9017487185537167824034131633095323943028)),(.var 1),(.var 2)]))] }
noncomputable def f_Signatures___init:FDef :=
 { params:=2,slots:=4,body:=[.asg (.attr (.var 0) 8677204859181125939181893442046368153716) (.mut (.dict [])),
  .asg (.attr (.var 0) 4705521291157225747889372490891380) (.mut (.list [])),
  .asg (.attr (.var 0) 4543261936956796822649674720608357) (.mut (.list [])),
  .for_ (.one 2) (.val (.var 1)) [.ite (.cmp .eq (.item (.var 2) (.cst (.int 0))) (.cst (.str 510173617586280))) [.expr (.meth (.var 0) 20873505842747033825917143739743621578993172584 [(.var 2)])] []],
  .for_ (.one 3) (.val (.attr (.var 0) 4705521291157225747889372490891380)) [.expr (.meth (.var 0) 85525553048838452435796612866680672575463731298935710416998 [(.var 3)])],
  .asg (.attr (.var 0) 9527910938742439441923968210238380703845) (.meth (.var 0) 817781968424305856020720693277975001885178188133497416857951756894079352307829 []),
  .asg (.attr (.var 0) 87879469192763632568941775319736026401969400547484486336628) (.meth (.var 0) 76894537040247973696483349677575856673244932794782289231988 []),
  .expr (.meth (.var 0) 179360084627477658202635738266585308677210351137292936563493175412 []),
  .for_ (.one 2) (.val (.var 1)) [.ite (.cmp .eq (.item (.var 2) (.cst (.int 0))) (.cst (.str 1033018165107204554863))) [.raise] []]] }
noncomputable def f_Signatures_take_sig:FDef :=
 { params:=2,slots:=3,body:=[.for_ (.one 2) (.val (.item (.var 1) (.cst (.int 2)))) [.ite (.cmp .in_ (.var 2) (.attr (.var 0) 8677204859181125939181893442046368153716)) [.raise] [],
   .asg (.item (.attr (.var 0) 8677204859181125939181893442046368153716) (.var 2)) (.var 1),
   .mth .app (.attr (.var 0) 4705521291157225747889372490891380) (.var 2)],
  .ite (.and [(.cmp .gt (.bi .len [(.item (.var 1) (.cst (.int 6)))]) (.cst (.int 0))),(.glob 999)]) [.raise] []] }
noncomputable def f_Signatures_look_above:FDef :=
 { params:=2,slots:=3,body:=[.for_ (.one 2) (.val (.meth (.var 0) 4097048790276888180281264314515573 [(.var 1)])) [.raise],
  .ite (.and [(.cmp .ne (.meth (.var 0) 4583826466022023359783464006058101 [(.var 1)]) (.cst (.str 0))),(.glob 999)]) [.raise] []] }
noncomputable def f_Signatures_direct:FDef :=
 { params:=2,slots:=2,body:=[.ret (.bin .add (.ite (.cmp .ne (.meth (.var 0) 4583826466022023359783464006058101 [(.var 1)]) (.cst (.str 0))) (.glob 999) (.tup [])) (.meth (.var 0) 4705521310500177212264409718587508 [(.var 1)]))] }
noncomputable def f_Signatures_parents_first:FDef :=
 { params:=1,slots:=6,body:=[.asgTs false [1,2] [(.mut (.list [])),(.mut (.bi .list [(.attr (.var 0) 4705521291157225747889372490891380)]))],
  .while_ (.cmp .gt (.bi .len [(.var 2)]) (.cst (.int 0))) [.asg (.name 3) (.comp (.gen (.one 4) (.val (.var 2)) [(.emp (.comp (.gen (.one 5) (.val (.meth (.var 0) 4097048790276888180281264314515573 [(.var 4)])) [(.glob 999)] (.elt (.glob 999)))))] (.elt (.var 4)))),
   .ite (.cmp .eq (.bi .len [(.var 3)]) (.cst (.int 0))) [.raise] [],
   .mth .app (.var 1) (.item (.var 3) (.cst (.int 0))),
   .mth .rem (.var 2) (.item (.var 3) (.cst (.int 0)))],
  .ret (.var 1)] }
noncomputable def f_Signatures_all_fields:FDef :=
 { params:=1,slots:=10,body:=[.asgTs true [1,2] [(.list []),(.cst (.int 0))],
  .for_ (.one 3) (.val (.attr (.var 0) 9527910938742439441923968210238380703845)) [.for_ (.many [4,5,6,7,8]) (.val (.item (.item (.attr (.var 0) 8677204859181125939181893442046368153716) (.var 3)) (.cst (.int 7)))) [.raise,
    .raise]],
  .ret (.var 1)] }
noncomputable def f_Signatures_look_fields:FDef :=
 { params:=1,slots:=9,body:=[.asg (.name 1) (.dict []),
  .for_ (.many [2,3,4,5,6,7]) (.val (.attr (.var 0) 87879469192763632568941775319736026401969400547484486336628)) [.raise,
   .raise,
   .raise]] }
noncomputable def f_Signatures_has:FDef :=
 { params:=2,slots:=2,body:=[.ret (.cmp .in_ (.var 1) (.attr (.var 0) 8677204859181125939181893442046368153716))] }
noncomputable def f_Signatures_parent:FDef :=
 { params:=2,slots:=2,body:=[.ret (.item (.item (.attr (.var 0) 8677204859181125939181893442046368153716) (.var 1)) (.cst (.int 5)))] }
noncomputable def f_Signatures_supers:FDef :=
 { params:=2,slots:=2,body:=[.ret (.bi .tuple [(.item (.item (.attr (.var 0) 8677204859181125939181893442046368153716) (.var 1)) (.cst (.int 6)))])] }
noncomputable def f_Signatures_fields:FDef :=
 { params:=1,slots:=1,body:=[.ret (.bi .list [(.attr (.var 0) 87879469192763632568941775319736026401969400547484486336628)])] }
noncomputable def f_Signatures_orders:FDef :=
 { params:=1,slots:=1,body:=[.ret (.bi .list [(.attr (.var 0) 4543261936956796822649674720608357)])] }
noncomputable def f_law_draw:FDef :=
 { params:=2,slots:=3,body:=[.asg (.name 2) (.item (.var 0) (.cst (.str 1069911653254644629621))),
  .asg (.item (.var 0) (.cst (.str 1069911653254644629621))) (.bin .add (.var 2) (.cst (.int 1))),
  .ite (.cmp .lt (.var 2) (.bi .len [(.item (.var 0) (.cst (.str 1934282252167833826015314036)))])) [.ret (.bin .mod (.item (.item (.var 0) (.cst (.str 1934282252167833826015314036))) (.var 2)) (.var 1))] [],
  .ret (.bin .mod (.bin .mod (.bin .add (.bin .add (.bin .add (.bin .mul (.bin .mul (.cst (.int 3)) (.var 2)) (.var 2)) (.bin .mul (.cst (.int 8)) (.var 2))) (.bin .mul (.cst (.int 5)) (.bi .len [(.item (.var 0) (.cst (.str 1934282252167833826015314036)))]))) (.cst (.int 2))) (.cst (.int 73))) (.var 1))] }
noncomputable def f_law_leaf:FDef :=
 { params:=1,slots:=2,body:=[.asg (.name 1) (.call 75 [(.var 0),(.cst (.int 6))]),
  .ite (.cmp .lt (.var 1) (.cst (.int 4))) [.ret (.tup [(.cst (.str 1023794727099668889702)),(.cst (.int 0)),(.sidx [(.str 66),(.str 67),(.str 68),(.str 84)] (.var 1))])] [],
  .ret (.tup [(.cst (.str 435406826897519)),(.cst (.int 0)),(.cst (.str 44)),(.tup [(.cst (.str 1023794727099668889702)),(.cst (.int 0)),(.sidx [(.str 66),(.str 67)] (.bin .sub (.var 1) (.cst (.int 4))))]),(.tup [(.cst (.str 1023794727099668889702)),(.cst (.int 0)),(.sidx [(.str 67),(.str 68)] (.bin .sub (.var 1) (.cst (.int 4))))])])] }
noncomputable def f_law_arrow:FDef :=
 { params:=3,slots:=5,body:=[.asg (.name 3) (.list [(.cst (.str 0)),(.cst (.str 510173609197685)),(.cst (.str 492581442027622)),(.cst (.str 1005348044598612590694)),(.cst (.str 1069911648856593924198)),(.cst (.str 492581442027622))]),
  .asg (.name 4) (.item (.var 3) (.call 75 [(.var 0),(.cst (.int 6))])),
  .ret (.tup [(.cst (.str 1895596745844028559822159992)),(.cst (.int 0)),(.var 4),(.item (.var 3) (.call 75 [(.var 0),(.cst (.int 6))])),(.var 1),(.var 2)])] }
noncomputable def f_law_node:FDef :=
 { params:=1,slots:=5,body:=[.asgTs true [1,2,3] [(.call 75 [(.var 0),(.cst (.int 3))]),(.call 76 [(.var 0)]),(.call 76 [(.var 0)])],
  .ite (.cmp .eq (.var 1) (.cst (.int 0))) [.ret (.call 77 [(.var 0),(.var 2),(.var 3)])] [],
  .asg (.name 4) (.call 76 [(.var 0)]),
  .ite (.cmp .eq (.var 1) (.cst (.int 1))) [.ret (.call 77 [(.var 0),(.var 2),(.call 77 [(.var 0),(.var 3),(.var 4)])])] [],
  .ret (.call 77 [(.var 0),(.call 77 [(.var 0),(.var 2),(.var 3)]),(.var 4)])] }
noncomputable def f_law_tuples:FDef :=
 { params:=2,slots:=7,body:=[.ite (.cmp .eq (.item (.var 0) (.cst (.int 0))) (.cst (.str 1023794727099668889702))) [.ret (.comp (.gen (.one 4) (.val (.item (.var 1) (.bin .mod (.sfind (.item (.var 0) (.cst (.int 2)))) (.cst (.int 4))))) [] (.elt (.tup [(.var 4)]))))] [],
  .asgTs false [2,3] [(.call 79 [(.item (.var 0) (.cst (.int (-2)))),(.var 1)]),(.call 79 [(.item (.var 0) (.cst (.int (-1)))),(.var 1)])],
  .ite (.cmp .eq (.item (.var 0) (.cst (.int 0))) (.cst (.str 435406826897519))) [.ret (.bi .sortedSet [(.bin .add (.var 2) (.var 3))])] [],
  .ret (.comp (.gen (.one 5) (.val (.var 2)) [] (.gen (.one 6) (.val (.var 3)) [] (.elt (.bin .add (.var 5) (.var 6))))))] }
noncomputable def f_law_value:FDef :=
 { params:=3,slots:=10,body:=[.asgTs true [3,4,5] [(.call 75 [(.var 0),(.cst (.int 3))]),(.mut (.list [])),(.call 79 [(.var 1),(.var 2)])],
  .for_ (.many [6,7]) (.enum (.var 5)) [.ite (.or [(.and [(.cmp .lt (.var 3) (.cst (.int 2))),(.cmp .eq (.call 75 [(.var 0),(.bin .add (.cst (.int 2)) (.bin .mul (.cst (.int 2)) (.var 3)))]) (.cst (.int 0)))]),(.and [(.cmp .eq (.var 3) (.cst (.int 2))),(.cmp .ne (.bin .mod (.var 6) (.cst (.int 3))) (.cst (.int 1)))])]) [.mth .app (.var 4) (.var 7)] []],
  .ite (.and [(.cmp .eq (.call 75 [(.var 0),(.cst (.int 6))]) (.cst (.int 5))),(.cmp .ne (.var 5) (.list []))]) [.asg (.name 8) (.bi .tuple [(.comp (.gen (.one 9) (.val (.item (.var 5) (.cst (.int 0)))) [] (.elt (.call 75 [(.var 0),(.cst (.int 4))]))))]),
   .asg (.name 4) (.bin .add (.var 4) (.ite (.cmp .notIn (.var 8) (.var 4)) (.list [(.var 8)]) (.list [])))] [],
  .ret (.bi .sorted [(.var 4)])] }
noncomputable def f_law_fits:FDef :=
 { params:=2,slots:=2,body:=[.ret (.item (.dict [(.cst (.str 0)),(.cst (.bool true)),(.cst (.str 510173609197685)),(.cst (.bool true)),(.cst (.str 492581442027622)),(.cmp .eq (.var 1) (.cst (.int 1))),(.cst (.str 1005348044598612590694)),(.cmp .lt (.var 1) (.cst (.int 2))),(.cst (.str 1069911648856593924198)),(.cmp .gt (.var 1) (.cst (.int 0)))]) (.var 0))] }
noncomputable def f_law_marks_right:FDef :=
 { params:=3,slots:=8,body:=[.ite (.cmp .ne (.item (.var 1) (.cst (.int 0))) (.cst (.str 1895596745844028559822159992))) [.ret (.cst (.bool true))] [],
  .for_ (.one 3) (.val (.call 79 [(.item (.var 1) (.cst (.int 4))),(.var 2)])) [.asg (.name 4) (.comp (.gen (.one 6) (.val (.var 0)) [(.cmp .eq (.sl (.var 6) (.cst .none) (.bi .len [(.var 3)])) (.var 3))] (.elt (.sl (.var 6) (.bi .len [(.var 3)]) (.cst .none))))),
   .ite (.or [(.not (.call 81 [(.item (.var 1) (.cst (.int 3))),(.bi .len [(.var 4)])])),(.not (.call 82 [(.var 4),(.item (.var 1) (.cst (.int 5))),(.var 2)]))]) [.ret (.cst (.bool false))] []],
  .for_ (.one 5) (.val (.call 79 [(.item (.var 1) (.cst (.int 5))),(.var 2)])) [.asg (.name 4) (.comp (.gen (.one 7) (.val (.var 0)) [(.cmp .eq (.sl (.var 7) (.bin .sub (.bi .len [(.var 7)]) (.bi .len [(.var 5)])) (.cst .none)) (.var 5))] (.elt (.sl (.var 7) (.cst .none) (.bin .sub (.bi .len [(.var 7)]) (.bi .len [(.var 5)])))))),
   .ite (.or [(.not (.call 81 [(.item (.var 1) (.cst (.int 2))),(.bi .len [(.var 4)])])),(.not (.call 82 [(.var 4),(.item (.var 1) (.cst (.int 4))),(.var 2)]))]) [.ret (.cst (.bool false))] []],
  .ret (.cst (.bool true))] }
noncomputable def f_law_read:FDef :=
 { params:=3,slots:=11,body:=[.asg (.name 3) (.item (.var 0) (.cst (.int 0))),
  .ite (.cmp .eq (.var 3) (.cst (.str 505775562686573))) [.ret (.ite (.cmp .lt (.item (.var 0) (.cst (.int 1))) (.cst (.int 4))) (.comp (.gen (.one 6) (.val (.item (.var 1) (.item (.var 0) (.cst (.int 1))))) [] (.elt (.tup [(.var 6)])))) (.item (.var 1) (.cst (.int 4))))] [],
  .ite (.cmp .eq (.var 3) (.cst (.str 523367740342387))) [.ret (.list [(.item (.var 2) (.item (.var 0) (.cst (.int 1))))])] [],
  .ite (.cmp .eq (.var 3) (.cst (.str 1088358388532248576119))) [.ret (.list [(.tup [(.cst (.int 0))]),(.tup [(.cst (.int 1))]),(.tup [(.cst (.int 2))]),(.tup [(.cst (.int 3))])])] [],
  .asgTs false [4,5] [(.call 83 [(.item (.var 0) (.cst (.int 1))),(.var 1),(.var 2)]),(.call 83 [(.item (.var 0) (.cst (.int 2))),(.var 1),(.var 2)])],
  .ite (.cmp .eq (.var 3) (.cst (.str 2282452971227182165890433135))) [.ret (.bi .sortedSet [(.bin .add (.var 4) (.var 5))])] [],
  .ite (.cmp .eq (.var 3) (.cst (.str 9612981530472886828724840677988351606901))) [.ret (.comp (.gen (.one 7) (.val (.var 4)) [] (.gen (.one 8) (.val (.var 5)) [] (.elt (.bin .add (.var 7) (.var 8))))))] [],
  .ret (.bi .sortedSet [(.comp (.gen (.one 9) (.val (.var 4)) [] (.gen (.one 10) (.val (.var 5)) [(.cmp .eq (.item (.var 9) (.cst (.int (-1)))) (.item (.var 10) (.cst (.int 0))))] (.elt (.bin .add (.sl (.var 9) (.cst .none) (.cst (.int (-1)))) (.sl (.var 10) (.cst (.int 1)) (.cst .none)))))))])] }
noncomputable def f_law_holds:FDef :=
 { params:=3,slots:=14,body:=[.asg (.name 3) (.item (.var 0) (.cst (.int 0))),
  .ite (.cmp .eq (.var 3) (.cst (.str 431008790872165))) [.ret (.emp (.comp (.gen (.one 11) (.val (.item (.var 0) (.cst (.int 1)))) [(.not (.call 84 [(.var 11),(.var 1),(.var 2)]))] (.elt (.var 11)))))] [],
  .ite (.cmp .eq (.var 3) (.cst (.str 1079135034087605010534))) [.raise] [],
  .ite (.cmp .eq (.var 3) (.cst (.str 9017487185537167824034131633095323943028))) [.ret (.or [(.not (.call 84 [(.item (.var 0) (.cst (.int 1))),(.var 1),(.var 2)])),(.call 84 [(.item (.var 0) (.cst (.int 2))),(.var 1),(.var 2)])])] [],
  .ite (.cmp .eq (.var 3) (.cst (.str 222298223))) [.asg (.name 4) (.call 83 [(.item (.var 0) (.cst (.int 2))),(.var 1),(.var 2)]),
   .ret (.emp (.comp (.gen (.one 12) (.val (.call 83 [(.item (.var 0) (.cst (.int 1))),(.var 1),(.var 2)])) [(.cmp .notIn (.var 12) (.var 4))] (.elt (.var 12)))))] [],
  .ite (.cmp .eq (.var 3) (.cst (.str 431008786677869))) [.asg (.name 5) (.list [(.var 2)]),
   .for_ (.many [6,7]) (.val (.item (.var 0) (.cst (.int 1)))) [.asg (.name 8) (.mut (.list [])),
    .for_ (.one 9) (.val (.var 5)) [.for_ (.one 10) (.val (.call 83 [(.var 7),(.var 1),(.var 9)])) [.mth .app (.var 8) (.mut (.bi .dict [(.var 9)])),
      .asg (.item (.item (.var 8) (.cst (.int (-1)))) (.var 6)) (.var 10)]],
    .asg (.name 5) (.var 8)],
   .ret (.emp (.comp (.gen (.one 13) (.val (.var 5)) [(.not (.call 84 [(.item (.var 0) (.cst (.int 2))),(.var 1),(.var 13)]))] (.elt (.var 13)))))] [],
  .ret (.call 81 [(.var 3),(.bi .len [(.call 83 [(.item (.var 0) (.cst (.int 1))),(.var 1),(.var 2)])])])] }
noncomputable def f_law:FDef :=
 { params:=1,slots:=12,body:=[.asg (.name 1) (.mut (.dict [(.cst (.str 1934282252167833826015314036)),(.ite (.cmp .gt (.bi .len [(.var 0)]) (.cst (.int 0))) (.bi .list [(.sl (.var 0) (.cst .none) (.cst (.int 63)))]) (.list [(.cst (.int 1)),(.cst (.int 2)),(.cst (.int 0)),(.cst (.int 0)),(.cst (.int 0)),(.cst (.int 1)),(.cst (.int 2)),(.cst (.int 0)),(.cst (.int 0)),(.cst (.int 1))])),(.cst (.str 1069911653254644629621)),(.cst (.int 0))])),
  .asg (.name 2) (.comp (.gen (.one 10) (.range (.cst (.int 3))) [] (.elt (.item (.glob 10) (.call 75 [(.var 1),(.cst (.int 11))]))))),
  .asg (.name 2) (.mut (.cat (.var 2) (.list [(.item (.var 2) (.cst (.int 2))),(.list [])]))),
  .asg (.name 3) (.list [(.tup [(.cst (.str 510173617586280)),(.cst (.int 0)),(.tup [(.cst (.str 66)),(.cst (.str 67)),(.cst (.str 68))]),(.cst (.bool false)),(.cst (.str 0)),(.cst (.str 0)),(.tup []),(.tup []),(.tup [])])]),
  .asg (.name 4) (.new 1 [(.new 2 [(.var 3)]),(.cst .none),(.var 3),(.dict [(.cst (.str 66)),(.cst (.int 0)),(.cst (.str 67)),(.cst (.int 1)),(.cst (.str 68)),(.cst (.int 2))])]),
  .for_ (.one 5) (.range (.cst (.int 2))) [.asg (.name 6) (.call 78 [(.var 1)]),
   .asg (.item (.var 2) (.cst (.int 4))) (.call 80 [(.var 1),(.var 6),(.var 2)]),
   .asg (.name 7) (.call 79 [(.var 6),(.var 2)]),
   .asg (.name 8) (.and [(.emp (.comp (.gen (.one 11) (.val (.item (.var 2) (.cst (.int 4)))) [(.cmp .notIn (.var 11) (.var 7))] (.elt (.var 11))))),(.call 82 [(.item (.var 2) (.cst (.int 4))),(.var 6),(.var 2)])]),
   .asg (.name 9) (.meth (.var 4) 8421993124555260641663923658296188207205 [(.tup [(.cst (.str 505775562686573)),(.cst (.int 4))]),(.var 6),(.dict [(.cst (.str 84)),(.tup [(.cst (.str 505775562686573)),(.cst (.int 3))])])]),
   .ite (.cmp .ne (.call 84 [(.var 9),(.var 2),(.dict [])]) (.var 8)) [.raise] []],
  .ret (.cst (.bool true))] }
noncomputable def fnL:List (Nat × FDef):=[(1,f_all_of),(3,f_Names___init),(4,f_Names_fresh),(5,f_Names_rel),(8,f_Names_places),(9,f_Names_named),(13,f_Names_arity),(14,f_Names_arity_of_relation),(15,f_Opener___init),(16,f_Opener_spend),(18,f_Opener_used),(23,f_Opener_begun),(24,f_Opener_call_of),(32,f_Opener_expr),(33,f_Opener_expr_of),(37,f_Opener_wanted),(41,f_Opener_is_marked),(42,f_Opener_bounded),(43,f_Opener_marked),(44,f_Opener_side),(45,f_Opener_each_of),(46,f_Opener_guarded),(52,f_Signatures___init),(53,f_Signatures_take_sig),(54,f_Signatures_look_above),(55,f_Signatures_direct),(56,f_Signatures_parents_first),(57,f_Signatures_all_fields),(58,f_Signatures_look_fields),(61,f_Signatures_has),(63,f_Signatures_parent),(64,f_Signatures_supers),(72,f_Signatures_fields),(74,f_Signatures_orders),(75,f_law_draw),(76,f_law_leaf),(77,f_law_arrow),(78,f_law_node),(79,f_law_tuples),(80,f_law_value),(81,f_law_fits),(82,f_law_marks_right),(83,f_law_read),(84,f_law_holds),(85,f_law)]
noncomputable def nmL:List (Nat × List (Str × Nat)):=[(1,[(("formulas":Str),0)]),(3,[(("self":Str),0),(("signatures":Str),1),(("kinds":Str),2),(("items":Str),3),(("numbers":Str),4),(("item":Str),5)]),(4,[(("self":Str),0),(("name":Str),1)]),(5,[(("self":Str),0),(("name":Str),1)]),(8,[(("self":Str),0),(("name":Str),1),(("last":Str),2),(("orders":Str),3)]),(9,[(("self":Str),0),(("name":Str),1),(("spot":Str),2),(("owners":Str),3),(("last":Str),4),(("orders":Str),5)]),(13,[(("self":Str),0),(("expr":Str),1),(("head":Str),2)]),(14,[(("self":Str),0),(("r":Str),1),(("field":Str),2)]),(15,[(("self":Str),0),(("signatures":Str),1),(("kinds":Str),2),(("items":Str),3),(("numbers":Str),4)]),(16,[(("self":Str),0),(("nodes":Str),1),(("levels":Str),2)]),(18,[(("self":Str),0),(("name":Str),1),(("env":Str),2),(("nodes":Str),3),(("levels":Str),4)]),(23,[(("self":Str),0),(("node":Str),1),(("env":Str),2),(("name":Str),3),(("args":Str),4)]),(24,[(("self":Str),0),(("node":Str),1),(("env":Str),2),(("name":Str),3),(("args":Str),4)]),(32,[(("self":Str),0),(("node":Str),1),(("env":Str),2),(("found":Str),3)]),(33,[(("self":Str),0),(("node":Str),1),(("env":Str),2),(("op":Str),3),(("told":Str),4),(("inner":Str),5),(("apart":Str),6),(("name":Str),7),(("args":Str),8),(("found":Str),9),(("one":Str),10)]),(37,[(("self":Str),0),(("value":Str),1),(("form":Str),2),(("spot":Str),3),(("is_number":Str),4)]),(41,[(("self":Str),0),(("node":Str),1)]),(42,[(("self":Str),0),(("value":Str),1),(("node":Str),2),(("env":Str),3),(("found":Str),4)]),(43,[(("self":Str),0),(("value":Str),1),(("node":Str),2),(("env":Str),3),(("left":Str),4),(("right":Str),5),(("found":Str),6),(("told":Str),7),(("some":Str),8),(("guard":Str),9),(("rest":Str),10),(("one":Str),11)]),(44,[(("self":Str),0),(("value":Str),1),(("mult":Str),2),(("node":Str),3),(("env":Str),4),(("found":Str),5)]),(45,[(("self":Str),0),(("expr":Str),1),(("many":Str),2),(("names":Str),3),(("some":Str),4),(("row":Str),5),(("one":Str),6)]),(46,[(("self":Str),0),(("guard":Str),1),(("formula":Str),2)]),(52,[(("self":Str),0),(("items":Str),1),(("item":Str),2),(("name":Str),3)]),(53,[(("self":Str),0),(("item":Str),1),(("name":Str),2)]),(54,[(("self":Str),0),(("name":Str),1),(("other":Str),2)]),(55,[(("self":Str),0),(("name":Str),1)]),(56,[(("self":Str),0),(("found":Str),1),(("rest":Str),2),(("able":Str),3)]),(57,[(("self":Str),0),(("found":Str),1),(("group":Str),2),(("name":Str),3),(("spot":Str),4),(("is_disj":Str),5),(("fields":Str),6),(("mult":Str),7),(("node":Str),8),(("field":Str),9)]),(58,[(("self":Str),0),(("seen":Str),1),(("field":Str),2),(("name":Str),3),(("mult":Str),4),(("node":Str),5),(("spot":Str),6),(("group":Str),7),(("other":Str),8)]),(61,[(("self":Str),0),(("name":Str),1)]),(63,[(("self":Str),0),(("name":Str),1)]),(64,[(("self":Str),0),(("name":Str),1)]),(72,[(("self":Str),0)]),(74,[(("self":Str),0)]),(75,[(("tape":Str),0),(("wide":Str),1),(("spot":Str),2)]),(76,[(("tape":Str),0),(("way":Str),1)]),(77,[(("tape":Str),0),(("one":Str),1),(("other":Str),2),(("marks":Str),3),(("left":Str),4)]),(78,[(("tape":Str),0),(("way":Str),1),(("one":Str),2),(("other":Str),3),(("third":Str),4)]),(79,[(("node":Str),0),(("sets":Str),1),(("one":Str),2),(("other":Str),3)]),(80,[(("tape":Str),0),(("node":Str),1),(("sets":Str),2),(("way":Str),3),(("found":Str),4),(("every":Str),5),(("k":Str),6),(("one":Str),7),(("more":Str),8)]),(81,[(("mark":Str),0),(("many":Str),1)]),(82,[(("some":Str),0),(("node":Str),1),(("sets":Str),2),(("a":Str),3),(("rest":Str),4),(("b":Str),5)]),(83,[(("expr":Str),0),(("sets":Str),1),(("env":Str),2),(("op":Str),3),(("one":Str),4),(("other":Str),5)]),(84,[(("told":Str),0),(("sets":Str),1),(("env":Str),2),(("op":Str),3),(("wide":Str),4),(("envs":Str),5),(("name":Str),6),(("expr":Str),7),(("late":Str),8),(("inner":Str),9),(("one":Str),10)]),(85,[(("script":Str),0),(("tape":Str),1),(("sets":Str),2),(("items":Str),3),(("opener":Str),4),(("lap":Str),5),(("node":Str),6),(("every":Str),7),(("due":Str),8),(("told":Str),9)])]
noncomputable def mthL0:List (Nat × Nat):=[(1992310811413141719202398313,4),(505775562686573,5),(4583826678792810814624776111259764,8),(2147053159526524811376328805,9),(1895596745843988977414045818,13),(13718444222045834973046468235386452060926671848844973262849473248587749245040621500453887869439101108335,14)]
noncomputable def mthL1:List (Nat × Nat):=[(1992310811413141719202398313,4),(505775562686573,5),(4583826678792810814624776111259764,8),(2147053159526524811376328805,9),(1895596745843988977414045818,13),(13718444222045834973046468235386452060926671848844973262849473248587749245040621500453887869439101108335,14),(2243767363446240513821245541,16),(1088358410522472743013,18),(1914939439053977769006334063,23),(8507063148377852269946524166966015426663,24),(940784479923051954291,32),(8677205264829240640962846540743768539239,33),(4867780200473109852296548783751269,37),(39659329125711092606061701497258847366907394231631973,41),(8421993124555260641663923658296188207205,42),(4462132008400113337266168758534245,43),(1069911622468295983206,44),(8677204331838147416323293475933322739815,45),(8847346326594962108587803811764427030629,46),(0,3)]
noncomputable def mthL2:List (Nat × Nat):=[(20873505842747033825917143739743621578993172584,53),(85525553048838452435796612866680672575463731298935710416998,54),(4097048790276888180281264314515573,55),(817781968424305856020720693277975001885178188133497416857951756894079352307829,56),(76894537040247973696483349677575856673244932794782289231988,57),(179360084627477658202635738266585308677210351137292936563493175412,58),(461795089186932,61),(4583826466022023359783464006058101,63),(4705521310500177212264409718587508,64),(4178178428691374958171360535249012,72),(4543261975642413826906189065093236,74)]
noncomputable def initL:List (Nat × Nat):=[(0,3),(1,15),(2,52)]
noncomputable def globL:List (Nat × V):=[(0,(.int 20000)),(1,(.int 100)),(2,(.tup [(.str 488183410196590),(.str 1934282344401593776985866357),(.str 1042241519551906840692),(.str 1005348000618157965428),(.str 2263110111996505506986328180),(.str 510173642752110),(.str 4056483951726744055527172950982758)])),(4,(.tup [(.str 1079135034087605010534),(.str 1992310654615847878996787302),(.str 488183397613685),(.str 431008790872165),(.str 234881139),(.str 9017487185537167824034131633095323943028),(.str 466193146183783),(.str 222298223),(.str 1069911587283942768742),(.str 1069911648856593924198),(.str 232783984),(.str 492581442027622),(.str 1005348044598612590694),(.str 431008786677869),(.str 4137613899626305218353401740394612),(.str 228589670),(.str 228589685),(.str 213909618)])),(7,(.dict [((.str 44),(.str 2282452971227182165890433135)),((.str 39),(.str 1014571372654983381109)),((.str 46),(.str 2127710420199671437499302004)),((.str 47),(.str 986901300524892553327)),((.str 92274732),(.str 19981477821287991846518861117233156356625662054)),((.str 127926331),(.str 1895596653610251016640397413)),((.str 123732031),(.str 4015919074490936809546431789531237))])),(8,(.tup [(.str 127),(.str 95),(.str 43)])),(10,(.list [(.tup []),(.tup [(.int 0)]),(.tup [(.int 1)]),(.tup [(.int 2)]),(.tup [(.int 3)]),(.tup [(.int 0),(.int 1)]),(.tup [(.int 0),(.int 2)]),(.tup [(.int 0),(.int 3)]),(.tup [(.int 1),(.int 2)]),(.tup [(.int 1),(.int 3)]),(.tup [(.int 2),(.int 3)])]))]
noncomputable def mthL:List (Nat × List (Nat × Nat)):=[(0,mthL0),(1,mthL1),(2,mthL2)]
noncomputable def prog:Prog:=⟨fun k=>fnL.lookup k,fun c n=>(mthL.lookup c).bind fun l=>l.lookup n,fun c=>initL.lookup c,fun k=>globL.lookup k⟩
noncomputable def flds:List Str:=[("calls":Str),("count":Str),("entries":Str),("height":Str),("items":Str),("kinds":Str),("numbers":Str),("opened":Str),("ordered":Str),("own_fields":Str),("peak":Str),("signatures":Str),("spent":Str),("stands":Str)]
noncomputable def mths:List Str:=[("all_fields":Str),("arity":Str),("arity_of_relation":Str),("begun":Str),("bounded":Str),("call_of":Str),("direct":Str),("each_of":Str),("expr":Str),("expr_of":Str),("fields":Str),("fresh":Str),("guarded":Str),("has":Str),("is_marked":Str),("look_above":Str),("look_fields":Str),("marked":Str),("named":Str),("orders":Str),("parent":Str),("parents_first":Str),("places":Str),("rel":Str),("side":Str),("spend":Str),("supers":Str),("take_sig":Str),("used":Str),("wanted":Str)]
noncomputable def fnN:List (Str × Nat):=[(("all_of":Str),1),(("_law_draw":Str),75),(("_law_leaf":Str),76),(("_law_arrow":Str),77),(("_law_node":Str),78),(("_law_tuples":Str),79),(("_law_value":Str),80),(("_law_fits":Str),81),(("_law_marks_right":Str),82),(("_law_read":Str),83),(("_law_holds":Str),84),(("law":Str),85)]
noncomputable def clsN:List (Str × Nat):=[(("Names":Str),0),(("Opener":Str),1),(("Signatures":Str),2)]
noncomputable def conN:List (Str × Nat):=[(("MOST_NODES":Str),0),(("MOST_LEVELS":Str),1),(("NUMBER_HEADS":Str),2),(("TRUTH_HEADS":Str),4),(("SET_SIGNS":Str),7),(("TURNED":Str),8),(("_law_some":Str),10)]
noncomputable def faL:List (Nat × Nat):=[(1,116),(3,137),(4,144),(5,151),(8,166),(9,171),(13,197),(14,202),(15,225),(16,232),(18,246),(23,281),(24,288),(32,338),(33,345),(37,371),(41,399),(42,406),(43,413),(44,420),(45,425),(46,432),(52,486),(53,493),(54,500),(55,507),(56,512),(57,519),(58,526),(61,545),(63,559),(64,566),(72,622),(74,636),(75,662),(76,669),(77,676),(78,683),(79,688),(80,693),(81,700),(82,705),(83,710),(84,715),(85,720)]
noncomputable def caL:List Nat:=[205,470,639]
noncomputable def fa (i:Nat):Nat:=(faL.lookup i).getD 1
noncomputable def ca (i:Nat):Nat:=caL.getD i 1
noncomputable def nms (i:Nat):List (Str × Nat):=(nmL.lookup i).getD []
end P1
end Mine.Internal
namespace Mine.Internal
open PySem PySem.W PyProof.Rows PySem.Calls
section
variable {O:KeyOrd} {key:Nat→O.α} {N:Nat}
noncomputable def KP (key:Nat→O.α) (p:Array Nat) (k:Nat):O.α:=key (p.getD k 0)
theorem KP_congr {xs ys:Array Nat} {i j:Nat} (h:xs[i]? = ys[j]?):KP key xs i = KP key ys j:=by delta KP; rw [Array.getD_eq_getD_getElem?,Array.getD_eq_getD_getElem?,h]
noncomputable def POk (N:Nat) (p:Array Nat):Prop:=p.Perm (List.toArray (List.range N))
noncomputable def Up (key:Nat→O.α) (p:Array Nat) (k:Nat):Prop:=∀ i,i + 1 < k→O.klt (KP key p i) (KP key p (i + 1))
noncomputable def Dn (key:Nat→O.α) (p:Array Nat) (k:Nat):Prop:=∀ i,i + 1 < k→O.klt (KP key p (i + 1)) (KP key p i)
variable {cmp:Nat→Nat→(Bool→Shared→Prop)→Shared→Prop} {s:Shared} {p:Array Nat}
structure CmpOk (O:KeyOrd) (key:Nat→O.α) (N:Nat) (cmp:Nat→Nat→(Bool→Shared→Prop)→Shared→Prop) (s:Shared):Prop where
 c:∀ i j C,i < N→j < N→C (O.blt (key i) (key j)) s→cmp i j C s
 d:∀ i j,i < N→j < N→key i = key j→i = j
theorem POk.size (h:POk N p):p.size = N:=h.size_eq.trans (by rw [List.size_toArray,List.length_range])
theorem POk.get (h:POk N p) {k:Nat} (hk:k < N):∃ h:k < p.toList.length,p.getD k 0 = p.toList[k]:=by
 have hs:k < p.size:=by rw [h.size]; exact hk
 exact ⟨by rw [Array.length_toList]; exact hs,by rw [Array.getD_eq_getD_getElem?,Array.getElem?_eq_getElem hs]; rfl⟩
theorem POk.lt (h:POk N p) {k:Nat} (hk:k < N):p.getD k 0 < N:=by
 obtain ⟨h1,e⟩:=h.get hk
 rw [e]
 exact List.mem_range.mp ((Array.perm_iff_toList_perm.mp h).mem_iff.mp (List.getElem_mem h1))
theorem POk.inj (h:POk N p) {i j:Nat} (hi:i < N) (hj:j < N) (e:p.getD i 0 = p.getD j 0):i = j:=by
 obtain ⟨h1,e1⟩:=h.get hi
 obtain ⟨h2,e2⟩:=h.get hj
 exact (List.getElem_inj ((Array.perm_iff_toList_perm.mp h).nodup_iff.mpr List.nodup_range)).mp (e1.symm.trans (e.trans e2))
theorem Up.lt {k:Nat} (h:Up key p k):∀ {j i:Nat},i < j→j < k→O.klt (KP key p i) (KP key p j)
 | j + 1,i,hij,hj=>(Nat.lt_or_eq_of_le (Nat.le_of_lt_succ hij)).elim (fun q=>O.trans _ _ _ (h.lt q (Nat.lt_of_succ_lt hj)) (h j hj)) fun q=>q ▸ h i (q ▸ hj)
theorem POk.cut (h:POk N p) (hc:CmpOk O key N cmp s) {n:Nat} (hn:n + 1 < N) (h1:O.blt (KP key p (n + 1)) (KP key p n) = false):O.klt (KP key p n) (KP key p (n + 1)):=by
 cases e:O.blt (KP key p n) (KP key p (n + 1)) with
 | true=>exact e
 | false=>exact absurd (h.inj hn (Nat.lt_of_succ_lt hn) (hc.d _ _ (h.lt hn) (h.lt (Nat.lt_of_succ_lt hn)) (O.total _ _ h1 e))) (Nat.succ_ne_self n)
theorem asc_ok (hc:CmpOk O key N cmp s) (hp:POk N p) {nrem:Nat} (hn:nrem≤N) {Q:Nat→Shared→Prop}:∀ (f n:Nat),(n + 1) + f = nrem→Up key p (n + 1) →
  (∀ m,n≤m→m < nrem→Up key p (m + 1)→(m + 1 = nrem ∨ O.klt (KP key p (m + 1)) (KP key p m))→Q (m + 1) s)→(kas_asc p f (n + 1)).kasWp cmp Q s
 | 0,n,h2,hs,q=>q n (Nat.le_refl _) (Nat.lt_of_succ_le (Nat.le_of_eq h2)) hs (.inl h2)
 | f + 1,n,h2,hs,q=>by
  have hlt:n + 1 < nrem:=Nat.lt_of_lt_of_le (Nat.lt_add_of_pos_right (Nat.succ_pos f)) (Nat.le_of_eq h2)
  have hN:=Nat.lt_of_lt_of_le hlt hn
  refine hc.c _ _ _ (hp.lt hN) (hp.lt (Nat.lt_of_succ_lt hN)) ?_
  show KasT.kasWp cmp (if O.blt (KP key p (n + 1)) (KP key p n) = true then .ret (n + 1) else kas_asc p f (n + 1 + 1)) Q s
  cases hl:O.blt (KP key p (n + 1)) (KP key p n) with
  | true=>exact q n (Nat.le_refl _) (Nat.lt_of_succ_lt hlt) hs (.inr hl)
  | false=>exact asc_ok hc hp hn f (n + 1) (by rw [← h2,Nat.add_assoc (n + 1),Nat.add_comm 1 f]) (fun i hi=>(Nat.lt_or_eq_of_le (Nat.le_of_lt_succ hi)).elim (hs i) fun e=>Nat.succ.inj e ▸ hp.cut hc (Nat.succ.inj e ▸ hN) (Nat.succ.inj e ▸ hl)) fun m a=>q m (Nat.le_of_succ_le a)
theorem desc_ok (hc:CmpOk O key N cmp s) (hp:POk N p) {nrem:Nat} (hn:nrem≤N) {Q:Array Nat × Nat × Nat→Shared→Prop}:∀ (f n:Nat),(n + 1) + f = nrem→Dn key p (n + 1) →
  (∀ m,m < nrem→Dn key p (m + 1)→Q (p,m + 1,0) s)→(kas_desc f p (n + 1) 0).kasWp cmp Q s
 | 0,n,h2,hs,q=>q n (Nat.lt_of_succ_le (Nat.le_of_eq h2)) hs
 | f + 1,n,h2,hs,q=>by
  have hlt:n + 1 < nrem:=Nat.lt_of_lt_of_le (Nat.lt_add_of_pos_right (Nat.succ_pos f)) (Nat.le_of_eq h2)
  have hN:=Nat.lt_of_lt_of_le hlt hn
  have h1:=hp.lt hN
  have h0:=hp.lt (Nat.lt_of_succ_lt hN)
  refine hc.c _ _ _ h1 h0 ?_
  show KasT.kasWp cmp (if O.blt (KP key p (n + 1)) (KP key p n) = true then kas_desc f p (n + 1 + 1) 0 else .ask (p.getD n 0) (p.getD (n + 1) 0) fun d=>if d = true then .ret (p,n + 1,0) else kas_desc f p (n + 1 + 1) 1) Q s
  cases hl:O.blt (KP key p (n + 1)) (KP key p n) with
  | true=>exact desc_ok hc hp hn f (n + 1) (by rw [← h2,Nat.add_assoc (n + 1),Nat.add_comm 1 f]) (fun i hi=>(Nat.lt_or_eq_of_le (Nat.le_of_lt_succ hi)).elim (hs i) fun e=>Nat.succ.inj e ▸ hl) q
  | false =>
   refine hc.c _ _ _ h0 h1 ?_
   show KasT.kasWp cmp (if O.blt (KP key p n) (KP key p (n + 1)) = true then .ret (p,n + 1,0) else kas_desc f p (n + 1 + 1) 1) Q s
   rw [show O.blt (KP key p n) (KP key p (n + 1)) = true from hp.cut hc hN hl]
   exact q n (Nat.lt_of_succ_lt hlt) hs
theorem Dn.rev (hp:POk N p) {n:Nat} (hn:n≤N) (hs:Dn key p n):Up key (kas_rev p 0 n) n:=fun i hi=>by
 have e:∀ k,k < n→KP key (kas_rev p 0 n) k = KP key p (n - 1 - k):=fun k hk=>KP_congr (by
  have e:(kas_rev p 0 n)[k]? = _:=getElem?_mirror_all (i:=0) (by rw [hp.size]; exact hn) k
  rw [e,if_pos ⟨Nat.zero_le _,hk⟩,Nat.zero_add])
 have lt:i < n - 1:=Nat.lt_sub_of_add_lt hi
 have e2:n - 1 - i = n - 1 - (i + 1) + 1:=(Nat.succ_pred_eq_of_pos (Nat.sub_pos_of_lt lt)).symm
 rw [e i (Nat.lt_of_succ_lt hi),e (i + 1) hi,e2]
 exact hs _ (e2 ▸ Nat.lt_of_le_of_lt (Nat.sub_le _ _) (Nat.sub_lt (Nat.lt_of_le_of_lt (Nat.zero_le _) hi) Nat.one_pos))
theorem count_ok {Q:Nat × Array Nat→Shared→Prop} (hp:POk (N + 1) p) (hc:CmpOk O key (N + 1) cmp s) (q:∀ m p',POk (N + 1) p'→m≤N→Up key p' (m + 1)→Q (m + 1,p') s):(kas_count (N + 1) p).kasWp cmp Q s:=by
 delta kas_count
 rw [KasT.kasWp_bind]
 refine asc_ok hc hp (Nat.le_refl _) N 0 (Nat.add_comm 1 N) (fun i hi=>absurd hi (Nat.not_lt.mpr (Nat.le_add_left 1 i))) fun n _ hn2 hsn hor=>?_
 have hnN:=Nat.le_of_lt_succ hn2
 by_cases hnn:n = N
 ·rw [if_pos (beq_iff_eq.mpr (congrArg (· + 1) hnn))]
  exact q n p hp hnN hsn
 ·rw [if_neg fun e=>hnn (Nat.succ.inj (beq_iff_eq.mp e))]
  have hlt:O.klt (KP key p (n + 1)) (KP key p n):=hor.resolve_left fun e=>hnn (Nat.succ.inj e)
  cases n with
  | succ n =>
   rw [if_pos (Nat.succ_lt_succ (Nat.succ_pos n))]
   refine hc.c _ _ _ (hp.lt (Nat.succ_pos N)) (hp.lt hn2) ?_
   show KasT.kasWp cmp (if O.blt (KP key p 0) (KP key p (n + 1)) = true then .ret (n + 1 + 1,p) else _) Q s
   rw [if_pos (show O.blt (KP key p 0) (KP key p (n + 1)) = true from hsn.lt (Nat.succ_pos n) (Nat.lt_succ_self _))]
   exact q (n + 1) p hp hnN hsn
  | zero =>
   rw [if_neg (Nat.lt_irrefl 1)]
   have h2:1 < N + 1:=Nat.succ_lt_succ (Nat.pos_of_ne_zero fun e=>hnn e.symm)
   delta kas_descPart
   rw [KasT.kasWp_bind]
   refine desc_ok hc hp (Nat.le_refl _) _ 1 (Nat.add_sub_of_le h2) (fun i hi=>by
    cases i with
    | zero=>exact hlt
    | succ i=>exact absurd hi (Nat.not_lt.mpr (Nat.le_add_left 2 i))) fun m hm hd=>?_
   show ((if 0 > 0 then _ else kas_tail3 (m + 1) (N + 1) p).kasWp cmp Q s)
   rw [if_neg (Nat.lt_irrefl 0)]
   delta kas_tail3
   rw [KasT.kasWp_bind]
   have hr:POk (N + 1) (kas_rev p 0 (m + 1)):=(mirror_perm p 0 (m + 1) _).trans hp
   exact asc_ok hc hr (Nat.le_refl _) _ m (Nat.add_sub_of_le hm) (hd.rev hp hm) fun k _ a2 a3 _=>q k _ hr (Nat.le_of_lt_succ a2) a3
theorem place_ok (hc:CmpOk O key N cmp s) (hp:POk N p) {k:Nat} (hk:k < N) (hs:Up key p k) {Q:Nat→Shared→Prop} (q:∀ l,l≤k→(∀ i,i < l→O.klt (KP key p i) (KP key p k))→(∀ i,l≤i→i < k→O.klt (KP key p k) (KP key p i))→Q l s) :
  ∀ (f l r:Nat),l≤r→r≤k→r≤l + f→(∀ i,i < l→O.klt (KP key p i) (KP key p k))→(∀ i,r≤i→i < k→O.klt (KP key p k) (KP key p i))→(kas_place p k f l r).kasWp cmp Q s
 | 0,l,r,h1,h2,h3,hlo,hhi=>q l (Nat.le_trans h1 h2) hlo fun i a b=>hhi i (Nat.le_trans h3 a) b
 | f + 1,l,r,h1,h2,h3,hlo,hhi=>by
  unfold kas_place
  by_cases hge:l ≥ r
  ·rw [if_pos hge]
   exact q l (Nat.le_trans h1 h2) hlo fun i a b=>hhi i (Nat.le_trans hge a) b
  ·rw [if_neg hge]
   have m1:l≤(l + r) / 2:=(Nat.le_div_iff_mul_le Nat.two_pos).mpr (by rw [Nat.mul_two]; exact Nat.add_le_add_left h1 l)
   have m2:(l + r) / 2 < r:=Nat.div_lt_of_lt_mul (by rw [Nat.two_mul]; exact Nat.add_lt_add_right (Nat.not_le.mp hge) r)
   have mk:=Nat.lt_of_lt_of_le m2 h2
   have h4:(l + r) / 2≤l + f:=Nat.le_of_lt_succ (Nat.lt_of_lt_of_le m2 h3)
   revert m1 m2 mk h4
   generalize (l + r) / 2 = m
   intro m1 m2 mk h4
   refine hc.c _ _ _ (hp.lt hk) (hp.lt (Nat.lt_trans mk hk)) ?_
   show KasT.kasWp cmp (if O.blt (KP key p k) (KP key p m) = true then kas_place p k f l m else kas_place p k f (m + 1) r) Q s
   cases hl:O.blt (KP key p k) (KP key p m) with
   | true=>exact place_ok hc hp hk hs q f l m m1 (Nat.le_of_lt mk) h4 hlo fun i a b=>(Nat.lt_or_eq_of_le a).elim (fun a=>O.trans _ _ _ hl (hs.lt a b)) fun e=>e ▸ hl
   | false =>
    have hmk:O.klt (KP key p m) (KP key p k):=by
     cases e:O.blt (KP key p m) (KP key p k) with
     | true=>exact e
     | false=>exact absurd (hp.inj hk (Nat.lt_trans mk hk) (hc.d _ _ (hp.lt hk) (hp.lt (Nat.lt_trans mk hk)) (O.total _ _ hl e))) (Nat.ne_of_gt mk)
    exact place_ok hc hp hk hs q f (m + 1) r m2 h2 (Nat.le_trans h3 (by rw [Nat.add_assoc m,Nat.add_comm 1 f]; exact Nat.add_le_add_right m1 (f + 1))) (fun i a=>(Nat.lt_or_eq_of_le (Nat.le_of_lt_succ a)).elim (fun a=>O.trans _ _ _ (hs.lt a mk) hmk) fun e=>e ▸ hmk) hhi
theorem KP_bubble {xs:Array Nat} {src l:Nat} (hs:src < xs.size) (hl:l≤src) (k:Nat) :
  KP key (bubble xs src (src - l)) k = if k = l then KP key xs src else if l < k∧k≤src then KP key xs (k - 1) else KP key xs k:=by
 have e:=getElem?_bubble hs (src - l) (Nat.sub_le _ _) k
 rw [Nat.sub_sub_self hl] at e
 by_cases h1:k = l
 ·rw [if_pos h1] at e ⊢; exact KP_congr e
 ·rw [if_neg h1] at e ⊢
  by_cases h2:l < k∧k≤src
  ·rw [if_pos h2] at e ⊢; exact KP_congr e
  ·rw [if_neg h2] at e ⊢; exact KP_congr e
theorem bins_ok (hc:CmpOk O key N cmp s) {Q:Array Nat→Shared→Prop}:∀ (f k:Nat) (p:Array Nat),POk N p→k + f = N→Up key p k→(∀ p',POk N p'→Up key p' N→Q p' s)→(kas_bin f p k).kasWp cmp Q s
 | 0,k,p,hp,h2,hs,q=>q p hp (h2 ▸ hs)
 | f + 1,k,p,hp,h2,hs,q=>by
  unfold kas_bin
  rw [KasT.kasWp_bind]
  have hk:k < N:=Nat.lt_of_lt_of_le (Nat.lt_add_of_pos_right (Nat.succ_pos f)) (Nat.le_of_eq h2)
  refine place_ok hc hp hk hs (fun l hlk hlo hhi=>?_) k 0 k (Nat.zero_le _) (Nat.le_refl _) (Nat.le_add_left _ _) (fun i hi=>absurd hi (Nat.not_lt_zero i)) fun i a b=>absurd b (Nat.not_lt.mpr a)
  refine bins_ok hc f (k + 1) _ ((bubble_perm p k (k - l)).trans hp) (by rw [← h2,Nat.add_assoc,Nat.add_comm 1 f]) (fun i hi=>?_) q
  have hks:k < p.size:=by rw [hp.size]; exact hk
  rw [KP_bubble hks hlk,KP_bubble hks hlk]
  have hi:=Nat.le_of_lt_succ hi
  rcases Nat.lt_trichotomy i l with h | h | h
  ·rw [if_neg (Nat.ne_of_lt h),if_neg fun e=>absurd e.1 (Nat.not_lt.mpr (Nat.le_of_lt h))]
   by_cases e:i + 1 = l
   ·rw [if_pos e]; exact hlo i h
   ·rw [if_neg e,if_neg fun w=>absurd h (Nat.not_lt.mpr (Nat.le_of_lt_succ w.1))]
    exact hs i (Nat.lt_of_lt_of_le (Nat.lt_of_le_of_ne h e) hlk)
  ·subst h
   rw [if_pos rfl,if_neg (Nat.succ_ne_self i),if_pos ⟨Nat.lt_succ_self i,hi⟩]
   exact hhi i (Nat.le_refl _) hi
  ·rw [if_neg (Nat.ne_of_gt h),if_pos ⟨h,Nat.le_of_lt hi⟩,if_neg (Nat.ne_of_gt (Nat.lt_succ_of_lt h)),if_pos ⟨Nat.lt_succ_of_lt h,hi⟩]
   cases i with
   | zero=>exact absurd h (Nat.not_lt_zero l)
   | succ i=>exact hs i hi
theorem sort_ok (hc:CmpOk O key (N + 1) cmp s) {Q:Array Nat→Shared→Prop} (q:∀ p',POk (N + 1) p'→Up key p' (N + 1)→Q p' s):(kas_sort (N + 1)).kasWp cmp Q s:=by
 delta kas_sort
 rw [KasT.kasWp_bind]
 refine count_ok (N:=N) (Array.Perm.refl _) hc fun m p' a1 a3 a4=>?_
 show (if m + 1 < N + 1 then kas_bin (N + 1 - max (m + 1) 1) p' (max (m + 1) 1) else .ret p').kasWp cmp Q s
 rw [Nat.max_eq_left (Nat.le_add_left 1 m)]
 by_cases hm:m + 1 < N + 1
 ·rw [if_pos hm]
  exact bins_ok hc _ _ p' a1 (Nat.add_sub_of_le (Nat.le_of_lt hm)) a4 q
 ·rw [if_neg hm]
  exact q p' a1 fun i hi=>a4 i (Nat.lt_of_lt_of_le hi (Nat.not_lt.mp hm))
end
end Mine.Internal
namespace Mine.Internal
open PySem PySem.W PyProof.Rows PySem.Calls
noncomputable def rlt:List Int→List Int→Bool
 | [],[]=>false
 | [],_ :: _=>true
 | _ :: _,[]=>false
 | a :: r,b :: t=>if a = b then rlt r t else decide (a < b)
noncomputable def natO:KeyOrd:=⟨Nat,fun a b=>decide (a < b),fun a=>decide_eq_false (Nat.lt_irrefl a),fun a b c h1 h2=>decide_eq_true (Nat.lt_trans (of_decide_eq_true h1) (of_decide_eq_true h2)),
 fun a b c h=>(Nat.lt_or_ge a b).imp (fun h=>decide_eq_true h) fun q=>decide_eq_true (Nat.lt_of_le_of_lt q (of_decide_eq_true h)),fun a b h1 h2=>Nat.le_antisymm (Nat.not_lt.mp (of_decide_eq_false h2)) (Nat.not_lt.mp (of_decide_eq_false h1))⟩
noncomputable def rix (k:List Int):Nat:=rowsI.idxOf k
theorem rlt_ix:(rowsI.all fun a=>rowsI.all fun b=>rlt a b == decide (rix a < rix b)) = true:=by decide +kernel
theorem rows_up:rowsI.Pairwise fun a b=>rix a < rix b:=by decide +kernel
theorem rix_inj {a b:List Int} (ha:a∈rowsI) (h:rix a = rix b):a = b:=by
 have l:rix a < rowsI.length:=List.idxOf_lt_length_iff.mpr ha
 rw [← List.getElem_idxOf l]
 have l2:rix b < rowsI.length:=h ▸ l
 rw [← List.getElem_idxOf l2]
 exact getElem_congr rfl h _
theorem beqs_ints:∀ {l:List V} {k:List Int},beqs l (k.map .int) = true→l = k.map .int
 | [],[],_=>rfl
 | [],_ :: _,h=>absurd h Bool.false_ne_true
 | _ :: _,[],h=>absurd h Bool.false_ne_true
 | v :: l,i :: k,h=>by
  have h:=Bool.and_eq_true_iff.mp (show (V.beq v (.int i) && beqs l (k.map .int)) = true from h)
  rw [beqs_ints h.2,List.map_cons,show v = .int i by
   have h1:=h.1
   cases v <;> first | exact congrArg V.int (of_decide_eq_true h1) | exact absurd h1 Bool.false_ne_true]
theorem beq_row {r:V} {k:List Int} (h:V.beq r (rowV k) = true):r = rowV k:=by
 cases r <;> first | exact congrArg V.tup (beqs_ints h) | exact absurd h Bool.false_ne_true
theorem beqs_rfl:∀ k:List Int,beqs (k.map .int) (k.map .int) = true
 | []=>rfl
 | i :: k=>Bool.and_eq_true_iff.mpr ⟨decide_eq_true rfl,beqs_rfl k⟩
theorem rowOk_of {r:V} (h:rowOk r = true):∃ k∈rowsI,r = rowV k:=by
 obtain ⟨k,hk,e⟩:=List.any_eq_true.mp h
 exact ⟨k,hk,beq_row e⟩
theorem rowOj_of {r:V} (h:rowOj r = true):∃ k∈rowsJ,r = rowV k:=by
 obtain ⟨k,hk,e⟩:=List.any_eq_true.mp h
 exact ⟨k,hk,beq_row e⟩
theorem rows_JI:(rowsJ.all fun k=>rowsI.contains k) = true:=by decide +kernel
theorem row_JI {k:List Int} (h:k∈rowsJ):k∈rowsI:=List.contains_iff_mem.mp (List.all_eq_true.mp rows_JI k h)
theorem rowOk_at {k:List Int} (h:k∈rowsI):rowOk (rowV k) = true:=List.any_eq_true.mpr ⟨k,h,beqs_rfl k⟩
theorem rowOj_ok {l:List V} (h:l.all rowOj = true):l.all rowOk = true:=List.all_eq_true.mpr fun x hx=>(rowOj_of (List.all_eq_true.mp h x hx)).elim fun k w=>by rw [w.2]; exact rowOk_at (row_JI w.1)
theorem ints_inj:∀ {a b:List Int},a.map V.int = b.map V.int→a = b
 | [],[],_=>rfl
 | [],_ :: _,h=>nomatch h
 | _ :: _,[],h=>nomatch h
 | a :: r,b :: t,h=>by
  have h:=List.cons.inj h
  have h1:a = b:=by cases h.1; rfl
  rw [h1,ints_inj h.2]
theorem rowV_inj {a b:List Int} (h:rowV a = rowV b):a = b:=ints_inj (by
 have h:V.tup _ = V.tup _:=h
 cases a <;> cases b <;> (injection h))
theorem sortB_mem {l:List V} {k:List Int} (hk:k∈rowsI):rowV k∈sortB l ↔ rowV k∈l:=by
 delta sortB
 rw [List.mem_filter,List.any_eq_true]
 exact ⟨fun h=>h.2.elim fun x w=>beq_row w.2 ▸ w.1,fun h=>⟨List.mem_map.mpr ⟨k,hk,rfl⟩,rowV k,h,beqs_rfl k⟩⟩
noncomputable def ikey (v:V):List Int:=match v with
 | .tup l=>l.map fun | .int i=>i | _=>0
 | _=>[]
noncomputable def rkey (v:V):Nat:=rix (ikey v)
theorem ikey_row (k:List Int):ikey (rowV k) = k:=by
 show (k.map V.int).map _ = k
 rw [List.map_map]
 exact List.map_id k
theorem rkey_row (k:List Int):rkey (rowV k) = rix k:=congrArg rix (ikey_row k)
theorem sortB_up (l:List V):(sortB l).Pairwise fun a b=>rkey a < rkey b :=
 List.Pairwise.filter _ (List.pairwise_map.mpr (rows_up.imp fun {a b} h=>by rw [rkey_row,rkey_row]; exact h))
theorem up_nodup {k:List V} (h:k.Pairwise fun a b=>rkey a < rkey b):k.Nodup:=List.Pairwise.imp (fun {a b} (q:rkey a < rkey b) (e:a = b)=>Nat.ne_of_lt q (congrArg rkey e)) h
theorem mem_sortB {l:List V} (hl:l.all rowOk = true) (x:V):x∈l ↔ x∈sortB l :=
 ⟨fun h=>(rowOk_of (List.all_eq_true.mp hl x h)).elim fun q w=>by rw [w.2] at h ⊢; exact (sortB_mem w.1).mpr h,fun h=>(List.mem_map.mp (List.mem_filter.mp h).1).elim fun q w=>by rw [← w.2] at h ⊢; exact (sortB_mem w.1).mp h⟩
theorem sortB_perm {l:List V} (hl:l.all rowOk = true) (nd:l.Nodup):l.Perm (sortB l):=(List.perm_ext_iff_of_nodup nd (up_nodup (sortB_up l))).mpr (mem_sortB hl)
theorem sort_uniq {l k:List V} (hl:l.all rowOk = true) (hm:k.Perm l) (nd:l.Nodup) (hs:k.Pairwise fun a b=>rkey a < rkey b):k = sortB l :=
 List.Perm.eq_of_pairwise (le:=fun a b=>rkey a < rkey b) (fun a b ha hb h1 h2=>absurd (Nat.lt_trans h1 h2) (Nat.lt_irrefl _)) hs (sortB_up l) (hm.trans (sortB_perm hl nd))
theorem nodV_of:∀ {l:List V},l.all rowOk = true→nodV l = true→l.Nodup
 | [],_,_=>List.nodup_nil
 | x :: r,hl,h=>by
  have hl:=Bool.and_eq_true_iff.mp hl
  have h:=Bool.and_eq_true_iff.mp h
  refine List.nodup_cons.mpr ⟨fun m=>?_,nodV_of hl.2 h.2⟩
  obtain ⟨q,_,e⟩:=rowOk_of hl.1
  have w:(r.any (V.beq x)) = true:=List.any_eq_true.mpr ⟨x,m,by rw [e]; exact beqs_rfl q⟩
  rw [w] at h
  exact absurd h.1 Bool.false_ne_true
end Mine.Internal
namespace Mine.Internal
open PySem PySem.W PyProof.Rows PySem.Calls
section
variable {D:Wd} {N:Nx} {prog:Program} {w:World} {A:Around} {E:PV→Shared→Prop} {s:Shared}
theorem lex_ints {Q:Bool→Shared→Prop}:∀ {k e:List Int} {vs ws:List PV} (i:Nat),RVs D N (k.map .int) vs→RVs D N (e.map .int) ws→Q (rlt k e) s→KatLex prog w A true (decide (vs.length < ws.length)) Q (vs.zip ws) i s:=by
 intro k
 induction k with
 | nil =>
  intro e vs ws i r1 r2 q
  cases (r1:vs = [])
  cases e with
  | nil=>cases (r2:ws = []); exact kat_nil q
  | cons b e =>
   obtain ⟨v,t,rfl,_⟩:=r2
   exact kat_nil (by rw [show decide (([]:List PV).length < (v :: t).length) = true from decide_eq_true (Nat.succ_pos _)]; exact q)
 | cons a k ih =>
  intro e vs ws i r1 r2 q
  cases e with
  | nil =>
   cases (r2:ws = [])
   obtain ⟨v,t,rfl,_⟩:=r1
   exact kat_nil (by rw [show decide ((v :: t).length < ([]:List PV).length) = false from decide_eq_false (Nat.not_lt_zero _)]; exact q)
  | cons b e =>
   obtain ⟨_,vs,rfl,⟨t1,rfl⟩,r1⟩:=r1
   obtain ⟨_,ws,rfl,⟨t2,rfl⟩,r2⟩:=r2
   rw [List.zip_cons_cons]
   refine kat_cons (wpAny_eqBool_int ?_)
   have q:Q (if a = b then rlt k e else decide (a < b)) s:=q
   by_cases h:a = b
   ·subst h
    rw [if_pos rfl] at q
    rw [beq_self_eq_true]
    have w:=ih (i + 1) r1 r2 q
    rw [show decide (vs.length < ws.length) = decide ((PySem.Value.int a t1 :: vs).length < (PySem.Value.int a t2 :: ws).length) from decide_eq_decide.mpr Nat.succ_lt_succ_iff.symm] at w
    exact kat_yes w
   ·rw [if_neg h] at q
    rw [show (a == b) = false from beq_eq_false_iff_ne.mpr h]
    refine kat_no ?_
    cases i with
    | zero=>exact oneLt_int q
    | succ i=>exact kat_one _ _ (lt_int q)
noncomputable def RowAt (D:Wd) (N:Nx) (h:Heap) (v:PV) (k:List Int):Prop:=∃ a arr n,v = .ref a∧h.get? a = some { cls:=.type "tuple",dict:=none,data:=.seq arr n,slots:=#[] }∧RVs D N (k.map .int) arr.toList∧k∈rowsI
theorem RowAt.mono {h h':Heap} {v:PV} {k:List Int} (x:RowAt D N h v k) (hk:∀ a o,v = .ref a→h.get? a = some o→h'.get? a = some o):RowAt D N h' v k:=x.elim fun a q=>q.elim fun arr q=>q.elim fun n q=>⟨a,arr,n,q.1,hk a _ q.1 q.2.1,q.2.2⟩
theorem rows_cmp {vs:List PV} {key:Nat→List Int} (hr:∀ i v,vs[i]? = some v→RowAt D N s.heap v (key i)) (hd:∀ i j,i < vs.length→j < vs.length→rix (key i) = rix (key j)→i = j):CmpOk natO (fun i=>rix (key i)) vs.length (kas_ask prog w A (tuples' true) vs) s:=by
 refine ⟨fun i j C hi hj q=>?_,hd⟩
 obtain ⟨a,arr,k1,ea,t1,r1,m1⟩:=hr i vs[i] (List.getElem?_eq_getElem hi)
 obtain ⟨b,brr,k2,eb,t2,r2,m2⟩:=hr j vs[j] (List.getElem?_eq_getElem hj)
 delta kas_ask
 rw [show vs.getD i Value.none = vs[i] by rw [List.getD_eq_getElem?_getD,List.getElem?_eq_getElem hi]; rfl,show vs.getD j Value.none = vs[j] by rw [List.getD_eq_getElem?_getD,List.getElem?_eq_getElem hj]; rfl,ea,eb]
 refine kat_lt t1 rfl t2 rfl ?_
 have w:=lex_ints (prog:=prog) (w:=w) (A:=A) (s:=s) (Q:=C) 0 r1 r2 (by
  rw [eq_of_beq (List.all_eq_true.mp (List.all_eq_true.mp rlt_ix _ m1) _ m2)]; exact q)
 rw [Array.length_toList,Array.length_toList] at w
 exact w
theorem rows_kind {vs:List PV} {key:Nat→List Int} (hr:∀ i v,vs[i]? = some v→RowAt D N s.heap v (key i)) (h2:1≤vs.length) {Q:SortKind→Shared→Prop} (q:Q (tuples' true) s):wpAny (model prog w) A (keyKind' vs.toArray) Q E s:=by
 have fs:∀ (l:List PV),(∀ v∈l,∃ k,RowAt D N s.heap v k)→∃ f:List PV,KatTups s.heap l f∧f.length = l.length∧∀ v∈f,∃ n t,v = .int n t:=by
  intro l
  induction l with
  | nil=>exact fun _=>⟨[],KatTups.nil,rfl,fun _ h=>nomatch h⟩
  | cons v l ih =>
   intro h
   obtain ⟨f,t,hl,hi⟩:=ih fun v hv=>h v (List.mem_cons_of_mem _ hv)
   obtain ⟨k,a,⟨xs⟩,kk,rfl,ta,r,m⟩:=h v (List.mem_cons_self ..)
   cases k with
   | nil=>exact absurd m (by decide)
   | cons n k =>
    obtain ⟨_,xs',e,⟨t',rfl⟩,r⟩:=r
    have e:xs = _:=e
    subst e
    exact ⟨.int n t' :: f,KatTups.cons ta rfl rfl rfl t,congrArg (· + 1) hl,fun z hz=>(List.mem_cons.mp hz).elim (fun e=>⟨n,t',e⟩) (hi z)⟩
 obtain ⟨f,t,hl,hi⟩:=fs vs fun v hv=>(List.getElem?_of_mem hv).elim fun i hi=>⟨_,hr i v hi⟩
 exact kat_kind t (by rw [hl]; exact h2) (T:=.type "int") (fun v hv=>(hi v hv).elim fun n w=>w.elim fun t e=>e ▸ .now) (by decide) q
end
end Mine.Internal
namespace Mine.Internal
open PySem PySem.W PyProof.Rows PySem.Calls
section
variable {D:Wd} {N:Nx} {prog:Program} {w:World} {A:Around} {E:PV→Shared→Prop} {s:Shared}
noncomputable def pick (vs:List PV) (p:Array Nat):List PV:=p.toList.map fun i=>vs.getD i Value.none
theorem pick_id {vs:List PV}:List.toArray (pick vs (List.toArray (List.range vs.length))) = (pairsOf vs).map (·.2):=by
 apply Array.toList_inj.mp
 rw [Array.toList_map,pairsOf_toList]
 show (List.range vs.length).map (fun i=>vs.getD i Value.none) = _
 refine List.ext_getElem (by simp) fun i h1 h2=>?_
 rw [List.length_map,List.length_range] at h1
 simp [h1]
theorem sort_rows {a:Addr} {vs:List PV} {n:Nat} {key:Nat→List Int} {P:PySem.Fin→Shared→Prop} (ho:s.heap.get? a = some (seqObj "list" vs.toArray n)) (hr:∀ i v,vs[i]? = some v→RowAt D N s.heap v (key i)) (hd:∀ i j,i < vs.length→j < vs.length→rix (key i) = rix (key j)→i = j) (h64:vs.length < 64)
  (h:∀ p:Array Nat,POk vs.length p→Up (O:=natO) (fun i=>rix (key i)) p vs.length→P (.done (.ret .none)) { s with heap:=sortedHeap s.heap a vs (List.toArray (pick vs p)) }) :
  wpAny (model prog w) A (Builtin.«list.sort» ⟨[.ref a],[]⟩) P E s:=by
 rw [list_sort_plain]
 have ha:a < s.heap.objs.size:=Heap.lt_size ho
 have hz:∀ {n:Nat},n = vs.length→n≤sizeLine:=fun e=>by rw [sizeLine_eq,e]; exact Nat.le_trans (Nat.le_of_lt h64) (by decide)
 refine wpAny_bind (listItems_at ho rfl ?_)
 refine wpAny_bind (listUpdate_at ho rfl ?_ (hz (List.size_toArray ..)) (Nat.zero_le _))
 obtain ⟨e1,ho1⟩:∃ e1,(s.heap.update a (Obj.mapSeq fun _=>#[])).get? a = some (seqObj "list" #[] e1):=⟨_,get?_update_seq ho (fun _=>#[])⟩
 refine wpAny_bind (seqEpoch_at ho1 rfl ?_)
 refine wpAny_bind (wpAny_newTuple ?_ (hz rfl))
 refine wpAny_bind (wpAny_newList ?_ (Nat.zero_le _))
 refine wpAny_holding ?_
 have ho6:(((s.heap.update a (Obj.mapSeq fun _=>#[])).push (seqObj "tuple" vs.toArray 0)).push (seqObj "list" #[] 0)).get? a = some (seqObj "list" #[] e1):=Heap.get?_push_of_some _ (Heap.get?_push_of_some _ ho1)
 show wpAny (model prog w) A _ P E { s with heap:=((s.heap.update a (Obj.mapSeq fun _=>#[])).push (seqObj "tuple" vs.toArray 0)).push (seqObj "list" #[] 0) }
 dsimp only
 have hsz:vs.toArray.size = vs.length:=List.size_toArray ..
 by_cases h2:vs.toArray.size < 2
 ·rw [if_pos h2,if_pos h2]
  refine wpAny_bind (wpAny_pure ?_)
  rw [StateT.run_pure]
  refine wpAny_bind (wpAny_pure ?_)
  dsimp only
  refine wpAny_bind (seqEpoch_at ho6 rfl ?_)
  refine wpAny_bind (listUpdate_at ho6 rfl ?_ (hsz2:=by rw [Array.size_map]; exact Nat.le_succ_of_le (hz (pairsOf_size vs))))
  simp only [bne_self_eq_false,Bool.false_eq_true,if_false]
  refine wpAny_pure ?_
  have w:=h (List.toArray (List.range vs.length)) (Array.Perm.refl _) fun i hi=>absurd (Nat.lt_of_lt_of_le hi (Nat.le_of_lt_succ (hsz ▸ h2))) (Nat.not_lt.mpr (Nat.le_add_left 1 i))
  rw [pick_id] at w
  exact w
 ·rw [if_neg h2,if_neg h2]
  have h2:2≤vs.length:=hsz ▸ Nat.not_lt.mp h2
  have hr2:∀ i v,vs[i]? = some v→RowAt D N (((s.heap.update a (Obj.mapSeq fun _=>#[])).push (seqObj "tuple" vs.toArray 0)).push (seqObj "list" #[] 0)) v (key i):=fun i v hv=>(hr i v hv).mono fun b o eb eo=>by
   have nb:b ≠ a:=fun e=>by
    subst e
    obtain ⟨b',arr,n',e2,t,_⟩:=hr i v hv
    cases eb.symm.trans e2
    have w:=congrArg Obj.cls (Option.some.inj (ho.symm.trans t))
    exact absurd (Value.type.inj (show PySem.Value.type "list" = .type "tuple" from w)) (by decide)
   exact Heap.get?_push_of_some _ (Heap.get?_push_of_some _ (by rw [Heap.get?_update_ne _ _ _ _ nb]; exact eo))
  refine wpAny_bind (rows_kind hr2 (Nat.le_of_lt h2) ?_)
  have srt:(kas_sort vs.length).kasWp (kas_ask prog w A (tuples' true) vs) (fun p s'=>s' = { s with heap:=((s.heap.update a (Obj.mapSeq fun _=>#[])).push (seqObj "tuple" vs.toArray 0)).push (seqObj "list" #[] 0) }∧POk vs.length p∧Up (O:=natO) (fun i=>rix (key i)) p vs.length) { s with heap:=((s.heap.update a (Obj.mapSeq fun _=>#[])).push (seqObj "tuple" vs.toArray 0)).push (seqObj "list" #[] 0) }:=by
   have w:=rows_cmp (prog:=prog) (w:=w) (A:=A) (s:={ s with heap:=((s.heap.update a (Obj.mapSeq fun _=>#[])).push (seqObj "tuple" vs.toArray 0)).push (seqObj "list" #[] 0) }) hr2 hd
   revert w h2
   generalize vs.length = n
   intro h2 w
   cases n with
   | zero=>exact absurd h2 (Nat.not_succ_le_zero 1)
   | succ n=>exact sort_ok w fun p' a1 a2=>⟨rfl,a1,a2⟩
  refine wpAny_bind (wpAny_mono (kat_run (E:=E) (ks:=vs) (Q:=fun st' s'=>s' = { s with heap:=((s.heap.update a (Obj.mapSeq fun _=>#[])).push (seqObj "tuple" vs.toArray 0)).push (seqObj "list" #[] 0) }∧∃ p:Array Nat,POk vs.length p∧Up (O:=natO) (fun i=>rix (key i)) p vs.length∧arrOf st' = p.map (kas_item (vs.toArray.zip vs.toArray))∧failedOf st' = none)
   rfl h2 h64 (fun p st' s' a1 a2 a3 a4=>⟨a4.1,p,a4.2.1,a4.2.2,a2,a3⟩) srt) ?_ fun _ _ e=>e)
  rintro ⟨⟨⟩,st'⟩ s' ⟨rfl,p,hp,hs,har,hf⟩
  dsimp only
  have hout:=kat_snds (ks:=vs) (vs:=vs) rfl har
  refine wpAny_bind (seqEpoch_at ho6 rfl ?_)
  refine wpAny_bind (listUpdate_at ho6 rfl ?_ (hsz2:=by rw [hout,List.size_toArray,List.length_map,Array.length_toList]; exact Nat.le_succ_of_le (hz hp.size)))
  rw [hf,hout]
  simp only [bne_self_eq_false,Bool.false_eq_true,if_false]
  exact wpAny_pure (h p hp hs)
theorem sorted_rows {l:Addr} {vs:List PV} {key:Nat→List Int} {Q:PV→Shared→Prop} (hl:s.heap.IsList l vs.toArray) (hr:∀ i v,vs[i]? = some v→RowAt D N s.heap v (key i)) (hd:∀ i j,i < vs.length→j < vs.length→rix (key i) = rix (key j)→i = j) (h64:vs.length < 64)
  (h:∀ p:Array Nat,POk vs.length p→Up (O:=natO) (fun i=>rix (key i)) p vs.length→Q (.ref (s.heap.objs.size + 1)) { s with heap:=sortedAll s.heap vs (List.toArray (pick vs p)) }) :
  wpAny (model prog w) A (call (.builtin "sorted") [.ref l]) Q E s:=by
 have hz:vs.length≤sizeLine:=by rw [sizeLine_eq]; exact Nat.le_trans (Nat.le_of_lt h64) (by decide)
 refine Calls.call_function_entry kind_sorted plain_sorted entry_sorted (args_sorted1 _) ?_
 delta Builtin.«sorted»
 refine wpAny_bind (m:=checkCount "sorted" 1 1 _) (wpAny_pure ?_)
 refine wpAny_bind (collect_list hl ?_ hz)
 refine wpAny_bind (wpAny_newList ?_ hz)
 have hsz:((s.heap.push (seqObj "list" #[] 0)).update s.heap.objs.size (Obj.mapSeq (·++vs.toArray))).objs.size = s.heap.objs.size + 1:=by
  rw [Heap.size_update,size_push']
 have hoL:(((s.heap.push (seqObj "list" #[] 0)).update s.heap.objs.size (Obj.mapSeq (·++vs.toArray))).push (seqObj "list" vs.toArray 0)).get? (s.heap.objs.size + 1) = some (seqObj "list" vs.toArray 0):=by
  rw [← hsz]; exact Heap.get?_push_size _ rfl
 have keep:∀ b o,s.heap.get? b = some o→(((s.heap.push (seqObj "list" #[] 0)).update s.heap.objs.size (Obj.mapSeq (·++vs.toArray))).push (seqObj "list" vs.toArray 0)).get? b = some o:=fun b o q =>
  Heap.get?_push_of_some _ (by rw [Heap.get?_update_ne _ _ _ _ (Nat.ne_of_lt (Heap.lt_size q))]; exact Heap.get?_push_of_some _ q)
 show wpAny _ _ _ _ _ { s with heap:=((s.heap.push (seqObj "list" #[] 0)).update s.heap.objs.size (Obj.mapSeq (·++vs.toArray))).push (seqObj "list" vs.toArray 0) }
 rw [hsz]
 refine wpAny_bind (wpAny_holding (wpAny_call_entry slot_list_sort ⟨_,hoL,rfl⟩ entry_list_sort (sort_rows hoL (fun i v hv=>(hr i v hv).mono fun b o _ eo=>keep b o eo) hd h64 fun p a1 a2=>⟨_,rfl,?_⟩) (args_list_sort _)))
 exact wpAny_pure ⟨_,rfl,h p a1 a2⟩
end
end Mine.Internal
namespace Mine.Internal
open PySem PySem.W PyProof.Rows PySem.Calls
section
variable {B:Bd} {G:Ev} {N:Nx} {u:Nat} {Q E:PV→Shared→Prop}
theorem getD_at {α:Type} {l:List α} {i:Nat} {d:α} (h:i < l.length):l.getD i d = l[i]:=by rw [List.getD_eq_getElem?_getD,List.getElem?_eq_getElem h]; rfl
theorem row_at {d:V} {v:PV} (hd:rowOk d = true) (r:Val B N d v):RowAt B.D N N.s.heap v (ikey d):=by
 obtain ⟨k,hk,rfl⟩:=rowOk_of hd
 obtain ⟨a,arr,rfl,wa,⟨n,t⟩,rs⟩:=r
 exact ⟨a,arr,n,rfl,t,by rw [ikey_row]; exact rs,by rw [ikey_row]; exact hk⟩
theorem rows_at {l:List V} {vs:List PV} (hl:l.all rowOk = true) (rs:Vals B N l vs):∀ i v,vs[i]? = some v→RowAt B.D N N.s.heap v (ikey (l.getD i .none)):=fun i v e=>by
 have hi:i < l.length:=(RVs_length rs).symm ▸ (List.getElem?_eq_some_iff.mp e).1
 obtain ⟨w,e1,r⟩:=RVs_get rs (List.getElem?_eq_getElem hi)
 cases e.symm.trans e1
 rw [getD_at hi]
 exact row_at (List.all_eq_true.mp hl _ (List.getElem_mem hi)) r
theorem RVs_pick {l:List V} {vs:List PV} (rs:Vals B N l vs):∀ (p:List Nat),(∀ i∈p,i < l.length)→Vals B N (p.map fun i=>l.getD i .none) (p.map fun i=>vs.getD i Value.none)
 | [],_=>rfl
 | i :: p,hp=>by
  have hi:=hp i (List.mem_cons_self ..)
  obtain ⟨w,e1,r⟩:=RVs_get rs (List.getElem?_eq_getElem hi)
  refine ⟨_,_,rfl,?_,RVs_pick rs p fun j hj=>hp j (List.mem_cons_of_mem _ hj)⟩
  show RV B.D N (l.getD i V.none) (vs.getD i Value.none)
  rw [getD_at hi,List.getD_eq_getElem?_getD,e1]
  exact r
theorem POk.mem {n i:Nat} {p:Array Nat} (hp:POk n p):i∈p.toList→i < n:=fun h=>List.mem_range.mp ((Array.perm_iff_toList_perm.mp hp).mem_iff.mp h)
theorem pick_perm {l:List V} {p:Array Nat} (hp:POk l.length p):(p.toList.map fun i=>l.getD i V.none).Perm l:=by
 refine ((Array.perm_iff_toList_perm.mp hp).map fun i=>l.getD i V.none).trans (List.Perm.of_eq ?_)
 refine List.ext_getElem ((List.length_map ..).trans List.length_range) fun i h1 h2=>?_
 rw [List.getElem_map,← getD_at h2 (d:=V.none)]
 exact congrArg (l.getD · V.none) (List.getElem_range ..)
theorem pick_up {l:List V} {p:Array Nat} (hp:POk l.length p) (hs:Up (O:=natO) (fun i=>rix (ikey (l.getD i .none))) p l.length):(p.toList.map fun i=>l.getD i V.none).Pairwise fun a b=>rkey a < rkey b:=by
 rw [List.pairwise_iff_getElem]
 intro i j hi hj hij
 rw [List.length_map,Array.length_toList,hp.size] at hi hj
 have h:natO.blt _ _ = true:=hs.lt hij hj
 have e:∀ {k:Nat} (hk:k < l.length) (h:k < (p.toList.map fun i=>l.getD i V.none).length),rkey ((p.toList.map fun i=>l.getD i V.none)[k]) = KP (O:=natO) (fun i=>rix (ikey (l.getD i .none))) p k:=fun hk h=>by
  rw [List.getElem_map]
  exact congrArg (fun i=>rix (ikey (l.getD i .none))) (hp.get hk).2.symm
 rw [e hi,e hj]
 exact of_decide_eq_true (p:=(_:Nat) < (_:Nat)) h
theorem ok_sorted:CallOk B u (.builtin "sorted") .sorted:=fun G N ds vs Q E K rm e sm rs z=>uno e rs fun d v hv e rv=>lst_of sm (oK_bind e) rv fun l a e hx rc=>by
 subst hv hx
 obtain ⟨hc,e⟩:=if_of e
 have hl:=and_l (and_l hc)
 have nd:=nodV_of hl (and_r (and_l hc))
 obtain ⟨arr,il,rsl⟩:=rc
 have hlen:arr.toList.length = l.length:=RVs_length rsl
 have key:∀ i (h:i < l.length),∃ k∈rowsI,l[i] = rowV k:=fun i h=>rowOk_of (List.all_eq_true.mp hl _ (List.getElem_mem h))
 refine sorted_rows (D:=B.D) (N:=N) (vs:=arr.toList) (key:=fun i=>ikey (l.getD i .none)) (by rw [Array.toArray_toList]; exact il.list) (rows_at hl rsl) (fun i j hi hj h=>?_) (hlen.symm ▸ of_decide_eq_true (and_r hc)) fun p hp hs=>?_
 ·rw [hlen] at hi hj
  obtain ⟨k1,m1,e1⟩:=key i hi
  obtain ⟨k2,m2,e2⟩:=key j hj
  replace h:rix (ikey (l.getD i .none)) = rix (ikey (l.getD j .none)):=h
  rw [getD_at hi,getD_at hj,e1,e2,ikey_row,ikey_row] at h
  exact (List.getElem_inj nd).mp (e1.trans ((congrArg rowV (rix_inj m1 h)).trans e2.symm))
 rw [hlen] at hp hs
 have eq:=sort_uniq hl (pick_perm hp) nd (pick_up hp hs)
 obtain ⟨ep,he⟩:=sortedAll_at N.s.heap arr.toList (List.toArray (pick arr.toList p))
 have m:More N { N.s with heap:=sortedAll N.s.heap arr.toList (List.toArray (pick arr.toList p)) }:=⟨fun b o e=>sortedAll_old e,rfl,rfl⟩
 have nn:¬ N.has (N.s.heap.objs.size + 1):=fun h=>absurd (has_lt h) (Nat.not_lt.mpr (Nat.le_succ _))
 have pv:=m.pv sm nn he
 have r2:=Vals.on (m.aft sm) (RVs_pick rsl p.toList fun i hi=>hp.mem hi)
 rw [eq] at r2
 exact z _ ((N.at _).wi (N.s.heap.objs.size + 1)) _ e ((m.aft sm).wi pv nn) rfl (RC_RV (d:=.list _) (.inr rfl) (RC_le Le.wi (fun _ e=>e) ⟨_,⟨ep,he⟩,r2⟩))
end
end Mine.Internal
namespace Mine.Internal
open PySem PySem.W PyProof.Rows PySem.Calls
noncomputable def advM (m:Nat) (p:SetTable.Probe):SetTable.Probe :=
 if p.more > 0 then { p with j:=p.j + 1,more:=p.more - 1 } else
 { p with j:=(SetTable.leap m p.i p.perturb).1,more:=SetTable.runEnd m (SetTable.leap m p.i p.perturb).1 - (SetTable.leap m p.i p.perturb).1,i:=(SetTable.leap m p.i p.perturb).1,perturb:=(SetTable.leap m p.i p.perturb).2 }
noncomputable def headAt (m:Nat) (h:Int):Nat→Nat × Nat
 | 0=>(SetTable.bits h % (m + 1),SetTable.bits h)
 | t + 1=>SetTable.leap m (headAt m h t).1 (headAt m h t).2
noncomputable def stOf (m:Nat) (q:Nat × Nat) (w:Nat):SetTable.Probe:=⟨q.1 + w,SetTable.runEnd m q.1 - q.1 - w,q.1,q.2,none⟩
noncomputable def pr (m:Nat) (h:Int):Nat→SetTable.Probe
 | 0=>stOf m (headAt m h 0) 0
 | k + 1=>advM m (pr m h k)
theorem run_cases (m i:Nat):(SetTable.runEnd m i = i + 9∧i + 9≤m) ∨ SetTable.runEnd m i = i:=by
 delta SetTable.runEnd
 by_cases h:i + 9≤m
 ·exact .inl ⟨if_pos h,h⟩
 ·exact .inr (if_neg h)
theorem run_ge (m i:Nat):i≤SetTable.runEnd m i:=(run_cases m i).elim (fun h=>h.1 ▸ Nat.le_add_right i 9) fun h=>Nat.le_of_eq h.symm
theorem run_le {m i:Nat} (hi:i≤m):SetTable.runEnd m i≤m:=(run_cases m i).elim (fun h=>Nat.le_trans (Nat.le_of_eq h.1) h.2) fun h=>Nat.le_trans (Nat.le_of_eq h) hi
theorem run_9 (m i:Nat):SetTable.runEnd m i - i≤9:=(run_cases m i).elim (fun h=>by rw [h.1,Nat.add_sub_cancel_left]; exact Nat.le_refl 9) fun h=>by rw [h,Nat.sub_self]; exact Nat.zero_le 9
section
variable {m:Nat} {h:Int} {r:Nat}
theorem walkW {q:Nat × Nat} (e:pr m h r = stOf m q 0):∀ w,w≤SetTable.runEnd m q.1 - q.1→pr m h (r + w) = stOf m q w
 | 0,_=>e
 | w + 1,hw=>by
  show advM m (pr m h (r + w)) = _
  rw [walkW e w (Nat.le_of_succ_le hw)]
  exact if_pos (Nat.sub_pos_of_lt hw)
theorem hopW {q:Nat × Nat} (e:pr m h r = stOf m q 0):pr m h (r + (SetTable.runEnd m q.1 - q.1) + 1) = stOf m (SetTable.leap m q.1 q.2) 0:=by
 show advM m (pr m h (r + _)) = _
 rw [walkW e _ (Nat.le_refl _)]
 exact if_neg (show ¬ SetTable.runEnd m q.1 - q.1 - (SetTable.runEnd m q.1 - q.1) > 0 by rw [Nat.sub_self]; exact Nat.lt_irrefl 0)
theorem headPos (m:Nat) (h:Int):∀ t,∃ r,r≤10 * t∧pr m h r = stOf m (headAt m h t) 0
 | 0=>⟨0,Nat.le_refl _,rfl⟩
 | t + 1=>(headPos m h t).elim fun r w=>⟨_,Nat.succ_le_succ (Nat.add_le_add w.1 (run_9 m _)),hopW w.2⟩
theorem head_lt (m:Nat) (h:Int):∀ t,(headAt m h t).1≤m
 | 0=>Nat.le_of_lt_succ (Nat.mod_lt _ (Nat.succ_pos _))
 | t + 1=>Nat.le_of_lt_succ (Nat.mod_lt _ (Nat.succ_pos _))
theorem pr_in (m:Nat) (h:Int):∀ k,∃ t w,w≤SetTable.runEnd m (headAt m h t).1 - (headAt m h t).1∧pr m h k = stOf m (headAt m h t) w
 | 0=>⟨0,0,Nat.zero_le _,rfl⟩
 | k + 1=>by
  obtain ⟨t,w,hw,e⟩:=pr_in m h k
  show ∃ t' w',_∧advM m (pr m h k) = _
  rw [e]
  rcases Nat.lt_or_eq_of_le hw with hl | he
  ·exact ⟨t,w + 1,hl,if_pos (Nat.sub_pos_of_lt hl)⟩
  ·exact ⟨t + 1,0,Nat.zero_le _,if_neg (show ¬ SetTable.runEnd m _ - _ - w > 0 by rw [he,Nat.sub_self]; exact Nat.lt_irrefl 0)⟩
theorem pr_le (k:Nat):(pr m h k).j≤m:=by
 obtain ⟨t,w,hw,e⟩:=pr_in m h k
 rw [e]
 exact Nat.le_trans (Nat.add_le_add_left hw _) (Nat.le_trans (Nat.le_of_eq (Nat.add_sub_cancel' (run_ge m _))) (run_le (head_lt m h t)))
theorem pr_dummy (k:Nat):(pr m h k).dummy = none:=by
 obtain ⟨t,w,hw,e⟩:=pr_in m h k
 rw [e]; rfl
noncomputable def orb (m:Nat):Nat→Nat × Nat→Nat→Nat
 | 0,_,acc=>acc
 | f + 1,q,acc=>orb m f (SetTable.leap m q.1 q.2) (acc ||| 1 <<< q.1)
theorem orb_bit {j:Nat}:∀ (f t acc:Nat),(orb m f (headAt m h t) acc).testBit j = true→acc.testBit j = true ∨ ∃ d,d < t + f∧(headAt m h d).1 = j
 | 0,t,acc,e=>.inl e
 | f + 1,t,acc,e=>by
  rcases orb_bit f (t + 1) _ e with h1 | ⟨d,h1,h2⟩
  ·rw [Nat.testBit_or] at h1
   refine (Bool.or_eq_true_iff.mp h1).imp id fun h1=>⟨t,Nat.lt_add_of_pos_right (Nat.succ_pos f),?_⟩
   rw [Nat.testBit_shiftLeft] at h1
   have h1:=Bool.and_eq_true_iff.mp h1
   exact Nat.le_antisymm (of_decide_eq_true h1.1) (Nat.le_of_sub_eq_zero (Nat.testBit_one_eq_true_iff_self_eq_zero.mp h1.2))
  ·exact .inr ⟨d,Nat.lt_of_lt_of_le h1 (Nat.le_of_eq (by rw [Nat.add_assoc,Nat.add_comm 1 f])),h2⟩
noncomputable def full (m:Nat) (h:Int):Bool:=orb m (SetTable.turns m) (headAt m h 0) 0 == 2 ^ (m + 1) - 1
theorem cover {j:Nat} (f:full m h = true) (hj:j≤m):∃ t,t < SetTable.turns m∧(headAt m h t).1 = j:=by
 have w:(orb m (SetTable.turns m) (headAt m h 0) 0).testBit j = true:=by
  rw [eq_of_beq f,Nat.testBit_two_pow_sub_one]
  exact decide_eq_true (Nat.lt_succ_of_le hj)
 rcases orb_bit _ _ _ w with h3 | ⟨d,h3,h4⟩
 ·rw [Nat.zero_testBit] at h3; cases h3
 ·exact ⟨d,Nat.zero_add (SetTable.turns m) ▸ h3,h4⟩
theorem least {P:Nat→Prop} (n:Nat):P n→∃ K,K≤n∧P K∧∀ k,k < K→¬ P k:=n.strongRecOn fun n ih p =>
 (Classical.em (∃ k,k < n∧P k)).elim (fun ⟨k,hk,q⟩=>(ih k hk q).elim fun K w=>⟨K,Nat.le_trans w.1 (Nat.le_of_lt hk),w.2⟩) fun no=>⟨n,Nat.le_refl _,p,fun k hk q=>no ⟨k,hk,q⟩⟩
theorem first_free {S:List Nat} (f:full m h = true) {j:Nat} (hj:j≤m) (hf:j ∉ S):∃ K,K < 10 * SetTable.turns m∧(pr m h K).j ∉ S∧∀ k,k < K→(pr m h k).j∈S:=by
 obtain ⟨t,ht,e⟩:=cover f hj
 obtain ⟨r,hr,er⟩:=headPos m h t
 obtain ⟨K,hK,h1,h2⟩:=least (P:=fun r=>(pr m h r).j ∉ S) r (by show (pr m h r).j ∉ S; rw [er]; show (headAt m h t).1 + 0 ∉ S; rw [e]; exact hf)
 exact ⟨K,Nat.lt_of_le_of_lt (Nat.le_trans hK hr) (Nat.mul_lt_mul_of_pos_left ht (by decide)),h1,fun k hk=>Classical.not_not.mp (h2 k hk)⟩
end
noncomputable def rH (k:List Int):Int:=reduceHash (Builtin.Tuple.tupleHashOf (k.map hashInt))
noncomputable def masks:List Nat:=[7,31,127]
theorem full_rows:(rowsJ.all fun k=>masks.all fun m=>full m (rH k)) = true:=by decide +kernel
theorem full_row {k:List Int} {m:Nat} (hk:k∈rowsJ) (hm:m∈masks):full m (rH k) = true:=List.all_eq_true.mp (List.all_eq_true.mp full_rows _ hk) _ hm
end Mine.Internal
namespace Mine.Internal
open PySem PySem.W PyProof.Rows PySem.Calls
section
variable {P:List Nat} {j:Nat}
theorem up_get (hp:P.Pairwise (· < ·)) {i k a b:Nat} (hik:i < k) (ha:P[i]? = some a) (hb:P[k]? = some b):a < b:=by
 obtain ⟨h1,rfl⟩:=List.getElem?_eq_some_iff.mp ha
 obtain ⟨h2,rfl⟩:=List.getElem?_eq_some_iff.mp hb
 exact List.pairwise_iff_getElem.mp hp _ _ h1 h2 hik
theorem mid_in {lo hi:Nat} (h:lo < hi):lo≤(lo + hi) / 2∧(lo + hi) / 2 < hi :=
 ⟨(Nat.le_div_iff_mul_le (by decide)).mpr (by rw [Nat.mul_comm,Nat.two_mul]; exact Nat.add_le_add_left (Nat.le_of_lt h) _),Nat.div_lt_of_lt_mul (by rw [Nat.two_mul]; exact Nat.add_lt_add_right h _)⟩
noncomputable def Cut (P:List Nat) (j r:Nat):Prop:=r≤P.length∧(∀ i v,i < r→P[i]? = some v→v < j)∧∀ i v,r≤i→P[i]? = some v→j≤v
theorem below_go (hp:P.Pairwise (· < ·)):∀ (f lo hi:Nat),hi≤P.length→lo≤hi→hi≤lo + f→(∀ i v,i < lo→P[i]? = some v→v < j)→(∀ i v,hi≤i→P[i]? = some v→j≤v)→Cut P j (SetTable.below.go P.toArray j f lo hi)
 | 0,lo,hi,h1,h2,h3,h4,h5=>⟨Nat.le_trans h2 h1,h4,fun i v q=>h5 i v (Nat.le_trans h3 q)⟩
 | f + 1,lo,hi,h1,h2,h3,h4,h5=>by
  by_cases hlt:lo < hi
  ·show Cut P j (if lo < hi then _ else lo)
   rw [if_pos hlt]
   have hm:=mid_in hlt
   show Cut P j (if P.toArray.getD ((lo + hi) / 2) j < j then _ else _)
   generalize (lo + hi) / 2 = m at hm
   have hl:=Nat.lt_of_lt_of_le hm.2 h1
   have e:P[m]? = some P[m]:=List.getElem?_eq_getElem hl
   have e2:P.toArray.getD m j = P[m]:=by rw [Array.getD_eq_getD_getElem?,List.getElem?_toArray,e]; rfl
   rw [e2]
   by_cases hc:P[m] < j
   ·rw [if_pos hc]
    exact below_go hp f _ hi h1 hm.2 (Nat.le_trans h3 (by rw [Nat.add_comm f,← Nat.add_assoc]; exact Nat.add_le_add_right (Nat.succ_le_succ hm.1) f)) (fun i v q w=>(Nat.lt_or_eq_of_le (Nat.le_of_lt_succ q)).elim (fun q=>Nat.lt_trans (up_get hp q w e) hc) fun q=>by subst q; cases w.symm.trans e; exact hc) h5
   ·rw [if_neg hc]
    exact below_go hp f lo _ (Nat.le_of_lt hl) hm.1 (Nat.le_of_lt_succ (Nat.lt_of_lt_of_le hm.2 h3)) h4 fun i v q w=>(Nat.lt_or_eq_of_le q).elim (fun q=>Nat.le_trans (Nat.not_lt.mp hc) (Nat.le_of_lt (up_get hp q e w))) fun q=>by subst q; cases w.symm.trans e; exact Nat.not_lt.mp hc
  ·show Cut P j (if lo < hi then _ else lo)
   rw [if_neg hlt]
   exact ⟨Nat.le_trans h2 h1,h4,fun i v q=>h5 i v (Nat.le_trans (Nat.not_lt.mp hlt) q)⟩
theorem below_ok (hp:P.Pairwise (· < ·)) (j:Nat):Cut P j (SetTable.below P.toArray j) :=
 below_go hp P.toArray.size 0 P.toArray.size (Nat.le_refl _) (Nat.zero_le _) (Nat.le_add_left ..) (fun i v q=>absurd q (Nat.not_lt_zero _)) fun i v q w=>absurd (List.getElem?_eq_some_iff.mp w).1 (Nat.not_lt.mpr q)
theorem Cut.uniq {r k:Nat} (h:Cut P j r) (hk:k≤P.length) (h1:∀ v,r < k→P[r]? = some v→v < j) (h2:∀ v,k < r→P[k]? = some v→j≤v):r = k:=by
 rcases Nat.lt_trichotomy r k with q | q | q
 ·have e:=List.getElem?_eq_getElem (Nat.lt_of_lt_of_le q hk)
  exact absurd (h1 _ q e) (Nat.not_lt.mpr (h.2.2 _ _ (Nat.le_refl _) e))
 ·exact q
 ·have e:=List.getElem?_eq_getElem (Nat.lt_of_lt_of_le q h.1)
  exact absurd (h.2.1 _ _ q e) (Nat.not_lt.mpr (h2 _ q e))
theorem below_at (hp:P.Pairwise (· < ·)) {i:Nat} (e:P[i]? = some j):SetTable.below P.toArray j = i :=
 (below_ok hp j).uniq (Nat.le_of_lt (List.getElem?_eq_some_iff.mp e).1) (fun v q w=>up_get hp q w e) fun v q w=>by cases w.symm.trans e; exact Nat.le_refl _
variable {t:SetTable}
theorem slot_live (hP:t.place = P.toArray) (hp:P.Pairwise (· < ·)) {i:Nat} (e:P[i]? = some j):t.slot j = .live i:=by
 delta SetTable.slot
 dsimp only
 rw [hP,below_at hp e,List.getElem?_toArray,e]
 exact if_pos (beq_self_eq_true _)
theorem slot_empty (hP:t.place = P.toArray) (hd:t.dummies = #[]) (h:j ∉ P):t.slot j = .empty:=by
 delta SetTable.slot
 dsimp only
 rw [hP,hd,List.getElem?_toArray]
 exact (if_neg fun q=>h (List.mem_of_getElem? (eq_of_beq q))).trans (if_neg (by exact Bool.false_ne_true))
end
end Mine.Internal
namespace Mine.Internal
open PySem PySem.W PyProof.Rows PySem.Calls
section
variable {m:Nat} {owner:Array (Option Nat)} {S:List Nat} {h:Int}
noncomputable def OwnedBy (m:Nat) (owner:Array (Option Nat)) (S:List Nat):Prop:=owner.size = m + 1∧∀ j,j≤m→owner.getD j (some 0) = S.findIdx? (· == j)
theorem idx_none {j:Nat}:S.findIdx? (· == j) = none ↔ j ∉ S :=
 List.findIdx?_eq_none_iff.trans ⟨fun q w=>absurd (q j w) (by rw [beq_self_eq_true]; exact Bool.noConfusion),fun q x w=>beq_eq_false_iff_ne.mpr fun e=>q (e ▸ w)⟩
theorem OwnedBy.isN (o:OwnedBy m owner S) {j:Nat} (hj:j≤m):(owner.getD j (some 0)).isNone = true ↔ j ∉ S:=by
 rw [o.2 j hj,Option.isNone_iff_eq_none]; exact idx_none
theorem split_lt {P:Nat→Prop} {r n:Nat} (a:∀ k,k < r→P k) (b:∀ w,w < n→P (r + w)):∀ k,k < r + n→P k:=fun k hk =>
 (Nat.lt_or_ge k r).elim (a k) fun q=>(Nat.exists_eq_add_of_le q).elim fun d e=>by subst e; exact b d (Nat.lt_of_add_lt_add_left hk)
theorem free_ok (o:OwnedBy m owner S) {t₀:Nat} (ht:(headAt m h t₀).1 ∉ S):∀ (fuel t r:Nat),t≤t₀→t₀ < t + fuel→pr m h r = stOf m (headAt m h t) 0→(∀ k,k < r→(pr m h k).j∈S) →
  ∃ K,SetTable.layClean.free m owner fuel (headAt m h t).1 (headAt m h t).2 = some (pr m h K).j∧(pr m h K).j ∉ S∧∀ k,k < K→(pr m h k).j∈S
 | 0,t,r,h1,h2,e,hb=>absurd h1 (Nat.not_le.mpr h2)
 | fuel + 1,t,r,h1,h2,e,hb=>by
  have hin:∀ w,w≤SetTable.runEnd m (headAt m h t).1 - (headAt m h t).1→(headAt m h t).1 + w≤m∧(pr m h (r + w)).j = (headAt m h t).1 + w:=fun w hw =>
   have e:(pr m h (r + w)).j = (headAt m h t).1 + w:=congrArg (·.j) (walkW e w hw)
   ⟨Nat.le_trans (Nat.le_of_eq e.symm) (pr_le _),e⟩
  have occ:∀ w,w≤SetTable.runEnd m (headAt m h t).1 - (headAt m h t).1→(!(owner.getD ((headAt m h t).1 + w) (some 0)).isNone) = true→(pr m h (r + w)).j∈S:=fun w hw q=>by
   rw [(hin w hw).2]
   refine Classical.byContradiction fun no=>?_
   rw [(o.isN (hin w hw).1).mpr no] at q
   cases q
  unfold SetTable.layClean.free
  rw [Nat.succ_sub (run_ge m _)]
  cases hf:(List.range (SetTable.runEnd m (headAt m h t).1 - (headAt m h t).1).succ).find? (fun k=>(owner.getD ((headAt m h t).1 + k) (some 0)).isNone) with
  | some w =>
   obtain ⟨f1,f2,f3⟩:=List.find?_range_eq_some.mp hf
   have g:=hin w (Nat.le_of_lt_succ (List.mem_range.mp f2))
   exact ⟨r + w,by rw [g.2],by rw [g.2]; exact (o.isN g.1).mp f1,split_lt hb fun d hd=>occ d (Nat.le_trans (Nat.le_of_lt hd) (Nat.le_of_lt_succ (List.mem_range.mp f2))) (f3 d hd)⟩
  | none =>
   have hf:=List.find?_range_eq_none.mp hf
   have all:∀ w,w < (SetTable.runEnd m (headAt m h t).1 - (headAt m h t).1).succ→(pr m h (r + w)).j∈S:=fun w hw=>occ w (Nat.le_of_lt_succ hw) (hf w hw)
   have ne:t ≠ t₀:=fun et=>by
    subst et
    have w:=all 0 (Nat.succ_pos _)
    rw [(hin 0 (Nat.zero_le _)).2] at w
    exact ht w
   exact free_ok o ht fuel (t + 1) _ (Nat.lt_of_le_of_ne h1 ne) (by rw [Nat.add_assoc,Nat.add_comm 1]; exact h2) (hopW e) (split_lt (n:=(SetTable.runEnd m (headAt m h t).1 - (headAt m h t).1).succ) hb all)
structure Laid (m:Nat) (hs:List Int) (S:List Nat):Prop where
 len:S.length = hs.length
 nd:S.Nodup
 le:∀ j∈S,j≤m
 reach:∀ (k:Nat) (h:Int) (j:Nat),hs[k]? = some h→S[k]? = some j→∃ r,(pr m h r).j = j∧∀ r',r' < r→(pr m h r').j∈S
theorem exists_free (hl:S.length≤m):∃ j,j≤m∧j ∉ S:=Classical.byContradiction fun no=>by
 have w:=List.Nodup.length_le_of_subset (List.nodup_range (n:=m + 1)) (l₂:=S) fun j hj=>Classical.byContradiction fun q=>no ⟨j,Nat.le_of_lt_succ (List.mem_range.mp hj),q⟩
 rw [List.length_range] at w
 exact absurd (Nat.le_trans w hl) (Nat.not_succ_le_self m)
theorem Laid.snoc {hs:List Int} {j:Nat} (l:Laid m hs S) (hj:j ∉ S) (hle:j≤m) (hr:∃ r,(pr m h r).j = j∧∀ r',r' < r→(pr m h r').j∈S):Laid m (hs++[h]) (S++[j]):=by
 refine ⟨by rw [List.length_append,List.length_append,l.len]; rfl,?_,fun x hx=>?_,fun k g i e1 e2=>?_⟩
 ·exact List.nodup_append.mpr ⟨l.nd,List.nodup_cons.mpr ⟨List.not_mem_nil,.nil⟩,fun a ha b hb e=>hj (by rw [← List.mem_singleton.mp hb,← e]; exact ha)⟩
 ·exact (List.mem_append.mp hx).elim (l.le x) fun w=>List.mem_singleton.mp w ▸ hle
 ·have up:∀ {g:Int} {i:Nat},(∃ r,(pr m g r).j = i∧∀ r',r' < r→(pr m g r').j∈S)→∃ r,(pr m g r).j = i∧∀ r',r' < r→(pr m g r').j∈S++[j]:=fun ⟨r,a,b⟩=>⟨r,a,fun r' q=>List.mem_append.mpr (.inl (b r' q))⟩
  rcases at_snoc e1 with e1 | ⟨e,rfl⟩ <;> rcases at_snoc e2 with e2 | ⟨e',rfl⟩
  ·exact up (l.reach k g i e1 e2)
  ·exact absurd (List.getElem?_eq_some_iff.mp e1).1 (by rw [e',l.len]; exact Nat.lt_irrefl _)
  ·exact absurd (List.getElem?_eq_some_iff.mp e2).1 (by rw [e,l.len]; exact Nat.lt_irrefl _)
  ·exact up hr
theorem OwnedBy.set (o:OwnedBy m owner S) {j:Nat} (hj:j ∉ S) (hle:j≤m):OwnedBy m (owner.setIfInBounds j (some S.length)) (S++[j]):=by
 refine ⟨by rw [Array.size_setIfInBounds]; exact o.1,fun i hi=>?_⟩
 rw [List.findIdx?_append,Array.getD_eq_getD_getElem?,Array.getElem?_setIfInBounds]
 by_cases e:j = i
 ·subst e
  rw [if_pos rfl,if_pos (by rw [o.1]; exact Nat.lt_succ_of_le hle),idx_none.mpr hj,show ([j]:List Nat).findIdx? (· == j) = some 0 by rw [List.findIdx?_cons,beq_self_eq_true]; rfl]
  exact congrArg some (Nat.zero_add _).symm
 ·rw [if_neg e,← Array.getD_eq_getD_getElem?,o.2 i hi,show ([j]:List Nat).findIdx? (· == i) = none from idx_none.mpr fun q=>e (List.mem_singleton.mp q).symm]
  cases S.findIdx? (· == i) <;> rfl
noncomputable def layStep (m:Nat) (acc:Option (Array (Option Nat) × Nat)) (h:Int):Option (Array (Option Nat) × Nat):=do
  let (owner,k) ← acc
  let j ← SetTable.layClean.free m owner (SetTable.turns m) (SetTable.bits h % (m + 1)) (SetTable.bits h)
  pure (owner.setIfInBounds j (some k),k + 1)
theorem lay_fold:∀ (l hs:List Int) (S:List Nat) (owner:Array (Option Nat)),(∀ h∈l,full m h = true)→Laid m hs S→OwnedBy m owner S→hs.length + l.length≤m →
  ∃ owner' S' n,l.foldl (layStep m) (some (owner,hs.length)) = some (owner',n)∧Laid m (hs++l) S'∧OwnedBy m owner' S'
 | [],hs,S,owner,_,la,o,hl=>⟨owner,S,_,rfl,by rw [List.append_nil]; exact la,o⟩
 | h :: l,hs,S,owner,fl,la,o,hl=>by
  have hl2:hs.length + 1 + l.length≤m:=by rw [Nat.add_assoc,Nat.add_comm 1]; exact hl
  have hs1:(hs++[h]).length = hs.length + 1:=List.length_append
  obtain ⟨j,hj,hn⟩:=exists_free (m:=m) (S:=S) (by rw [la.len]; exact Nat.le_trans (Nat.le_add_right ..) hl)
  obtain ⟨t,ht,et⟩:=cover (fl h (List.mem_cons_self ..)) hj
  obtain ⟨K,k1,k2,k3⟩:=free_ok o (t₀:=t) (by rw [et]; exact hn) (SetTable.turns m) 0 0 (Nat.zero_le _) (by rw [Nat.zero_add]; exact ht) rfl fun k hk=>absurd hk (Nat.not_lt_zero _)
  have la2:=la.snoc (h:=h) k2 (pr_le K) ⟨K,rfl,k3⟩
  have o2:=o.set k2 (pr_le K)
  rw [la.len] at o2
  obtain ⟨owner',S',n,e,la3,o3⟩:=lay_fold l (hs++[h]) _ _ (fun x q=>fl x (List.mem_cons_of_mem _ q)) la2 o2 (by rw [hs1]; exact hl2)
  refine ⟨owner',S',n,?_,by rw [List.append_assoc] at la3; exact la3,o3⟩
  rw [List.foldl_cons,← e,hs1]
  exact congrArg (List.foldl _ · l) (show (SetTable.layClean.free m owner (SetTable.turns m) (headAt m h 0).1 (headAt m h 0).2).bind (fun j=>some (owner.setIfInBounds j (some hs.length),hs.length + 1)) = _ by rw [k1]; rfl)
theorem layClean_ok {hs:List Int} (fl:∀ h∈hs,full m h = true) (hl:hs.length≤m):∃ owner S,SetTable.layClean m (List.toArray hs) = some owner∧Laid m hs S∧OwnedBy m owner S:=by
 obtain ⟨owner,S,n,e,la,o⟩:=lay_fold hs [] [] (Array.replicate (m + 1) none) fl ⟨rfl,.nil,fun _ h=>(nomatch h),fun k h j e=>nomatch e⟩ ⟨Array.size_replicate,fun j hj=>by
  rw [Array.getD_eq_getD_getElem?,Array.getElem?_replicate,if_pos (Nat.lt_succ_of_le hj)]; rfl⟩ (by rw [List.length_nil,Nat.zero_add]; exact hl)
 refine ⟨owner,S,?_,la,o⟩
 delta SetTable.layClean
 rw [List.foldl_toArray' _ _ _ rfl]
 exact congrArg (Option.map (·.1)) e
end
end Mine.Internal
namespace Mine.Internal
open PySem PySem.W PyProof.Rows PySem.Calls
section
variable {m:Nat} {S:List Nat}
noncomputable def liveOf (m:Nat) (S:List Nat):List (Nat × Nat):=(List.range (m + 1)).filterMap fun j=>(S.findIdx? (· == j)).map (j,·)
theorem idx_some (nd:S.Nodup) {j k:Nat}:S.findIdx? (· == j) = some k ↔ S[k]? = some j:=by
 rw [List.findIdx?_eq_some_iff_getElem]
 constructor
 ·rintro ⟨h1,h2,_⟩
  rw [List.getElem?_eq_getElem h1,eq_of_beq h2]
 ·intro e
  obtain ⟨hk,rfl⟩:=List.getElem?_eq_some_iff.mp e
  exact ⟨hk,beq_self_eq_true _,fun i hi q=>absurd ((List.getElem_inj nd).mp (eq_of_beq q)) (Nat.ne_of_lt hi)⟩
theorem live_mem (nd:S.Nodup) (hle:∀ j∈S,j≤m) {q:Nat × Nat}:q∈liveOf m S ↔ S[q.2]? = some q.1:=by
 obtain ⟨j,k⟩:=q
 refine List.mem_filterMap.trans ⟨?_,fun e=>⟨j,List.mem_range.mpr (Nat.lt_succ_of_le (hle j (List.mem_of_getElem? e))),Option.map_eq_some_iff.mpr ⟨k,(idx_some nd).mpr e,rfl⟩⟩⟩
 rintro ⟨i,hi,e⟩
 obtain ⟨k',e1,e2⟩:=Option.map_eq_some_iff.mp e
 cases e2
 exact (idx_some nd).mp e1
theorem live_rise:(liveOf m S).Pairwise (fun a b=>a.1 < b.1):=by
 refine List.Pairwise.filterMap _ (fun a a' h b hb b' hb'=>?_) List.pairwise_lt_range
 obtain ⟨_,_,rfl⟩:=Option.map_eq_some_iff.mp hb
 obtain ⟨_,_,rfl⟩:=Option.map_eq_some_iff.mp hb'
 exact h
theorem live_perm (nd:S.Nodup) (hle:∀ j∈S,j≤m):((liveOf m S).map (·.2)).Perm (List.range S.length):=by
 refine (List.perm_ext_iff_of_nodup (List.pairwise_map.mpr (List.Pairwise.imp_of_mem (fun {a b} ha hb hab e=>?_) live_rise)) List.nodup_range).mpr fun k=>List.mem_map.trans (Iff.trans ?_ List.mem_range.symm)
 ·have h1:=(live_mem nd hle).mp ha
  rw [e,(live_mem nd hle).mp hb] at h1
  exact absurd (Option.some.inj h1).symm (Nat.ne_of_lt hab)
 ·exact ⟨fun ⟨q,hq,e⟩=>e ▸ (List.getElem?_eq_some_iff.mp ((live_mem nd hle).mp hq)).1,fun hk=>⟨(S[k],k),(live_mem nd hle).mpr (List.getElem?_eq_getElem hk),rfl⟩⟩
end
theorem hash_nd:(rowsJ.map rH).Nodup:=by decide +kernel
theorem rH_inj {a b:List Int} (ha:a∈rowsJ) (hb:b∈rowsJ) (e:rH a = rH b):a = b:=by
 obtain ⟨i,hi⟩:=List.getElem?_of_mem ha
 obtain ⟨k,hk⟩:=List.getElem?_of_mem hb
 obtain ⟨h1,rfl⟩:=List.getElem?_eq_some_iff.mp hi
 obtain ⟨h2,rfl⟩:=List.getElem?_eq_some_iff.mp hk
 have e:(rowsJ.map rH)[i]'(by rw [List.length_map]; exact h1) = (rowsJ.map rH)[k]'(by rw [List.length_map]; exact h2):=by rw [List.getElem_map,List.getElem_map]; exact e
 exact getElem_congr rfl ((List.getElem_inj hash_nd).mp e) _
noncomputable abbrev En:=Nat × List Int × Addr
noncomputable def esOf (L:List En):Array (Int × PV):=List.toArray (L.map fun e=>(rH e.2.1,.ref e.2.2))
noncomputable def plOf (L:List En):List Nat:=L.map (·.1)
structure Tq (prog:Program) (w:World) (h:Heap) (t:SetTable) (L:List En):Prop where
 mask:t.mask∈masks
 place:t.place = (plOf L).toArray
 dum:t.dummies = #[]
 plain:t.plain = true
 led:t.led = !(w.params.followText "set-order")
 rise:(plOf L).Pairwise (· < ·)
 le:∀ j∈plOf L,j≤t.mask
 tup:∀ e∈L,e.2.1∈rowsJ∧IsTupleKey (intKind prog w) h e.2.1 e.2.2
 nd:(L.map (·.2.1)).Nodup
 reach:∀ e∈L,∃ r,(pr t.mask (rH e.2.1) r).j = e.1∧∀ r',r' < r→(pr t.mask (rH e.2.1) r').j∈plOf L
structure Tb (prog:Program) (w:World) (h:Heap) (t:SetTable) (L:List En):Prop where
 q:Tq prog w h t L
 room:L.length * 5 < t.mask * 3
section
variable {prog:Program} {w:World} {h:Heap} {t:SetTable} {L:List En}
theorem pl_len:(plOf L).length = L.length:=List.length_map ..
theorem es_size:(esOf L).size = L.length:=List.size_toArray.trans (List.length_map ..)
theorem pl_at {i:Nat} {e:En} (he:L[i]? = some e):(plOf L)[i]? = some e.1:=by delta plOf; rw [List.getElem?_map,he]; rfl
theorem es_at {i:Nat} {e:En} (he:L[i]? = some e):(esOf L)[i]? = some (rH e.2.1,.ref e.2.2):=by delta esOf; rw [List.getElem?_toArray,List.getElem?_map,he]; rfl
theorem Tq.at (T:Tq prog w h t L) {i:Nat} {e:En} (he:L[i]? = some e):t.slot e.1 = .live i:=slot_live T.place T.rise (pl_at he)
theorem Tq.gave (T:Tq prog w h t L):t.gaveWay = false:=by
 delta SetTable.gaveWay
 have m:=T.mask
 generalize t.mask = k at m
 rcases List.mem_cons.mp m with rfl | m
 ·rfl
 rcases List.mem_cons.mp m with rfl | m
 ·rfl
 cases List.mem_singleton.mp m; rfl
theorem Tq.key_uniq (T:Tq prog w h t L) {i k:Nat} {a b:En} (ha:L[i]? = some a) (hb:L[k]? = some b) (e:a.2.1 = b.2.1):i = k:=by
 obtain ⟨h1,rfl⟩:=List.getElem?_eq_some_iff.mp ha
 obtain ⟨h2,rfl⟩:=List.getElem?_eq_some_iff.mp hb
 have e:(L.map (·.2.1))[i]'(by rw [List.length_map]; exact h1) = (L.map (·.2.1))[k]'(by rw [List.length_map]; exact h2):=by rw [List.getElem_map,List.getElem_map]; exact e
 exact (List.getElem_inj T.nd).mp e
theorem go_skip {hashAt:Nat→Int} {hx:Int} {met:SetTable.Met} {n:Nat} (hs:∀ k,k < n→∃ i,t.slot (pr t.mask hx k).j = .live i∧hashAt i ≠ hx) (fin:∀ f,SetTable.probe.go t hashAt hx (f + 1) (pr t.mask hx n) = some met):∀ f k,k≤n→n < k + f→SetTable.probe.go t hashAt hx f (pr t.mask hx k) = some met
 | 0,k,h1,h2=>absurd h1 (Nat.not_le.mpr h2)
 | f + 1,k,h1,h2=>by
  rcases Nat.lt_or_eq_of_le h1 with hl | rfl
  ·obtain ⟨i,e1,e2⟩:=hs k hl
   unfold SetTable.probe.go
   rw [e1]
   dsimp only
   rw [if_neg (fun q=>e2 (eq_of_beq q))]
   exact go_skip hs fin f (k + 1) hl (by rw [Nat.add_assoc,Nat.add_comm 1]; exact h2)
  ·exact fin f
end
end Mine.Internal
namespace Mine.Internal
open PySem PySem.W PyProof.Rows PySem.Calls
section
variable {prog:Program} {w:World} {h:Heap} {t:SetTable} {L:List En} {key:List Int}
structure Spot (t:SetTable) (L:List En) (key:List Int) (K:Nat):Prop where
 b:K < 10 * SetTable.turns t.mask
 f:(pr t.mask (rH key) K).j ∉ plOf L
 u:∀ k,k < K→(pr t.mask (rH key) k).j∈plOf L
theorem Tb.spot (T:Tb prog w h t L) (hk:key∈rowsJ):∃ K,Spot t L key K:=by
 have r:L.length≤t.mask:=Nat.le_of_mul_le_mul_right (Nat.le_of_lt (Nat.lt_of_lt_of_le T.room (Nat.mul_le_mul_left _ (by decide)))) (show 0 < 5 by decide)
 obtain ⟨j,hj,hn⟩:=exists_free (m:=t.mask) (S:=plOf L) (by rw [pl_len]; exact r)
 exact (first_free (full_row hk T.q.mask) hj hn).elim fun K w=>⟨K,w.1,w.2.1,w.2.2⟩
theorem pl_mem {j:Nat} (hj:j∈plOf L):∃ (i:Nat) (e:En),L[i]? = some e∧e.1 = j:=(List.mem_map.mp hj).elim fun e q=>(List.getElem?_of_mem q.1).elim fun i qi=>⟨i,e,qi,q.2⟩
theorem probe_ok (T:Tq prog w h t L) (hk:key∈rowsJ) {hashAt:Nat→Int} (hA:∀ i e,L[i]? = some e→hashAt i = rH e.2.1) {K:Nat} (at':Spot t L key K) :
  (∃ i e j n,L[i]? = some e∧e.2.1 = key∧t.probe hashAt (rH key) (pr t.mask (rH key) 0) = some (.candidate j i n)) ∨ ((∀ e∈L,e.2.1 ≠ key)∧t.probe hashAt (rH key) (pr t.mask (rH key) 0) = some (.empty (pr t.mask (rH key) K).j none)):=by
 have live:∀ {n:Nat},n≤K→(∀ k,k < n→∀ (i:Nat) (e:En),L[i]? = some e→e.1 = (pr t.mask (rH key) k).j→e.2.1 ≠ key)→∀ k,k < n→∃ i,t.slot (pr t.mask (rH key) k).j = .live i∧hashAt i ≠ rH key:=fun {n} hn no k hk'=>by
  obtain ⟨i,e,hi,ej⟩:=pl_mem (at'.u k (Nat.lt_of_lt_of_le hk' hn))
  exact ⟨i,ej ▸ T.at hi,fun q=>no k hk' i e hi ej (rH_inj (T.tup e (List.mem_of_getElem? hi)).1 hk ((hA i e hi).symm.trans q))⟩
 by_cases ex:∃ e∈L,e.2.1 = key
 ·obtain ⟨e,he,ek⟩:=ex
  obtain ⟨i,hi⟩:=List.getElem?_of_mem he
  obtain ⟨r0,e0,q0⟩:=T.reach e he
  rw [ek] at e0 q0
  have r0K:r0 < K:=(Nat.lt_trichotomy r0 K).elim id fun q=>absurd (q.elim (fun q=>by rw [← q,e0]; exact List.mem_map.mpr ⟨e,he,rfl⟩) (q0 K)) at'.f
  obtain ⟨r,h1,h2,h3⟩:=least (P:=fun r=>(pr t.mask (rH key) r).j = e.1) r0 e0
  have hrK:=Nat.lt_of_le_of_lt h1 r0K
  refine .inl ⟨i,e,(pr t.mask (rH key) r).j,advM t.mask (pr t.mask (rH key) r),hi,ek,go_skip (n:=r) (live (Nat.le_of_lt hrK) fun k hk' i' e' hi' ej q=>?_) (fun f=>?_) _ 0 (Nat.zero_le _) (by rw [Nat.zero_add]; exact Nat.lt_trans hrK at'.b)⟩
  ·have:=T.key_uniq hi' hi (q.trans ek.symm)
   subst this
   cases hi'.symm.trans hi
   exact h3 k hk' ej.symm
  ·unfold SetTable.probe.go
   rw [show t.slot (pr t.mask (rH key) r).j = .live i by rw [h2]; exact T.at hi]
   exact if_pos (by rw [hA i e hi,ek]; exact beq_self_eq_true _)
 ·have no:∀ e∈L,e.2.1 ≠ key:=fun e he q=>ex ⟨e,he,q⟩
  refine .inr ⟨no,go_skip (n:=K) (live (Nat.le_refl _) fun k _ i e hi _=>no e (List.mem_of_getElem? hi)) (fun f=>?_) _ 0 (Nat.zero_le _) (by rw [Nat.zero_add]; exact at'.b)⟩
  unfold SetTable.probe.go
  rw [slot_empty T.place T.dum at'.f,pr_dummy]
variable {A:Around} {E:PV→Shared→Prop} {s:Shared}
theorem pass_all {α:Type} {l:List α} {f:α→Option Bool × PUnit→Sem (ForInStep (Option Bool × PUnit))} {C:α→Prop} {Q:Option Bool × PUnit→Shared→Prop} (hl:∀ v∈l,C v)
  (hf:∀ v,C v→∀ Q':ForInStep (Option Bool × PUnit)→Shared→Prop,Q' (.yield (none,())) s→wpAny (model prog w) A (f v (none,())) Q' E s) (q:Q (none,()) s):wpAny (model prog w) A (forIn l (none,()) f) Q E s :=
 wpAny_forIn_list _ (fun rest r s'=>r = (none,())∧s' = s∧∀ v∈rest,C v) _ (fun v rest r s' ⟨hr,hs,hall⟩=>by subst hr; subst hs; exact hf v (hall v List.mem_cons_self) _ ⟨rfl,rfl,fun u hu=>hall u (List.mem_cons_of_mem _ hu)⟩) (fun r s' ⟨hr,hs,_⟩=>by subst hr; subst hs; exact q) _ _ ⟨rfl,rfl,hl⟩
theorem cls_tuple {ks:List Int} {a:Addr} {Q:Bool→Shared→Prop} (hk:IsTupleKey (intKind prog w) s.heap ks a) (q:Q false s):wpAny (model prog w) A (ofAClassStatement 8 (.ref a)) Q E s:=by
 have hT:=hk.typeIs
 obtain ⟨o,items,n,ho,_,hd,hi⟩:=hk
 unfold ofAClassStatement
 refine wpAny_bind (wpAny_typeOf hT ?_)
 dsimp only
 rw [if_pos (by decide)]
 refine wpAny_bind (wpAny_pure (wpAny_bind (wpAny_seqItems ho hd (wpAny_bind ?_))))
 rw [← Array.forIn_toList]
 refine pass_all (C:=fun v=>carriedByValue v = true) hi.byValue (fun v hc Q' q'=>?_) (wpAny_pure q)
 have hc:ofAClassStatement 7 v = pure false:=by cases v <;> first | exact absurd hc Bool.false_ne_true | rfl
 rw [hc]
 exact wpAny_bind (wpAny_pure (wpAny_pure q'))
end
end Mine.Internal
namespace Mine.Internal
open PySem PySem.W PyProof.Rows PySem.Calls
section
variable {prog:Program} {w:World} {t:SetTable} {L:List En} {key:List Int} {A:Around} {E:PV→Shared→Prop} {s:Shared}
theorem seen_no {x:Addr} {vs:List PV} {Q:Bool→Shared→Prop} (hx:IsTupleKey (intKind prog w) s.heap key x) (hv:∀ v∈vs,∃ a k,v = .ref a∧IsTupleKey (intKind prog w) s.heap k a) (q:Q false s):wpAny (model prog w) A (searchCouldBeSeen (.ref x) vs) Q E s:=by
 delta searchCouldBeSeen
 refine wpAny_bind (pass_all hv (fun v hc Q' q'=>?_) (wpAny_pure q))
 obtain ⟨a,k,rfl,hk⟩:=hc
 dsimp only
 split
 ·exact wpAny_pure q'
 ·refine wpAny_bind (wpAny_eqIsQuiet_tuple hx ?_)
  refine wpAny_bind (wpAny_eqIsQuiet_tuple hk ?_)
  refine wpAny_bind (cls_tuple hx ?_)
  refine wpAny_bind (cls_tuple hk ?_)
  exact wpAny_pure q'
theorem fits (T:Tb prog w s.heap t L):t.fits (esOf L).size = true:=by
 have h1:=T.room
 delta SetTable.fits SetTable.fill
 rw [T.q.dum,T.q.place,es_size,List.size_toArray,pl_len]
 simp
 (first | lia | omega)
theorem search_ok {a x:Addr} {ep f K:Nat} {o:Obj} {Q:SetFound→Shared→Prop} (hu:A.units < cLine) (ho:s.heap.get? a = some o) (hd:o.data = .set (esOf L) ep t) (T:Tb prog w s.heap t L) (hk:key∈rowsJ) (hx:IsTupleKey (intKind prog w) s.heap key x) (at':Spot t L key K)
  (h1:(∃ e∈L,e.2.1 = key)→Q (.there none) s) (h2:(∀ e∈L,e.2.1 ≠ key)→Q (.free (pr t.mask (rH key) K).j false) s):wpAny (model prog w) A (setSearchFrom a (.ref x) (rH key) true (f + 1) none) Q E s:=by
 refine wpAny_bind (wpAny_setState_of ho hd (fits T) ?_)
 dsimp only
 rw [T.q.gave]
 rcases probe_ok T.q hk (hashAt:=fun i=>((esOf L)[i]?.map (·.1)).getD 0) (fun i e he=>by rw [es_at he]; rfl) at' with ⟨i,e,j,n,hi,ek,g⟩ | ⟨no,g⟩
 ·have hm:=List.mem_of_getElem? hi
  have rest:wpAny (model prog w) A (do
     let some (_,y):=(esOf L)[i]? | unsupported "internal:set-entry"
     let equal ← holding [y] (eqBool y (.ref x))
     let (es',_,t') ← setState a
     if true && equal then return .there none
     let some same:=t'.sameMemory t.moves t.mask | unsupported "set.changed-during-lookup:is-the-new-block-at-the-old-address"
     let still ← match (if same then t'.slot j else .empty) with
      | .live i'=>match es'[i']? with
       | some (_,y')=>do pure (if ← isSame y' y then some i' else none)
       | none=>pure none
      | _=>pure none
     match still with
     | none=>rule "set.search.anew"; setSearchFrom a (.ref x) (rH key) true f none
     | some i'=>if equal then return .there (some i') else setSearchFrom a (.ref x) (rH key) true f (some n)) Q E s:=by
   rw [es_at hi]
   refine wpAny_bind (wpAny_holding (wpAny_eqBool_tuple hu (T.q.tup e hm).2 hx ?_))
   refine wpAny_bind (wpAny_setState_of ho hd (fits T) ?_)
   rw [decide_eq_true ek]
   exact wpAny_pure (h1 ⟨e,hm,ek⟩)
  erw [g]
  dsimp only
  cases hled:t.led with
  | true=>exact rest
  | false =>
   refine wpAny_bind (seen_no hx (fun v hv=>?_) rest)
   obtain ⟨p,hp,rfl⟩:=List.mem_map.mp hv
   obtain ⟨e',he',rfl⟩:=List.mem_map.mp (Array.mem_toList_iff.mpr (Array.mem_filter.mp (Array.mem_toList_iff.mp hp)).1)
   exact ⟨_,_,rfl,(T.q.tup e' he').2⟩
 ·erw [g]
  exact wpAny_pure (h2 no)
end
end Mine.Internal
namespace Mine.Internal
open PySem PySem.W PyProof.Rows PySem.Calls
theorem insert_list {α:Type} (l:List α) (p:Nat) (x:α):SetTable.insertAt (List.toArray l) p x = List.toArray (l.take p++x :: l.drop p):=by
 delta SetTable.insertAt
 apply Array.toList_inj.mp
 rw [Array.toList_append,Array.toList_push,Array.toList_extract,Array.toList_extract]
 show l.take p++[x]++(l.drop p).take (l.length - p) = _
 rw [List.take_of_length_le (i:=l.length - p) (by rw [List.length_drop]; exact Nat.le_refl _),List.append_assoc]; rfl
section
variable {prog:Program} {w:World} {t:SetTable} {L:List En} {key:List Int} {h:Heap}
noncomputable def putL (L:List En) (p:Nat) (e:En):List En:=L.take p++e :: L.drop p
theorem putL_perm {p:Nat} {e:En}:(putL L p e).Perm (e :: L):=List.perm_middle.trans (by rw [List.take_append_drop])
theorem putL_map {α:Type} {f:En→α} {p:Nat} {e:En}:(putL L p e).map f = (L.map f).take p++f e :: (L.map f).drop p:=by
 delta putL; rw [List.map_append,List.map_cons,List.map_take,List.map_drop]
theorem es_put {p:Nat} {e:En}:SetTable.insertAt (esOf L) p (rH e.2.1,.ref e.2.2) = esOf (putL L p e):=(insert_list ..).trans (congrArg List.toArray putL_map.symm)
theorem pl_put {p:Nat} {e:En}:SetTable.insertAt (plOf L).toArray p e.1 = (plOf (putL L p e)).toArray:=(insert_list ..).trans (congrArg List.toArray putL_map.symm)
theorem cut_rise {P:List Nat} {j p:Nat} (hp:P.Pairwise (· < ·)) (c:Cut P j p) (hj:j ∉ P):(P.take p++j :: P.drop p).Pairwise (· < ·):=by
 have tk:∀ a∈P.take p,a < j:=fun a ha=>by
  obtain ⟨i,hi⟩:=List.getElem?_of_mem ha
  rw [List.getElem?_take] at hi
  split at hi
  ·rename_i q; exact c.2.1 i a q hi
  ·cases hi
 have dr:∀ a∈P.drop p,j < a:=fun a ha=>by
  obtain ⟨i,hi⟩:=List.getElem?_of_mem ha
  rw [List.getElem?_drop] at hi
  exact Nat.lt_of_le_of_ne (c.2.2 _ a (Nat.le_add_right p i) hi) fun e=>hj (e ▸ List.mem_of_getElem? hi)
 exact List.pairwise_append.mpr ⟨hp.take,List.pairwise_cons.mpr ⟨dr,hp.drop⟩,fun a ha b hb=>(List.mem_cons.mp hb).elim (fun e=>e ▸ tk a ha) fun q=>Nat.lt_trans (tk a ha) (dr b q)⟩
theorem put_ok {x:Addr} {K:Nat} (T:Tq prog w h t L) (hk:key∈rowsJ) (hx:IsTupleKey (intKind prog w) h key x) (at':Spot t L key K) (hn:∀ e∈L,e.2.1 ≠ key) :
  ∃ p,t.put (pr t.mask (rH key) K).j = ({ t with place:=(plOf (putL L p ((pr t.mask (rH key) K).j,key,x))).toArray },p)∧Tq prog w h { t with place:=(plOf (putL L p ((pr t.mask (rH key) K).j,key,x))).toArray } (putL L p ((pr t.mask (rH key) K).j,key,x)):=by
 generalize hj:(pr t.mask (rH key) K).j = j
 have c:=below_ok T.rise j
 have nj:j ∉ plOf L:=hj ▸ at'.f
 have mem:∀ {p:Nat} (e':En),e'∈putL L p (j,key,x)→e' = (j,key,x) ∨ e'∈L:=fun e' q=>List.mem_cons.mp (putL_perm.mem_iff.mp q)
 have mpl:∀ {p i:Nat},i∈plOf L→i∈plOf (putL L p (j,key,x)):=fun {p i} q=>(putL_perm.map (·.1)).mem_iff.mpr (List.mem_cons_of_mem _ q)
 refine ⟨SetTable.below t.place j,?_,T.mask,rfl,T.dum,T.plain,T.led,?_,fun i hi=>?_,fun e he=>?_,(putL_perm.map (·.2.1)).nodup_iff.mpr (List.nodup_cons.mpr ⟨fun hm=>?_,T.nd⟩),fun e he=>?_⟩
 ·delta SetTable.put
  rw [T.dum,← pl_put,← T.place]
  rfl
 ·delta plOf
  rw [putL_map,T.place]
  exact cut_rise T.rise c nj
 ·exact (List.mem_cons.mp ((putL_perm.map (·.1)).mem_iff.mp hi)).elim (fun e=>by rw [e,← hj]; exact pr_le K) (T.le i)
 ·exact (mem e he).elim (fun q=>q ▸ ⟨hk,hx⟩) (T.tup e)
 ·exact (List.mem_map.mp hm).elim fun e q=>hn e q.1 q.2
 ·rcases mem e he with rfl | he
  ·exact ⟨K,hj,fun r q=>mpl (at'.u r q)⟩
  ·exact (T.reach e he).elim fun r q=>⟨r,q.1,fun r' a=>mpl (q.2 r' a)⟩
end
end Mine.Internal
namespace Mine.Internal
open PySem PySem.W PyProof.Rows PySem.Calls
theorem fm_congr {α β:Type} {f g:α→Option β}:∀ {l:List α},(∀ x∈l,f x = g x)→l.filterMap f = l.filterMap g
 | [],_=>rfl
 | x :: l,h=>by rw [List.filterMap_cons,List.filterMap_cons,h x (List.mem_cons_self ..),fm_congr fun y hy=>h y (List.mem_cons_of_mem _ hy)]
theorem map_range {α:Type} (d:α) (l:List α):(List.range l.length).map (fun k=>l.getD k d) = l :=
 List.ext_getElem ((List.length_map ..).trans List.length_range) fun i h1 h2=>by
  rw [List.getElem_map,List.getElem_range,List.getD_eq_getElem?_getD,List.getElem?_eq_getElem h2]; rfl
section
variable {prog:Program} {w:World} {t:SetTable} {L:List En} {h:Heap}
noncomputable def tabOf (m fi mo:Nat) (led:Bool) (L:List En):SetTable:={ mask:=m,place:=(plOf L).toArray,dummies:=#[],finger:=fi,led:=led,moves:=mo,plain:=true }
theorem relaid_ok {m fi mo:Nat} {led:Bool} (T:Tq prog w h t L) (hm:m∈masks) (hr:L.length * 5 < m * 3) (hld:led = !(w.params.followText "set-order")):∃ order L3,SetTable.laid m fi mo led true ((esOf L).map (·.1)) = some (tabOf m fi mo led L3,order) ∧
  order.filterMap ((esOf L)[·]?) = esOf L3∧(L3.map (·.2)).Perm (L.map (·.2))∧Tb prog w h (tabOf m fi mo led L3) L3:=by
 have hh:(esOf L).map (·.1) = List.toArray (L.map fun e=>rH e.2.1):=by delta esOf; rw [List.map_toArray,List.map_map]; rfl
 obtain ⟨owner,S,e1,la,o⟩:=layClean_ok (m:=m) (hs:=L.map fun e=>rH e.2.1) (fun x hx=>(List.mem_map.mp hx).elim fun e q=>q.2 ▸ full_row (T.tup e q.1).1 hm) (by rw [List.length_map]; exact Nat.le_of_mul_le_mul_right (Nat.le_of_lt (Nat.lt_of_lt_of_le hr (Nat.mul_le_mul_left _ (by decide)))) (show 0 < 5 by decide))
 have hlen:S.length = L.length:=la.len.trans (List.length_map ..)
 have hlive:(List.range (m + 1)).filterMap (fun j=>(owner.getD j none).map (j,·)) = liveOf m S:=fm_congr fun j hj=>by
  have hj':j≤m:=Nat.le_of_lt_succ (List.mem_range.mp hj)
  rw [← o.2 j hj',Array.getD_eq_getD_getElem?,Array.getD_eq_getD_getElem?,Array.getElem?_eq_getElem (show j < owner.size by rw [o.1]; exact List.mem_range.mp hj)]
  rfl
 have hk:∀ q∈liveOf m S,∃ e:En,L[q.2]? = some e∧L.getD q.2 (0,[],0) = e∧S[q.2]? = some q.1:=fun q hq=>by
  have w:=(live_mem la.nd la.le).mp hq
  have e:=List.getElem?_eq_getElem (hlen ▸ (List.getElem?_eq_some_iff.mp w).1:q.2 < L.length)
  exact ⟨_,e,by rw [List.getD_eq_getElem?_getD,e]; rfl,w⟩
 have pe:∀ {α:Type} (g:List Int × Addr→α),(((liveOf m S).map fun q=>(q.1,(L.getD q.2 (0,[],0)).2)).map fun e:En=>g e.2).Perm (L.map fun e=>g e.2):=fun g=>by
  have w:=(live_perm la.nd la.le).map fun k=>g (L.getD k (0,[],0)).2
  rw [List.map_map,hlen] at w
  rw [List.map_map]
  refine w.trans (List.Perm.of_eq ?_)
  show (List.range L.length).map ((fun e:En=>g e.2) ∘ fun k=>L.getD k (0,[],0)) = _
  rw [← List.map_map,map_range]
 refine ⟨List.toArray ((liveOf m S).map (·.2)),(liveOf m S).map fun q=>(q.1,(L.getD q.2 (0,[],0)).2),?_,?_,pe fun x=>x,⟨hm,rfl,rfl,rfl,hld,?_,fun j hj=>?_,fun e he=>?_,(pe (·.1)).nodup_iff.mpr T.nd,fun e he=>?_⟩,?_⟩
 ·delta SetTable.laid
  rw [hh,e1]
  show some _ = some _
  rw [hlive]
  delta tabOf plOf
  rw [List.map_map]
  rfl
 ·delta esOf
  rw [List.filterMap_toArray,List.map_map,List.filterMap_map]
  refine congrArg List.toArray (fm_map fun q hq=>?_)
  obtain ⟨e,h1,h2,_⟩:=hk q hq
  show (List.toArray _)[q.2]? = some (rH (L.getD q.2 (0,[],0)).2.1,Value.ref (L.getD q.2 (0,[],0)).2.2)
  rw [h2,List.getElem?_toArray,List.getElem?_map,h1]; rfl
 ·delta plOf
  rw [List.map_map]
  exact List.pairwise_map.mpr live_rise
 ·replace hj:j∈List.map (fun e:En=>e.1) _:=hj
  rw [List.map_map] at hj
  obtain ⟨q,hq,rfl⟩:=List.mem_map.mp hj
  exact la.le _ (List.mem_of_getElem? ((live_mem la.nd la.le).mp hq))
 ·obtain ⟨q,hq,rfl⟩:=List.mem_map.mp he
  obtain ⟨e,h1,h2,_⟩:=hk q hq
  exact (show (L.getD q.2 (0,[],0)).2 = e.2 from congrArg (·.2) h2) ▸ T.tup e (List.mem_of_getElem? h1)
 ·obtain ⟨q,hq,rfl⟩:=List.mem_map.mp he
  obtain ⟨e,h1,h2,h3⟩:=hk q hq
  obtain ⟨r,r1,r2⟩:=la.reach q.2 (rH e.2.1) q.1 (by rw [List.getElem?_map,h1]; rfl) h3
  show ∃ r,(pr m (rH (L.getD q.2 (0,[],0)).2.1) r).j = q.1∧_
  rw [h2]
  refine ⟨r,r1,fun r' hr'=>?_⟩
  obtain ⟨k2,hk2⟩:=List.getElem?_of_mem (r2 r' hr')
  delta plOf
  rw [List.map_map]
  exact List.mem_map.mpr ⟨((pr m (rH e.2.1) r').j,k2),(live_mem la.nd la.le).mpr hk2,rfl⟩
 ·have w:=(pe fun x=>x).length_eq
  rw [List.length_map,List.length_map] at w
  rw [List.length_map,w,List.length_map]; exact hr
end
end Mine.Internal
namespace Mine.Internal
open PySem PySem.W PyProof.Rows PySem.Calls
section
variable {prog:Program} {w:World} {t:SetTable} {L:List En} {key:List Int} {A:Around} {E:PV→Shared→Prop} {s:Shared}
noncomputable def SetAt (prog:Program) (w:World) (h:Heap) (a:Addr) (L:List En):Prop:=∃ o ep t,h.get? a = some o∧o.ExactSet∧o.data = .set (esOf L) ep t∧Tb prog w h t L
theorem Tq.len {h:Heap} (T:Tq prog w h t L):L.length≤30:=by
 have q:=List.Nodup.length_le_of_subset T.nd (l₂:=rowsJ) fun k hk=>(List.mem_map.mp hk).elim fun e q=>q.2 ▸ (T.tup e q.1).1
 rw [List.length_map] at q
 exact Nat.le_trans q (by decide)
theorem tup_but {h h':Heap} {a x:Addr} (hx:IsTupleKey (intKind prog w) h key x) (k:∀ b o,b ≠ a→h.get? b = some o→h'.get? b = some o) (na:x ≠ a):IsTupleKey (intKind prog w) h' key x :=
 hx.elim fun o q=>q.elim fun items q=>q.elim fun n q=>⟨o,items,n,k _ _ na q.1,q.2⟩
theorem tup_ne {h:Heap} {a x:Addr} {o:Obj} (hx:IsTupleKey (intKind prog w) h key x) (ho:h.get? a = some o) (he:o.ExactSet):x ≠ a:=fun e=>by
 subst e
 obtain ⟨o',items,n,ho',hc,_⟩:=hx
 cases ho.symm.trans ho'
 exact absurd (Value.type.inj (he.1.symm.trans hc)) (by decide)
theorem setput_ok {a:Addr} {o:Obj} {es:Array (Int × PV)} {ep:Nat} {t' t2:SetTable} {Q:Unit→Shared→Prop} (ho:s.heap.get? a = some o) (hx:o.ExactSet) (hd:o.data = .set es ep t') (T:Tq prog w s.heap t2 L)
  (q:∀ h',Heap.SameBut a s.heap h'→h'.get? a = some { o with data:=.set (esOf L) (ep + 1) t2 }→Tq prog w h' t2 L→Q () { s with heap:=h' }):wpAny (model prog w) A (storeSet a (esOf L) t2) Q E s:=by
 have sb:=Heap.SameBut.update s.heap a (Obj.putSet (esOf L) t2)
 refine wpAny_storeSet_of ho hd (q _ sb ?_ { T with tup:=fun e he=>⟨(T.tup e he).1,tup_but (T.tup e he).2 (fun b o n e=>sb.extBut b o n e) (tup_ne (T.tup e he).2 ho hx)⟩ }) (by rw [es_size,sizeLine_eq]; exact Nat.le_trans T.len (by decide))
 have e:=Heap.get?_update_self (Obj.putSet (esOf L) t2) ho (by rw [putSet_of _ _ hd]; rfl)
 rw [putSet_of _ _ hd] at e
 exact e
theorem Tq.fill {h:Heap} (T:Tq prog w h t L):t.fill = L.length:=by
 delta SetTable.fill; rw [T.dum,T.place,List.size_toArray,pl_len]; rfl
theorem Tq.full {h:Heap} (T:Tq prog w h t L):t.tooFull = decide (L.length * 5 ≥ t.mask * 3):=by
 delta SetTable.tooFull; rw [T.fill]
theorem grow_ok {n m:Nat} (hm:m∈masks) (h1:m * 3≤n * 5) (h2:(n - 1) * 5 < m * 3) (h30:n≤30):n≤m∧∃ m',SetTable.sizeAbove (SetTable.grown n) = m' + 1∧m'∈masks∧n * 5 < m' * 3∧m' + 1≤128:=by
 have w:(masks.all fun m=>(List.range 31).all fun n=>!decide (m * 3≤n * 5) || !decide ((n - 1) * 5 < m * 3) || (decide (n≤m) && [31,127].any fun m'=>SetTable.sizeAbove (SetTable.grown n) == m' + 1 && decide (n * 5 < m' * 3))) = true:=by decide +kernel
 have w:=List.all_eq_true.mp (List.all_eq_true.mp w m hm) n (List.mem_range.mpr (Nat.lt_succ_of_le h30))
 rw [decide_eq_true h1,decide_eq_true h2] at w
 have w:=Bool.and_eq_true_iff.mp w
 obtain ⟨m',hm',q⟩:=List.any_eq_true.mp w.2
 have q:=Bool.and_eq_true_iff.mp q
 exact ⟨of_decide_eq_true w.1,m',eq_of_beq q.1,List.mem_cons_of_mem _ hm',of_decide_eq_true q.2,(List.mem_cons.mp hm').elim (fun e=>by rw [e]; decide) fun e=>by rw [List.mem_singleton.mp e]; decide⟩
theorem relay_ok {a:Addr} {o:Obj} {ep:Nat} {Q:Unit→Shared→Prop} (ho:s.heap.get? a = some o) (hx:o.ExactSet) (hd:o.data = .set (esOf L) ep t) (T:Tq prog w s.heap t L) (full:t.mask * 3≤L.length * 5) (prev:(L.length - 1) * 5 < t.mask * 3)
  (q:∀ h' L3,Heap.SameBut a s.heap h'→SetAt prog w h' a L3→(L3.map (·.2)).Perm (L.map (·.2))→Q () { s with heap:=h' }):wpAny (model prog w) A (setRelay a (SetTable.grown L.length)) Q E s:=by
 obtain ⟨hlm,m',hw,hm',hr',h128⟩:=grow_ok T.mask full prev T.len
 have hfits:t.fits (esOf L).size = true:=by
  delta SetTable.fits
  rw [T.fill,T.place,es_size,List.size_toArray,pl_len]
  simp
  exact hlm
 delta setRelay
 refine wpAny_bind (wpAny_setState_of ho hd hfits ?_)
 dsimp only
 rw [if_neg (by rw [hw,sizeLine_eq]; exact Nat.not_lt.mpr (Nat.le_trans h128 (by decide)))]
 have hw1:SetTable.sizeAbove (SetTable.grown L.length) - 1 = m':=by rw [hw]; rfl
 obtain ⟨order,L3,r1,r2,r3,r4⟩:=relaid_ok (fi:=t.finger) (mo:=t.movedTo m') (led:=t.led) T hm' hr' T.led
 have hrel:t.relaid ((esOf L).map (·.1)) (SetTable.grown L.length) = some (tabOf m' t.finger (t.movedTo m') t.led L3,order):=by
  delta SetTable.relaid
  rw [hw1,T.plain]
  exact r1
 rw [hrel]
 have h3:L3.length = L.length:=by have:=r3.length_eq; rw [List.length_map,List.length_map] at this; exact this
 show wpAny (model prog w) A ((do
  let es':=order.filterMap ((esOf L)[·]?)
  if es'.size != (esOf L).size then unsupported "internal:set-table-lost-an-element"
  pure (es',tabOf m' t.finger (t.movedTo m') t.led L3):Sem (Array (Int × PV) × SetTable)) >>= fun x=>storeSet a x.1 x.2) Q E s
 dsimp only
 rw [r2,es_size,es_size,h3,show (L.length != L.length) = false from bne_self_eq_false ..]
 exact wpAny_bind (wpAny_pure (setput_ok (L:=L3) ho hx hd r4.q fun h' sb hg T'=>q h' L3 sb ⟨_,_,_,hg,hx,rfl,T',r4.room⟩ r3))
end
end Mine.Internal
namespace Mine.Internal
open PySem PySem.W PyProof.Rows PySem.Calls
section
variable {prog:Program} {w:World} {t:SetTable} {L:List En} {key:List Int} {A:Around} {E:PV→Shared→Prop} {s:Shared}
theorem are_ints {ks:List Int} {vs:List PV} (h:ItemsAre (intKind prog w) ks vs):∀ v∈vs,∃ k t,v = .int k t:=by
 induction h with
 | nil=>exact fun _ h=>nomatch h
 | cons h1 _ ih =>
  obtain ⟨t,rfl⟩:=Value.isInt_shape h1
  exact fun v hv=>(List.mem_cons.mp hv).elim (fun e=>⟨_,t,e⟩) (ih v)
theorem hbv_tuple {a:Addr} {Q:Bool→Shared→Prop} (hk:IsTupleKey (intKind prog w) s.heap key a) (q:Q true s):wpAny (model prog w) A (hashByValue 8 (.ref a)) Q E s:=by
 have hT:=hk.typeIs
 obtain ⟨o,items,n,ho,_,hd,hi⟩:=hk
 unfold hashByValue
 refine wpAny_bind (wpAny_specialOf hT F.slot_tuple_hash.lookup ?_)
 dsimp only
 refine wpAny_bind (wpAny_seqItems ho hd (wpAny_bind ?_))
 rw [← Array.forIn_toList]
 refine pass_all (are_ints hi) (fun v hc Q' q'=>?_) (wpAny_pure q)
 obtain ⟨k,t,rfl⟩:=hc
 rw [show hashByValue 7 (.int k t) = pure true from rfl]
 exact wpAny_bind (wpAny_pure (wpAny_pure q'))
theorem add_ok {a x:Addr} {Q:Bool→Shared→Prop} (hu:A.units < cLine) (S:SetAt prog w s.heap a L) (hk:key∈rowsJ) (hx:IsTupleKey (intKind prog w) s.heap key x)
  (yes:(∃ e∈L,e.2.1 = key)→Q false s) (no:(∀ e∈L,e.2.1 ≠ key)→∀ h' L',Heap.SameBut a s.heap h'→SetAt prog w h' a L'→(L'.map (·.2)).Perm ((key,x) :: L.map (·.2))→Q true { s with heap:=h' }) :
  wpAny (model prog w) A (setAddHashed a (.ref x) (rH key)) Q E s:=by
 obtain ⟨o,ep,t,ho,hex,hd,T⟩:=S
 obtain ⟨K,at'⟩:=T.spot hk
 unfold setAddHashed setAddHashedIn
 refine wpAny_holding (wpAny_bind (wpAny_setState_of ho hd (fits T) ?_))
 dsimp only
 rw [show byScan (.ref x) (esOf L) = false from rfl]
 delta setSearch
 refine wpAny_bind (search_ok hu ho hd T hk hx at' (fun h=>wpAny_pure (yes h)) fun hn=>?_)
 refine wpAny_bind (wpAny_setState_of ho hd (fits T) ?_)
 obtain ⟨p,ep2,Q2⟩:=put_ok T.q hk hx at' hn
 dsimp only
 rw [ep2]
 dsimp only
 rw [if_pos T.q.plain]
 refine wpAny_bind (hbv_tuple hx ?_)
 have hes:=es_put (L:=L) (p:=p) (e:=((pr t.mask (rH key) K).j,key,x))
 dsimp only at hes ⊢
 rw [hes]
 have perm:=putL_perm (L:=L) (p:=p) (e:=((pr t.mask (rH key) K).j,key,x))
 generalize putL L p ((pr t.mask (rH key) K).j,key,x) = L2 at *
 have hlen:L2.length = L.length + 1:=perm.length_eq
 refine wpAny_bind (setput_ok (t2:={ t with place:=(plOf L2).toArray }) ho hex hd Q2 fun h' sb hg T'=>?_)
 have hf:=T'.full
 rw [if_pos (show true = true from rfl)]
 have hp:=perm.map (·.2)
 by_cases hc:L2.length * 5 ≥ t.mask * 3
 ·rw [decide_eq_true hc] at hf
  rw [hf,es_size,← hlen]
  exact wpAny_bind (relay_ok (s:={ s with heap:=h' }) hg hex rfl T' hc (by rw [hlen]; exact T.room) fun h2 L3 sb2 S3 p3=>wpAny_pure (no hn h2 L3 (sb.trans sb2) S3 (p3.trans hp)))
 ·rw [decide_eq_false hc] at hf
  rw [hf]
  exact wpAny_pure (no hn h' L2 sb ⟨_,_,_,hg,hex,rfl,T',Nat.not_le.mp hc⟩ hp)
end
end Mine.Internal
namespace Mine.Internal
open PySem PySem.W PyProof.Rows PySem.Calls
theorem erase_perm {α:Type}:∀ {l:List α} {i:Nat} (h:i < l.length),(l[i] :: l.eraseIdx i).Perm l
 | x :: l,0,_=>.refl _
 | x :: l,i + 1,h=>(List.Perm.swap ..).trans ((erase_perm (Nat.lt_of_succ_lt_succ h)).cons x)
theorem pick_go {α:Type} {next:Nat→Nat}:∀ (f k:Nat) (left:List α) (out:Array α),left.length = f→(pickOrder.go next f k left out).toList.Perm (out.toList++left)
 | 0,k,left,out,h=>by
  cases List.length_eq_zero_iff.mp h
  show out.toList.Perm _
  rw [List.append_nil]
 | f + 1,k,left,out,h=>by
  have hlt:next k % left.length < left.length:=Nat.mod_lt _ (h ▸ Nat.succ_pos f)
  have e:pickOrder.go next (f + 1) k left out = pickOrder.go next f (k + 1) (left.eraseIdx (next k % left.length)) (out.push left[next k % left.length]):=by
   show (match left[next k % left.length]? with | some x=>pickOrder.go next f (k + 1) (left.eraseIdx (next k % left.length)) (out.push x) | none=>out) = _
   rw [List.getElem?_eq_getElem hlt]
  rw [e]
  refine (pick_go f (k + 1) _ _ (by rw [List.length_eraseIdx_of_lt hlt,h]; rfl)).trans ?_
  rw [Array.toList_push,List.append_assoc]
  exact List.Perm.append_left _ (erase_perm hlt)
section
variable {prog:Program} {w:World} {t:SetTable} {L:List En} {A:Around} {E:PV→Shared→Prop} {s:Shared} {h₀:Heap}
noncomputable def ordOf (w:World) (S ep:Nat) (L:List En):Array (Int × PV):=if w.params.followText "set-order" = true then pickOrder (w.params.setOrder S ep) (esOf L) else esOf L
theorem ord_perm {S ep:Nat}:(ordOf w S ep L).toList.Perm (esOf L).toList:=by
 delta ordOf
 split
 ·exact pick_go _ _ _ _ (Array.length_toList ..)
 ·exact .refl _
theorem ord_size {S ep:Nat}:(ordOf w S ep L).size = L.length:=(ord_perm (w:=w) (L:=L) (S:=S) (ep:=ep)).length_eq.trans es_size
noncomputable def slotAt (L:List En):Nat→Nat
 | 0=>0
 | k + 1=>(L.getD k (0,[],0)).1 + 1
theorem fitsH (T:Tb prog w h₀ t L) (s:Shared):t.fits (esOf L).size = true:=fits (s:={ s with heap:=h₀ }) T
theorem walk_at (T:Tb prog w h₀ t L) {k:Nat} (hk:k≤L.length):SetTable.below t.place (slotAt L k) = k:=by
 rw [T.q.place]
 have r:=T.q.rise
 have pk:∀ {k:Nat},k < L.length→(plOf L)[k]? = some (L.getD k (0,[],0)).1:=fun h=>by rw [getD_at h]; exact pl_at (List.getElem?_eq_getElem h)
 have lt:∀ i v,i < k→(plOf L)[i]? = some v→v < slotAt L k:=fun i v hi e=>by
  cases k with
  | zero=>exact absurd hi (Nat.not_lt_zero _)
  | succ k=>exact Nat.lt_succ_of_le ((Nat.lt_or_eq_of_le (Nat.le_of_lt_succ hi)).elim (fun q=>Nat.le_of_lt (up_get r q e (pk hk))) fun q=>by subst q; cases e.symm.trans (pk hk); exact Nat.le_refl _)
 refine (below_ok r _).uniq (by rw [pl_len]; exact hk) (lt _) fun v hr e=>?_
 cases k with
 | zero=>exact Nat.zero_le _
 | succ k=>exact up_get r (Nat.lt_succ_self k) (pk hk) e
theorem next_ok {S slot k ep:Nat} {o:Obj} {Q:Option (PV × Nat)→Shared→Prop} (ho:s.heap.get? S = some o) (hd:o.data = .set (esOf L) ep t) (T:Tb prog w h₀ t L) (hk:k≤L.length) (hsl:w.params.followText "set-order" = false→slot = slotAt L k)
  (q0:k = L.length→Q none s) (q1:∀ x n,(ordOf w S ep L)[k]? = some x→(w.params.followText "set-order" = false→n = slotAt L (k + 1))→Q (some (x.2,n)) s):wpAny (model prog w) A (setNext S slot k ep) Q E s:=by
 delta setNext
 refine wpAny_bind (wpAny_setState_of ho hd (fitsH T s) ?_)
 dsimp only
 delta setsByText
 refine wpAny_bind (wpAny_bind (wpAny_askSetting (wpAny_pure ?_)))
 have fin:∀ {n:Nat} (r:Option (PV × Nat)),r = ((ordOf w S ep L)[k]?).map (fun e=>(e.2,n))→(k < L.length→w.params.followText "set-order" = false→n = slotAt L (k + 1))→Q r s:=fun {n} r hr hn=>by
  rcases Nat.lt_or_eq_of_le hk with hl | he
  ·have e:(ordOf w S ep L)[k]? = some _:=Array.getElem?_eq_getElem (by rw [ord_size]; exact hl)
   rw [hr,e]
   exact q1 _ _ e (hn hl)
  ·rw [hr,Array.getElem?_eq_none (Nat.le_of_eq (ord_size.trans he.symm))]
   exact q0 he
 cases hb:w.params.followText "set-order" with
 | true =>
  rw [show (model prog w).w.params.followText "set-order" = true from hb,if_pos rfl,if_neg (by rw [bne_self_eq_false]; exact Bool.false_ne_true)]
  delta setWalk
  refine wpAny_bind (wpAny_bind (wpAny_setState_of ho hd (fitsH T s) ?_))
  dsimp only
  delta setsByText
  refine wpAny_bind (wpAny_bind (wpAny_askSetting (wpAny_pure ?_)))
  rw [show (model prog w).w.params.followText "set-order" = true from hb,if_pos rfl]
  refine wpAny_bind (wpAny_askSetting (wpAny_pure ?_))
  exact wpAny_pure (fin _ (by delta ordOf; rw [if_pos hb]; rfl) fun _ h=>absurd (hb.symm.trans h) Bool.noConfusion)
 | false =>
  rw [show (model prog w).w.params.followText "set-order" = false from hb,if_neg Bool.false_ne_true]
  show wpAny (model prog w) A (if (!t.plain && decide ((esOf L).size > 1)) = true then _ else ((if (!t.led && !(esOf L).isEmpty) = true then unsupported "set:maker-not-led" else pure ()) >>= fun _=>_)) _ _ s
  rw [T.q.plain,T.q.led,hb,hsl hb]
  refine wpAny_bind (wpAny_pure (wpAny_pure ?_))
  rw [walk_at T hk]
  refine fin (n:=(L.getD k (0,[],0)).1 + 1) _ ?_ fun _ _=>rfl
  delta ordOf
  rw [if_neg (by rw [hb]; exact Bool.false_ne_true),T.q.place,List.getElem?_toArray (xs:=plOf L)]
  rcases Nat.lt_or_eq_of_le hk with hl | he
  ·rw [es_at (List.getElem?_eq_getElem hl),pl_at (List.getElem?_eq_getElem hl),getD_at hl]; rfl
  ·rw [Array.getElem?_eq_none (Nat.le_of_eq (es_size.trans he.symm))]; rfl
end
end Mine.Internal
namespace Mine.Internal
open PySem PySem.W PyProof.Rows PySem.Calls
theorem slot_si_next:Slot "set_iterator" "__next__" "set_iterator.__next__" :=
 .of (owner:="set_iterator") (n:="__next__") (by rw [typeLookup_type,builtinLookup_eq_fast]; kernel_rfl) (by decide +kernel) (by decide +kernel) (by decide +kernel)
  (by first | exact .inl (by decide +kernel) | exact .inr (by decide +kernel)) (by rw [isSubtype_type]; kernel_rfl)
theorem entry_si_next:entryFor table "set_iterator.__next__" = some Builtin.«set_iterator.__next__»:=entryFor_of_tree (by kernel_rfl)
theorem args_si_next (a:PV):argsOk "set_iterator.__next__" ⟨[a],[]⟩:=by delta argsOk; kernel_rfl
theorem entry_s_iter:entryFor table "set.__iter__" = some Builtin.«frozenset.__iter__» :=
 entryFor_alias (id':="frozenset.__iter__") (by kernel_rfl) rfl (by decide +kernel) (by kernel_rfl)
theorem slot_si_iter:Slot "set_iterator" "__iter__" "set_iterator.__iter__" :=
 .of (owner:="set_iterator") (n:="__iter__") (by rw [typeLookup_type,builtinLookup_eq_fast]; kernel_rfl) (by decide +kernel) (by decide +kernel) (by decide +kernel)
  (by first | exact .inl (by decide +kernel) | exact .inr (by decide +kernel)) (by rw [isSubtype_type]; kernel_rfl)
theorem args_si_iter (a:PV):argsOk "set_iterator.__iter__" ⟨[a],[]⟩:=by delta argsOk; kernel_rfl
theorem entry_si_iter:entryFor table "set_iterator.__iter__" = some Builtin.«dict_keyiterator.__iter__» :=
 entryFor_alias (id':="dict_keyiterator.__iter__") (by kernel_rfl) (by first | rfl | decide +kernel | (unfold String.splitOn; simp +decide [String.splitOnAux])) (by decide +kernel) (by kernel_rfl)
section
variable {prog:Program} {w:World} {t:SetTable} {L:List En} {A:Around} {E:PV→Shared→Prop} {s:Shared} {h₀:Heap}
noncomputable def SetIt (h:Heap) (I S slot k n ep:Nat):Prop:=h.get? I = some { cls:=.type "set_iterator",dict:=none,data:=.fields #[rawInt slot,rawInt k,.ref S,rawInt n,rawInt ep],slots:=#[] }
theorem set_step {I S:Addr} {o:Obj} {ep slot k:Nat} {Q:Option PV→Shared→Prop} (hh:A.handled = none) (ho:s.heap.get? S = some o) (hd:o.data = .set (esOf L) ep t) (T:Tb prog w h₀ t L) (it:SetIt s.heap I S slot k L.length ep) (hk:k≤L.length)
  (hsl:w.params.followText "set-order" = false→slot = slotAt L k) (q0:k = L.length→∀ h',Heap.ExtBut I s.heap h'→Q none { s with heap:=h' })
  (q1:∀ h' slot' x,Heap.SameBut I s.heap h'→SetIt h' I S slot' (k + 1) L.length ep→(w.params.followText "set-order" = false→slot' = slotAt L (k + 1))→(ordOf w S ep L)[k]? = some x→Q (some x.2) { s with heap:=h' }):wpAny (model prog w) A (pyNext (.ref I)) Q E s:=by
 have hT:s.TypeIs (.ref I) "set_iterator":=⟨_,it,rfl⟩
 delta pyNext
 refine wpAny_bind (wpAny_attempt (wpAny_callSpecial?_slot (name:=Str.ofString "__next__") hT slot_si_next
  (wpAny_call_entry slot_si_next hT entry_si_next ?_ (args_si_next _))))
 delta Builtin.«set_iterator.__next__»
 refine wpAny_bind (m:=slotArgs "__next__" 0 _) (wpAny_pure ?_)
 refine wpAny_bind ?_
 delta fieldsOf
 refine wpAny_bind (wpAny_load it (wpAny_pure ?_))
 show wpAny _ _ (setEntries S >>= _) _ _ _
 refine wpAny_bind (wpAny_setEntries_of ho hd (fitsH T s) ?_)
 rw [if_neg (by rw [es_size,bne_self_eq_false]; exact Bool.false_ne_true)]
 show wpAny _ _ (setNext S (Int.toNat slot) (Int.toNat k) (Int.toNat ep) >>= _) _ _ _
 rw [Int.toNat_natCast,Int.toNat_natCast,Int.toNat_natCast]
 refine wpAny_bind (next_ok ho hd T hk hsl (fun hk=>?_) fun x n h1 h2=>?_)
 ·refine wpAny_bind (wpAny_setField_rec it (Nat.lt_of_lt_of_le (by decide) (Nat.le_refl 5)) fun h1' g1 sb1=>?_)
  refine wpAny_bind ?_
  simp only [newExc,newTuple]
  refine wpAny_bind (wpAny_newObj_type ?_ (by size_fits))
  refine wpAny_bind (m:=firstArgMember _ _) (wpAny_of_eq (a:=Value.none) (by first | rfl | (simp only [firstArgMember]; rfl)) ?_)
  refine wpAny_newObj_type ?_ (by size_fits)
  simp only [raiseNew]
  refine wpAny_bind (wpAny_handled ?_)
  rw [show A.in1.handled = none from hh]
  refine wpAny_bind (wpAny_pure (wpAny_throw ?_))
  refine wpAny_bind (wpAny_isInstance (T:="StopIteration") (b:=true) ⟨_,Heap.get?_push_size _ rfl,rfl⟩ isSubtype_stop ?_)
  exact wpAny_pure (q0 hk _ ((sb1.extBut.push _).push _))
 ·refine wpAny_bind (wpAny_setField_rec it (Nat.lt_of_lt_of_le (by decide) (Nat.le_refl 5)) fun h1' g1 sb1=>?_)
  refine wpAny_bind (wpAny_setField_rec (s:={ s with heap:=h1' }) g1 (by simp) fun h2' g2 sb2=>?_)
  exact wpAny_pure ⟨_,rfl,wpAny_pure (q1 h2' n x (sb1.trans sb2) g2 h2 h1)⟩
theorem set_walks {I S:Addr} {o:Obj} {ep:Nat} (hh:A.handled = none) (hne:S ≠ I) (hd:o.data = .set (esOf L) ep t) (T:Tb prog w h₀ t L) :
  Walks prog w A I [I,S] [I] L.length (fun i v=>∃ x,(ordOf w S ep L)[i]? = some x∧v = x.2) (fun i h=>∃ slot,SetIt h I S slot i L.length ep∧(w.params.followText "set-order" = false→slot = slotAt L i)∧h.get? S = some o) where
 sub:=fun b hb=>List.mem_singleton.mp hb ▸ List.mem_cons_self
 frame:=fun i h h' ⟨slot,it,h1,h2⟩ hk=>⟨slot,hk I (List.mem_cons_self ..) _ it,h1,hk S (List.mem_cons_of_mem _ (List.mem_cons_self ..)) _ h2⟩
 item:=fun i s Q E hi ⟨slot,it,h1,h2⟩ hQ=>set_step hh h2 hd T it (Nat.le_of_lt hi) h1 (fun e=>absurd hi (Nat.not_lt.mpr (Nat.le_of_eq e.symm))) fun h' slot' x sb it' h3 h4=>hQ x.2 h' s.toks ⟨x,h4,rfl⟩ ⟨slot',it',h3,sb.extBut S o hne h2⟩ fun b o hb e=>sb.extBut b o (fun q=>hb (List.mem_singleton.mpr q)) e
 done:=fun s Q E ⟨slot,it,h1,h2⟩ hQ=>set_step hh h2 hd T it (Nat.le_refl _) h1 (fun _ h' eb=>hQ h' s.toks fun b o hb e=>eb b o (fun q=>hb (List.mem_singleton.mpr q)) e) fun h' slot' x _ _ _ h4=>absurd (Array.getElem?_eq_some_iff.mp h4).1 (Nat.not_lt.mpr (Nat.le_of_eq ord_size))
 self:=fun i s Q E ⟨slot,it,_,_⟩ hQ=>by
  have hT:s.TypeIs (.ref I) "set_iterator":=⟨_,it,rfl⟩
  refine wpAny_pyIter_slot hT slot_si_iter (wpAny_call_entry slot_si_iter hT entry_si_iter ?_ (args_si_iter _))
  show wpAny _ _ (ret (.ref I)) _ _ s
  exact wpAny_pure ⟨_,rfl,"set_iterator",_,hT,slot_si_next.lookup,hQ⟩
end
end Mine.Internal
namespace Mine.Internal
open PySem PySem.W PyProof.Rows PySem.Calls
section
variable {prog:Program} {w:World} {t:SetTable} {L:List En} {A:Around} {E:PV→Shared→Prop} {s:Shared} {h₀:Heap}
noncomputable def siO (S n ep:Nat):Obj:={ cls:=.type "set_iterator",data:=.fields #[rawInt (0:Nat),rawInt (0:Nat),.ref S,rawInt n,rawInt ep] }
theorem set_iter {S:Addr} {o:Obj} {ep:Nat} {Q:PV→Shared→Prop} (ho:s.heap.get? S = some o) (hex:o.ExactSet) (hd:o.data = .set (esOf L) ep t) (T:Tb prog w h₀ t L)
  (q:SetIt (s.heap.push (siO S L.length ep)) s.heap.objs.size S 0 0 L.length ep→Q (.ref s.heap.objs.size) { s with heap:=s.heap.push (siO S L.length ep) }) :
  wpAny (model prog w) A (pyIter (.ref S)) Q E s:=by
 have hT:s.TypeIs (.ref S) "set":=⟨o,ho,hex.1⟩
 have g:SetIt (s.heap.push (siO S L.length ep)) s.heap.objs.size S 0 0 L.length ep:=Heap.get?_push_size _ rfl
 refine wpAny_pyIter_slot hT F.slot_set_iter (wpAny_call_entry F.slot_set_iter hT entry_s_iter ?_ (F.args_set_iter_1 _))
 delta Builtin.«frozenset.__iter__» Builtin.Frozenset.slot0 slotArgs
 simp only [List.isEmpty_nil,Bool.not_true,Bool.false_eq_true,↓reduceIte,bind_assoc,List.length_nil,bne_self_eq_false]
 delta Builtin.Frozenset.addrOf Builtin.Frozenset.sizeOf
 refine wpAny_bind (wpAny_pure ?_)
 dsimp only
 refine wpAny_bind (wpAny_pure ?_)
 refine wpAny_bind (wpAny_bind (wpAny_setEntries_of ho hd (fitsH T s) (wpAny_pure ?_)))
 delta setDrawn setsByText
 refine wpAny_bind (wpAny_bind (wpAny_setState_of ho hd (fitsH T s) ?_))
 dsimp only
 refine wpAny_bind (wpAny_bind (wpAny_askSetting (wpAny_pure ?_)))
 refine wpAny_pure ?_
 have nf:∀ b:Bool,¬ (b && (!t.plain && decide ((esOf L).size > 1))) = true:=fun b=>by rw [T.q.plain]; cases b <;> exact Bool.false_ne_true
 rw [if_neg (by exact nf _)]
 refine wpAny_bind (wpAny_pure ?_)
 refine wpAny_bind (wpAny_setEpoch_of ho hd (fitsH T s) ?_)
 refine wpAny_bind (wpAny_newObj_type ?_)
 rw [es_size]
 exact wpAny_pure ⟨_,rfl,"set_iterator",_,⟨_,g,rfl⟩,slot_si_next.lookup,q g⟩
theorem items_ord {S ep:Nat} {acc:Array PV} (h:ItemsOf (fun i v=>∃ x,(ordOf w S ep L)[i]? = some x∧v = x.2) acc L.length):acc.toList.Perm (L.map fun e=>Value.ref e.2.2):=by
 have e:acc.toList = (ordOf w S ep L).toList.map (·.2):=List.ext_getElem ((h.1.trans ord_size.symm).trans (List.length_map ..).symm) fun i h1 h2=>by
  obtain ⟨x,hx,hv⟩:=h.2 i acc[i] (Array.getElem?_eq_getElem h1)
  rw [List.getElem_map]
  exact hv.trans (congrArg (·.2) (Array.getElem?_eq_some_iff.mp hx).2.symm)
 rw [e]
 refine (ord_perm.map (·.2)).trans (List.Perm.of_eq ?_)
 delta esOf
 exact List.map_map
theorem touch_ok {a:Addr} {n:Nat} {Q:Unit→Shared→Prop} (ho:s.heap.get? a = some (seqObj "list" #[] n)) (q:∀ h' n',Heap.SameBut a s.heap h'→h'.get? a = some (seqObj "list" #[] n')→Q () { s with heap:=h' }):wpAny (model prog w) A (Builtin.List.listTouch (.ref a)) Q E s:=by
 delta Builtin.List.listTouch
 have g1:=get?_update_seq ho (fun x=>x.push Value.none)
 refine wpAny_bind (listUpdate_at ho rfl ?_ (Nat.zero_le _) (by simp))
 refine listUpdate_at (s:={ s with heap:=s.heap.update a (Obj.mapSeq fun x=>x.push Value.none) }) g1 rfl ?_ (by rw [sizeLine_eq]; simp) (by simp)
 exact q _ _ ((Heap.SameBut.update ..).trans (Heap.SameBut.update ..)) (get?_update_seq g1 (fun x=>x.pop))
theorem collect_set {S:Addr} {o:Obj} {ep:Nat} {Q:List PV→Shared→Prop} (hh:A.handled = none) (ho:s.heap.get? S = some o) (hex:o.ExactSet) (hd:o.data = .set (esOf L) ep t) (T:Tb prog w h₀ t L)
  (q:∀ h' tk (acc:List PV),(∀ b o,s.heap.get? b = some o→h'.get? b = some o)→acc.Perm (L.map fun e=>Value.ref e.2.2)→Q acc { s with heap:=h',toks:=tk }):wpAny (model prog w) A (collect (.ref S)) Q E s:=by
 have hlt:S < s.heap.objs.size:=Heap.lt_size ho
 delta collect
 refine wpAny_bind (wpAny_runValue (codeAny_builtin F.entry_proto_collect ?_))
 rw [Around.under_plainId F.plain_proto_collect _]
 show wpAny _ A.in1 (newList [] >>= fun l=>again (.builtin "list.__iadd__" ⟨[l,.ref S],[]⟩)) _ _ s
 refine wpAny_bind (wpAny_newObj_type ?_)
 refine wpAny_pure ⟨plainId_quiet F.plain_list_iadd _,codeAny_builtin F.entry_list_iadd ?_⟩
 rw [Around.under_plainId F.plain_list_iadd _]
 have hS₁:(s.heap.push (seqObj "list" #[] 0)).get? s.heap.objs.size = some (seqObj "list" #[] 0):=Heap.get?_push_size _ rfl
 have ho1:(s.heap.push (seqObj "list" #[] 0)).get? S = some o:=Heap.get?_push_of_some _ ho
 show wpAny _ A.in1 (Builtin.List.listExtendWith (.ref s.heap.objs.size) (.ref S) (.ref s.heap.objs.size)) _ _ { s with heap:=s.heap.push (seqObj "list" #[] 0) }
 delta Builtin.List.listExtendWith
 refine wpAny_bind (wpAny_typeOf (T:="set") ⟨_,ho1,hex.1⟩ ?_)
 rw [if_neg (by rw [show Builtin.List.listSameRef (.ref s.heap.objs.size) (.ref S) = false by simp [Builtin.List.listSameRef]; exact Nat.ne_of_gt hlt]; decide)]
 refine wpAny_bind (set_iter ho1 hex hd T fun it=>?_)
 generalize hI:({ s with heap:=s.heap.push (seqObj "list" #[] 0) }:Shared).heap.objs.size = I at it ⊢
 have hI:I = s.heap.objs.size + 1:=hI.symm.trans (Heap.size_push ..)
 have ho2:((s.heap.push (seqObj "list" #[] 0)).push (siO S L.length ep)).get? S = some o:=Heap.get?_push_of_some _ ho1
 refine wpAny_bind (wpAny_holding ?_)
 delta Builtin.List.listLengthHint
 refine wpAny_bind (wpAny_specialOf (T:="set") ⟨_,ho2,hex.1⟩ F.slot_set_len.lookup ?_)
 (generalize hid:("set.__len__":String) = id0; (fail_if_success (clear hid id0)); wp_delta; rw [show splitId id0 = some ("set","__len__") from by subst hid; decide +kernel]; subst hid)
 refine wpAny_bind (wpAny_isInstance (T:="set") (b:=true) ⟨_,ho2,hex.1⟩ (by rw [isSubtype_type]; kernel_rfl) ?_)
 show wpAny _ A.in1 (typeOf (.ref S) >>= _) _ _ _
 refine wpAny_bind (wpAny_typeOf (T:="set") ⟨_,ho2,hex.1⟩ ?_)
 refine wpAny_pure ?_
 rw [if_pos (by decide)]
 refine wpAny_bind (wpAny_rule ?_)
 have nS:S ≠ I:=hI ▸ Nat.ne_of_lt (Nat.lt_succ_of_lt hlt)
 refine wpAny_bind (touch_ok (n:=0) (Heap.get?_push_of_some _ hS₁) fun h2 n2 sb2 hS₂=>?_)
 have W:=(set_walks (A:=A.in1) (I:=I) hh nS hd T).toS
 have out:∀ {b:Nat},b ≠ I→b ≠ S→b ∉ [I,S]:=fun h1 h2 hm=>(List.mem_cons.mp hm).elim h1 fun h=>h2 (List.mem_singleton.mp h)
 refine wpAny_pure ⟨plainId_quiet F.plain_extend_loop _,codeAny_extend_loopS W (by rw [sizeLine_eq]; exact Nat.le_trans T.q.len (by decide)) s.heap.objs.size (out (hI ▸ Nat.ne_of_lt (Nat.lt_succ_self _)) (Nat.ne_of_gt hlt)) _ L.length 0 _ #[] n2 rfl (Nat.zero_le _) ⟨0,sb2.extBut _ _ (hI ▸ Nat.ne_of_gt (Nat.lt_succ_self _)) it,fun _=>rfl,sb2.extBut _ _ (Nat.ne_of_lt hlt) ho2⟩ hS₂ (ItemsOf.nil _) fun s' acc' c' hm hS' hacc=>?_⟩
 show wpAny _ A (load s.heap.objs.size >>= _) _ _ s'
 refine wpAny_bind (wpAny_load hS' ?_)
 obtain ⟨m1,m2,m3,m4,m5⟩:=hm
 obtain ⟨hp,gs,dr,tk,os⟩:=s'
 dsimp only at m2 m3 m4
 subst m2; subst m3; subst m4
 refine wpAny_pure (q hp tk acc'.toList (fun b ob e=>m1 b ob ?_ (sb2.extBut b ob (Nat.ne_of_lt (Heap.lt_size e)) (Heap.get?_push_of_some _ (Heap.get?_push_of_some _ e)))) (items_ord hacc))
 have hb:=Heap.lt_size e
 simp only [List.mem_cons,List.not_mem_nil,or_false,not_or]
 exact ⟨Nat.ne_of_lt hb,hI ▸ Nat.ne_of_lt (Nat.lt_succ_of_lt hb)⟩
end
end Mine.Internal
namespace Mine.Internal
open PySem PySem.W PyProof.Rows PySem.Calls
section
variable {prog:Program} {w:World} {t:SetTable} {L:List En} {A:Around} {E:PV→Shared→Prop} {s:Shared} {h₀:Heap}
noncomputable def RowsAt (prog:Program) (w:World) (h:Heap) (items:Array PV) (ks:List (List Int × Addr)):Prop:=items.toList = ks.map (fun e=>Value.ref e.2)∧∀ e∈ks,e.1∈rowsJ∧IsTupleKey (intKind prog w) h e.1 e.2
theorem SetAt.keep {h h':Heap} {S:Addr} (x:SetAt prog w h S L) (k:∀ b o,h.get? b = some o→b = S ∨ (∃ e∈L,e.2.2 = b)→h'.get? b = some o):SetAt prog w h' S L:=by
 obtain ⟨o,ep,t,ho,hex,hd,T⟩:=x
 refine ⟨o,ep,t,k S o ho (.inl rfl),hex,hd,{ T.q with tup:=fun e he=>⟨(T.q.tup e he).1,?_⟩ },T.room⟩
 obtain ⟨oo,items,n,ho2,r⟩:=(T.q.tup e he).2
 exact ⟨oo,items,n,k _ oo ho2 (.inr ⟨e,he,rfl⟩),r⟩
theorem rows_loop {S I l:Addr} {items:Array PV} {ks:List (List Int × Addr)} {R:Result→Shared→Prop} (hu:A.units + 5 < cLine) (hh:A.handled = none) (h1:S ≠ I) (h2:S ≠ l) (h3:l ≠ I) (hksI:∀ e∈ks,e.2 ≠ I) :
  ∀ (f k:Nat) (L:List En) (s:Shared),ks.length - k = f→k≤ks.length→s.heap.IsListIter I l k→s.heap.IsList l items→RowsAt prog w s.heap items ks→SetAt prog w s.heap S L→(∀ e∈L,e.2∈ks)→(∀ e∈ks.take k,∃ e'∈L,e'.2.1 = e.1) →
   (∀ h' tk L',(∀ b o,b ≠ S→b ≠ I→s.heap.get? b = some o→h'.get? b = some o)→SetAt prog w h' S L'→(∀ e∈L',e.2∈ks)→(∀ e∈ks,∃ e'∈L',e'.2.1 = e.1)→R (.ok (.ret .none)) { s with heap:=h',toks:=tk }) →
   codeAny (model prog w) A (.builtin "set.update.loop" ⟨[.ref S,.ref I],[]⟩) R s:=by
 intro f
 induction f with
 | zero =>
  intro k L s hf hk it il ra sa hL hT q
  have hke:k = ks.length:=Nat.le_antisymm hk (Nat.le_of_sub_eq_zero hf)
  subst hke
  refine codeAny_builtin F.entry_set_update_loop ?_
  rw [Around.under_plainId F.plain_set_update_loop _]
  show wpAny _ A.in1 (pyNext (.ref I) >>= _) _ _ s
  have hsz:items.size = ks.length:=by have:=congrArg List.length ra.1; simpa using this
  refine wpAny_bind (wpAny_pyNext_list_end hh it il (Array.getElem?_eq_none (Nat.le_of_eq hsz)) fun h' eb=>?_)
  show wpAny _ A.in1 (ret Value.none) _ _ _
  refine wpAny_pure (q h' s.toks L (fun b o _ n2 e=>eb b o n2 e) (sa.keep fun b o eo hb=>eb b o ?_ eo) hL (by rw [List.take_length] at hT; exact hT))
  rcases hb with rfl | ⟨e,he,rfl⟩
  ·exact h1
  ·exact hksI _ (hL e he)
 | succ f ih =>
  intro k L s hf hk it il ra sa hL hT q
  have hlt:k < ks.length:=Nat.lt_of_sub_eq_succ hf
  have hf1:ks.length - (k + 1) = f:=by rw [Nat.sub_succ,hf]; rfl
  refine codeAny_builtin F.entry_set_update_loop ?_
  rw [Around.under_plainId F.plain_set_update_loop _]
  show wpAny _ A.in1 (pyNext (.ref I) >>= _) _ _ s
  have hv:items[k]? = some (.ref ks[k].2):=by
   rw [← Array.getElem?_toList,ra.1,List.getElem?_map,List.getElem?_eq_getElem hlt]; rfl
  refine wpAny_bind (wpAny_pyNext_list_item it il hv fun h1' it' sb=>?_)
  have hmem:ks[k]∈ks:=List.getElem_mem hlt
  have htu:IsTupleKey (intKind prog w) h1' ks[k].1 ks[k].2:=tup_but (ra.2 _ hmem).2 (fun b o n e=>sb.extBut b o n e) (hksI _ hmem)
  have sa1:SetAt prog w h1' S L:=sa.keep fun b o eo hb=>sb.extBut b o (by
   rcases hb with rfl | ⟨e,he,rfl⟩
   ·exact h1
   ·exact hksI _ (hL e he)) eo
  have il1:h1'.IsList l items:=il.extBut sb.extBut h3
  have ra1:RowsAt prog w h1' items ks:=⟨ra.1,fun e he=>⟨(ra.2 e he).1,tup_but (ra.2 e he).2 (fun b o n e=>sb.extBut b o n e) (hksI e he)⟩⟩
  have take:∀ L':List En,(∀ e∈ks.take k,∃ e'∈L',e'.2.1 = e.1)→(∃ e'∈L',e'.2.1 = ks[k].1)→∀ e∈ks.take (k + 1),∃ e'∈L',e'.2.1 = e.1:=fun L' a b e he=>by
   rw [List.take_add_one,List.getElem?_eq_getElem hlt] at he
   rcases List.mem_append.mp he with he | he
   ·exact a e he
   ·simp at he; subst he; exact b
  show wpAny _ A.in1 (holding [Value.ref ks[k].2] (setAdd S (.ref ks[k].2)) >>= _) _ _ _
  refine wpAny_bind (wpAny_holding ?_)
  delta setAdd
  refine wpAny_holding ?_
  refine wpAny_bind (wpAny_pyHash_tuple (Nat.lt_of_le_of_lt (Nat.add_le_add_left (by decide:1≤5) _) hu) htu ?_)
  refine add_ok (key:=ks[k].1) (Nat.lt_of_le_of_lt (Nat.add_le_add_left (by decide:1≤5) _) hu) (s:={ s with heap:=h1',toks:=s.toks + (ks[k].1.length + 1) }) sa1 (ra.2 _ hmem).1 htu (fun hex=>?_) (fun hn h2' L' sb2 sa2 hp=>?_)
  ·exact wpAny_pure ⟨plainId_quiet F.plain_set_update_loop _,ih (k + 1) L _ hf1 hlt it' il1 ra1 sa1 hL (take L hT hex) fun h' tk L' kp sa' a b=>q h' tk L' (fun b o n1 n2 e=>kp b o n1 n2 (sb.extBut b o n2 e)) sa' a b⟩
  ·have mem:∀ e2:List Int × Addr,e2∈L'.map (·.2) ↔ e2 = (ks[k].1,ks[k].2) ∨ e2∈L.map (·.2):=fun e2=>by rw [hp.mem_iff,List.mem_cons]
   have nS:∀ e∈ks,e.2 ≠ S:=fun e he ee=>by
    obtain ⟨o,ep,t,ho,hex,_,_⟩:=sa1
    exact tup_ne (ra1.2 e he).2 ho hex ee
   refine wpAny_pure ⟨plainId_quiet F.plain_set_update_loop _,ih (k + 1) L' _ hf1 hlt ?_ (il1.extBut sb2.extBut h2.symm) ⟨ra.1,fun e he=>⟨(ra1.2 e he).1,tup_but (ra1.2 e he).2 (fun b o n e=>sb2.extBut b o n e) (nS e he)⟩⟩ sa2 (fun e he=>?_) (take L' (fun e he=>?_) ?_) fun h' tk L2 kp sa' a b=>q h' tk L2 (fun b o n1 n2 e=>kp b o n1 n2 (sb2.extBut b o n1 (sb.extBut b o n2 e))) sa' a b⟩
   ·obtain ⟨o,ho,r⟩:=it'
    exact ⟨o,sb2.extBut _ _ h1.symm ho,r⟩
   ·rcases (mem e.2).mp (List.mem_map.mpr ⟨e,he,rfl⟩) with e2 | e2
    ·rw [e2]; exact hmem
    ·obtain ⟨e',he',ee⟩:=List.mem_map.mp e2
     rw [← ee]; exact hL e' he'
   ·obtain ⟨e',he',ee⟩:=hT e he
    obtain ⟨e3,he3,ee3⟩:=List.mem_map.mp ((mem e'.2).mpr (.inr (List.mem_map.mpr ⟨e',he',rfl⟩)))
    exact ⟨e3,he3,by rw [ee3]; exact ee⟩
   ·obtain ⟨e3,he3,ee3⟩:=List.mem_map.mp ((mem (ks[k].1,ks[k].2)).mpr (.inl rfl))
    exact ⟨e3,he3,by rw [ee3]⟩
end
end Mine.Internal
namespace Mine.Internal
open PySem PySem.W PyProof.Rows PySem.Calls
section
variable {prog:Program} {w:World} {A:Around} {E:PV→Shared→Prop} {s:Shared}
theorem set_new_1 (a:PV) {Q₁:PV→Shared→Prop}
  (h:∀ led:Bool,led = !(w.params.followText "set-order")→Q₁ (.ref s.heap.objs.size) { s with heap:=s.heap.push { cls:=.type "set",dict:=none,data:=.set #[] 0 (.fresh 0 0 led) } }) :
  codeAny (model prog w) A (.call (.builtin "set.__new__") ⟨[.type "set",a],[]⟩) (wants Q₁ E) s:=by
 refine codeAny_of_tree ?_
 show wpAny _ A.in1 (do checkBuiltinCall "set.__new__" ⟨[.type "set",a],[]⟩; again (.builtin "set.__new__" ⟨[.type "set",a],[]⟩)) _ _ s
 refine wpAny_bind (wpAny_of_eq (F.newCall_set_1 a) (wpAny_pure ⟨plainId_quiet F.plain_set_new _,codeAny_builtin F.entry_set_new ?_⟩))
 rw [Around.under_plainId F.plain_set_new _]
 delta Builtin.«set.__new__» Builtin.Frozenset.newClass
 have hsub:=sub_set_self
 obtain ⟨hp,g,d,tk,os⟩:=s
 dsimp only
 wp_walk
 refine wpAny_askSetting (wpAny_pure ?_)
 dsimp only
 simp only [newObj]
 refine wpAny_bind (wpAny_alloc (wpAny_pure ?_))
 exact wpAny_pure (h _ rfl)
theorem call_set_rows {l:Addr} {items:Array PV} {ks:List (List Int × Addr)} {Q:PV→Shared→Prop}
  (hu:A.units + 20 < cLine) (hh:A.handled = none) (hl:s.heap.IsList l items) (ra:RowsAt prog w s.heap items ks)
  (h:∀ (h':Heap) (tk:Nat) L,SetAt prog w h' s.heap.objs.size L→(∀ e∈L,e.2∈ks)→(∀ e∈ks,∃ e'∈L,e'.2.1 = e.1) →
   (∀ b o,b < s.heap.objs.size→s.heap.get? b = some o→h'.get? b = some o)→Q (.ref s.heap.objs.size) { s with heap:=h',toks:=tk }) :
  wpAny (model prog w) A (call (.type "set") [.ref l]) Q E s:=by
 obtain ⟨c,tl,hmro⟩:=F.called_set.mro
 have hmade:=F.called_set.made
 have hsub':=F.called_set.sub
 refine wpAny_call (codeAny_of_tree ?_)
 show wpAny _ _ (callAny (.type "set") _) _ _ _
 refine wpAny_pure ⟨Code.quiet_builtin _ (by decide +kernel),codeAny_builtin F.entry_type_call ?_⟩
 rw [Around.under_plain (weight_type_call_type "set" [.ref l] []) rfl]
 have h1:=F.called_set.notType
 have h2:=F.called_set.canCreate
 have hct:=F.typeCall_set_1 (.ref l)
 repeat (any_goals (first | assumption | wp_step))
 refine codeAny_mono (set_new_1 (.ref l) (E:=E) (Q₁:=fun obj s₁=>∃ led:Bool,led = (!(w.params.followText "set-order"))∧obj = .ref s.heap.objs.size∧s₁ = { s with heap:=s.heap.push { cls:=.type "set",dict:=none,data:=.set #[] 0 (.fresh 0 0 led) } }) fun led hled=>⟨led,hled,rfl,rfl⟩) fun r s₁ hr=>?_
 cases r with
 | error e=>exact hr
 | ok fl =>
  cases fl with
  | ret obj =>
   obtain ⟨led,hled,rfl,rfl⟩:=hr
   have hS:(s.heap.push { cls:=.type "set",dict:=none,data:=.set #[] 0 (.fresh 0 0 led) }).get? s.heap.objs.size = some { cls:=.type "set",dict:=none,data:=.set #[] 0 (.fresh 0 0 led) }:=Heap.get?_push_size _ rfl
   have hT:Shared.TypeIs { s with heap:=s.heap.push { cls:=.type "set",dict:=none,data:=.set #[] 0 (.fresh 0 0 led) } } (.ref s.heap.objs.size) "set":=⟨_,hS,rfl⟩
   have hli:=F.called_set.init.lookup
   have hbi:=F.called_set.init.bind (.ref s.heap.objs.size)
   repeat (any_goals (first | assumption | wp_step))
   refine codeAny_mono (codeAny_call_builtin (R:=wants (fun r s₂=>r = .none∧∃ h' tk L,s₂ = { s with heap:=h',toks:=tk } ∧
     SetAt prog w h' s.heap.objs.size L∧(∀ e∈L,e.2∈ks)∧(∀ e∈ks,∃ e'∈L,e'.2.1 = e.1) ∧
     (∀ b o,b < s.heap.objs.size→s.heap.get? b = some o→h'.get? b = some o)) E) F.called_set.init.plain F.entry_set_init (check_set_init_1 hT ?_)) fun r₂ s₂ hr₂=>?_
   ·obtain ⟨ol,hol,hcl,nl,hdl⟩:=hl
    obtain ⟨ocls,odict,odata,oslots⟩:=ol
    simp only at hcl hdl
    subst hcl; subst hdl
    have hol':(s.heap.push { cls:=.type "set",dict:=none,data:=.set #[] 0 (.fresh 0 0 led) }).get? l = some { cls:=.type "list",dict:=odict,data:=.seq items nl,slots:=oslots }:=Heap.get?_push_of_some _ hol
    have hsls:=F.sub_list_set
    have hslf:=F.sub_list_frozenset
    have hne:(Value.type "list" == Value.type "dict") = false:=by decide
    have hl1:(s.heap.push { cls:=.type "set",dict:=none,data:=.set #[] 0 (.fresh 0 0 led) }).IsList l items:=⟨_,hol',rfl,nl,rfl⟩
    delta Builtin.«set.__init__» noKeywords Builtin.Frozenset.updateFrom
    generalize hPI:pyIter = PI
    wp_walk
    subst hPI
    refine wpAny_pyIter_list hl1 ?_
    refine wpAny_bind (wpAny_runValue ?_)
    have hlS:l < s.heap.objs.size:=Heap.lt_size hol
    have z1:(s.heap.push { cls:=.type "set",dict:=none,data:=.set #[] 0 (.fresh 0 0 led) }).objs.size = s.heap.objs.size + 1:=Heap.size_push ..
    have kk:∀ b o',s.heap.get? b = some o'→((s.heap.push { cls:=.type "set",dict:=none,data:=.set #[] 0 (.fresh 0 0 led) }).push { cls:=.type "list_iterator",data:=.fields #[.ref l,.int 0 0] }).get? b = some o':=fun b o' e=>Heap.get?_push_of_some _ (Heap.get?_push_of_some _ e)
    have tupk:∀ e∈ks,e.1∈rowsJ∧IsTupleKey (intKind prog w) ((s.heap.push { cls:=.type "set",dict:=none,data:=.set #[] 0 (.fresh 0 0 led) }).push { cls:=.type "list_iterator",data:=.fields #[.ref l,.int 0 0] }) e.1 e.2:=fun e he=>by
     obtain ⟨m',o',it',n',ho',r'⟩:=ra.2 e he
     exact ⟨m',o',it',n',kk _ _ ho',r'⟩
    have klt:∀ e∈ks,e.2 < s.heap.objs.size:=fun e he=>by
     obtain ⟨m',o',it',n',ho',r'⟩:=ra.2 e he
     exact Heap.lt_size ho'
    refine rows_loop (S:=s.heap.objs.size) (l:=l) (items:=items) (ks:=ks) (by show A.units + 1 + 1 + 5 < cLine; (first | lia | omega)) (by exact hh) (by rw [z1]; exact Nat.ne_of_lt (Nat.lt_succ_self _)) (Nat.ne_of_gt hlS) (by rw [z1]; exact Nat.ne_of_lt (Nat.lt_succ_of_lt hlS)) (fun e he=>by rw [z1]; exact Nat.ne_of_lt (Nat.lt_succ_of_lt (klt e he)))
     ks.length 0 [] _ (by (first | lia | omega)) (Nat.zero_le _) ⟨_,Heap.get?_push_size _ rfl,rfl,rfl⟩ (hl1.push _) ⟨ra.1,tupk⟩ ⟨_,0,.fresh 0 0 led,Heap.get?_push_of_some _ hS,⟨rfl,rfl,rfl⟩,rfl,⟨⟨List.mem_cons_self ..,rfl,rfl,rfl,hled,.nil,fun _ h=>(nomatch h),fun _ h=>(nomatch h),.nil,fun _ h=>(nomatch h)⟩,(by show 0 * 5 < 7 * 3; decide)⟩⟩ (fun _ h=>nomatch h) (fun _ h=>by simp at h) fun h' tk L kp sa a b=>?_
    show wpAny _ _ _ _ _ _
    refine wpAny_pure ?_
    show wpAny _ _ (ret Value.none) _ _ _
    refine wpAny_pure ⟨rfl,h',tk,L,rfl,sa,a,b,fun b' o hb e=>kp b' o (Nat.ne_of_lt hb) (by rw [z1]; exact Nat.ne_of_lt (Nat.lt_succ_of_lt hb)) (kk b' o e)⟩
   ·cases r₂ with
    | error e=>exact hr₂
    | ok fl₂ =>
     cases fl₂ with
     | ret r =>
      obtain ⟨rfl,h',tk,L,rfl,sa,a,b,hk'⟩:=hr₂
      repeat (any_goals (first | assumption | wp_step))
      exact h _ _ _ sa a b hk'
     | _=>exact hr₂.elim
  | _=>exact hr.elim
end
end Mine.Internal
namespace Mine.Internal
open PySem PySem.W PyProof.Rows PySem.Calls
noncomputable abbrev Rw:=List Int × Addr
noncomputable abbrev rwV (e:Rw):V:=rowV e.1
noncomputable abbrev rwP (e:Rw):PV:=.ref e.2
section
variable {B:Bd} {G:Ev} {N:Nx} {u:Nat} {c:Ck} {Q E:PV→Shared→Prop}
theorem perm_lift {α β:Type} {f:α→β} {acc:List β}:∀ {l:List α},acc.Perm (l.map f)→∃ es:List α,es.Perm l∧acc = es.map f:=by
 induction acc with
 | nil=>exact fun {l} h=>⟨[],by rw [List.map_eq_nil_iff.mp h.symm.eq_nil],rfl⟩
 | cons v acc ih =>
  intro l h
  obtain ⟨e,he,rfl⟩:=List.mem_map.mp (h.mem_iff.mp (List.mem_cons_self ..))
  obtain ⟨l1,l2,rfl⟩:=List.append_of_mem he
  obtain ⟨es,e1,e2⟩:=ih (l:=l1++l2) (h.trans ((List.perm_middle (a:=e) (l₁:=l1) (l₂:=l2)).map f)).cons_inv
  exact ⟨e :: es,(e1.cons e).trans List.perm_middle.symm,congrArg (f e :: ·) e2⟩
theorem row_ks:∀ {l:List V} {vs:List PV},l.all rowOj = true→Vals B N l vs→∃ ks:List Rw,vs = ks.map rwP∧l = ks.map rwV∧∀ e∈ks,(Val B N (rwV e) (rwP e)∧RowAt B.D N N.s.heap (rwP e) e.1)∧e.1∈rowsJ:=by
 intro l
 induction l with
 | nil=>exact fun _ r=>⟨[],r,rfl,fun _ h=>nomatch h⟩
 | cons d l ih =>
  intro vs ha r
  obtain ⟨v,t,rfl,r1,r2⟩:=r
  have ha:=Bool.and_eq_true_iff.mp ha
  obtain ⟨ks,rfl,rfl,k⟩:=ih ha.2 r2
  obtain ⟨q,hq,rfl⟩:=rowOj_of ha.1
  have w:=row_at (rowOk_at (row_JI hq)) r1
  rw [ikey_row] at w
  obtain ⟨a,arr,n,rfl,w⟩:=w
  exact ⟨(q,a) :: ks,rfl,rfl,fun e he=>(List.mem_cons.mp he).elim (fun e1=>by rw [e1]; exact ⟨⟨r1,a,arr,n,rfl,w⟩,hq⟩) (k e)⟩
theorem rows_val {ks es:List Rw} (k:∀ e∈ks,Val B N (rwV e) (rwP e)∧RowAt B.D N N.s.heap (rwP e) e.1) (h:∀ e∈es,e∈ks):Vals B N (es.map rwV) (es.map rwP):=by
 induction es with
 | nil=>exact rfl
 | cons e es ih=>exact ⟨_,_,rfl,(k e (h e (List.mem_cons_self ..))).1,ih fun e he=>h e (List.mem_cons_of_mem _ he)⟩
theorem items_are {prog:Program} {w:World} {D:Wd}:∀ {k:List Int} {vs:List PV},RVs D N (k.map .int) vs→ItemsAre (intKind prog w) k vs:=by
 intro k
 induction k with
 | nil=>intro vs r; cases (r:vs = []); exact .nil
 | cons i k ih =>
  intro vs r
  obtain ⟨_,t,rfl,⟨tk,rfl⟩,r⟩:=r
  exact .cons (by simp [intKind,Value.isInt]) (ih r)
theorem sorted_set {L:List En} {S:Addr} (hh:G.A.handled = none) (sm:Sm B.D N) {s:Shared} (mo:More N s) (SA:SetAt B.D.prog B.D.w s.heap S L) {ks:List Rw} {l:List V} (hl:l.all rowOk = true) (el:l = ks.map rwV)
  (k:∀ e∈ks,Val B N (rwV e) (rwP e)∧RowAt B.D N N.s.heap (rwP e) e.1) (k1:∀ e∈L,e.2∈ks) (k2:∀ e∈ks,∃ e'∈L,e'.2.1 = e.1)
  (z:∀ Y v,Aft B.D N noA Y→Y.σ = N.σ→Val B Y (.list (sortB l)) v→Q v Y.s):wpAny (model B.D.prog B.D.w) G.A (call (.builtin "sorted") [.ref S]) Q E s:=by
 obtain ⟨o,ep,t,ho,hex,hd,T⟩:=SA
 refine Calls.call_function_entry kind_sorted plain_sorted entry_sorted (args_sorted1 _) ?_
 delta Builtin.«sorted»
 refine wpAny_bind (m:=checkCount "sorted" 1 1 _) (wpAny_pure ?_)
 refine wpAny_bind (collect_set hh ho hex hd T fun h1 tk acc kp hp=>?_)
 obtain ⟨es,pe,ea⟩:=perm_lift (f:=rwP) (l:=L.map (·.2)) (acc:=acc) (by rw [List.map_map]; exact hp)
 subst ea
 have hes:∀ e∈es,∃ e'∈L,e'.2 = e:=fun e he=>List.mem_map.mp (pe.mem_iff.mp he)
 have hek:∀ e∈es,e∈ks:=fun e he=>(hes e he).elim fun e' q=>q.2 ▸ k1 e' q.1
 have nd:(es.map rwV).Nodup:=by
  have w:(es.map (·.1)).Nodup:=(pe.map (·.1)).nodup_iff.mpr (by rw [List.map_map]; exact T.q.nd)
  rw [show es.map rwV = (es.map (·.1)).map rowV by rw [List.map_map]; rfl]
  exact List.pairwise_map.mpr (w.imp fun hne e=>hne (rowV_inj e))
 have h30:es.length≤30:=by rw [pe.length_eq,List.length_map]; exact (Nat.le_trans T.q.len (by decide))
 have hlk:(es.map rwP).length = (es.map rwV).length:=by rw [List.length_map,List.length_map]
 have hln:(es.map rwV).length = es.length:=List.length_map ..
 have hz:(es.map rwP).length≤sizeLine:=by rw [hlk,hln,sizeLine_eq]; exact Nat.le_trans h30 (by decide)
 have hok:(es.map rwV).all rowOk = true:=List.all_eq_true.mpr fun x hx=>(List.mem_map.mp hx).elim fun e q=>by
  rw [← q.2]; exact List.all_eq_true.mp hl _ (by rw [el]; exact List.mem_map.mpr ⟨e,hek e q.1,rfl⟩)
 have rs:=rows_val k hek
 have kall:∀ b o,N.s.heap.get? b = some o→h1.get? b = some o:=fun b o e=>kp b o (mo.k b o e)
 refine wpAny_bind (wpAny_newList ?_ hz)
 have hoL:(h1.push (seqObj "list" (es.map rwP).toArray 0)).get? h1.objs.size = some (seqObj "list" (es.map rwP).toArray 0):=Heap.get?_push_size _ rfl
 refine wpAny_bind (wpAny_holding (wpAny_call_entry slot_list_sort ⟨_,hoL,rfl⟩ entry_list_sort (sort_rows (D:=B.D) (N:=N) (key:=fun i=>ikey ((es.map rwV).getD i .none)) hoL (fun i v hv=>(rows_at hok rs i v hv).mono fun b o _ eo=>Heap.get?_push_of_some _ (kall b o eo))
  (fun i j hi hj h=>?_) (hlk.symm ▸ hln.symm ▸ Nat.lt_of_le_of_lt h30 (by decide)) fun p hp hs=>⟨_,rfl,?_⟩) (args_list_sort _)))
 ·rw [hlk] at hi hj
  obtain ⟨k1,m1,e1⟩:=rowOk_of (List.all_eq_true.mp hok _ (List.getElem_mem hi))
  obtain ⟨k2,m2,e2⟩:=rowOk_of (List.all_eq_true.mp hok _ (List.getElem_mem hj))
  replace h:rix (ikey ((es.map rwV).getD i .none)) = rix (ikey ((es.map rwV).getD j .none)):=h
  rw [getD_at hi,getD_at hj,e1,e2,ikey_row,ikey_row] at h
  exact (List.getElem_inj nd).mp (e1.trans ((congrArg rowV (rix_inj m1 h)).trans e2.symm))
 rw [hlk] at hp hs
 have up:=pick_up hp hs
 have eq:(p.toList.map fun i=>(es.map rwV).getD i V.none) = sortB l:=List.Perm.eq_of_pairwise (le:=fun a b=>rkey a < rkey b) (fun a b ha hb h1 h2=>absurd (Nat.lt_trans h1 h2) (Nat.lt_irrefl _)) up (sortB_up l)
  ((List.perm_ext_iff_of_nodup (up_nodup up) (up_nodup (sortB_up l))).mpr fun x=>(pick_perm hp).mem_iff.trans (Iff.trans ⟨fun h=>?_,fun h=>?_⟩ (mem_sortB hl x)))
 ·obtain ⟨ep2,hD⟩:=sortedHeap_at (out:=List.toArray (pick (es.map rwP) p)) hoL
  have m2:More N { s with heap:=sortedHeap (h1.push (seqObj "list" (es.map rwP).toArray 0)) h1.objs.size (es.map rwP) (List.toArray (pick (es.map rwP) p)),toks:=tk }:=⟨fun b o e=>by
   have hlt:=Heap.lt_size (kall b o e)
   rw [sortedHeap_old (Nat.ne_of_lt hlt) (by rw [Heap.size_push]; exact Nat.lt_succ_of_lt hlt)]
   exact Heap.get?_push_of_some _ (kall b o e),mo.g,mo.o⟩
  have nn:¬ N.has h1.objs.size:=fun h=>(Option.isSome_iff_exists.mp h).elim fun o e=>Nat.lt_irrefl _ (Heap.lt_size (kall _ o e))
  have pv:=m2.pv sm nn hD
  have r2:=Vals.on (m2.aft sm) (RVs_pick rs p.toList fun i hi=>hp.mem hi)
  rw [eq] at r2
  exact wpAny_pure ⟨_,rfl,z ((N.at _).wi h1.objs.size) _ ((m2.aft sm).wi pv nn) rfl (RC_RV (d:=.list _) (.inr rfl) (RC_le Le.wi (fun _ e=>e) ⟨_,⟨ep2,hD⟩,r2⟩))⟩
 ·obtain ⟨e,he,rfl⟩:=List.mem_map.mp h
  rw [el]; exact List.mem_map.mpr ⟨e,hek e he,rfl⟩
 ·rw [el] at h
  obtain ⟨e,he,rfl⟩:=List.mem_map.mp h
  obtain ⟨e',he',ee⟩:=k2 e he
  exact List.mem_map.mpr ⟨e'.2,pe.mem_iff.mpr (List.mem_map.mpr ⟨e',he',rfl⟩),by show rowV e'.2.1 = rowV e.1; rw [ee]⟩
theorem set_sorted {l:List V} {v:PV} (hu:G.A.units + 20 < cLine) (hh:G.A.handled = none) (sm:Sm B.D N) (hl:l.all rowOj = true) (rv:Val B N (.list l) v)
  (z:∀ Y v,Aft B.D N noA Y→Y.σ = N.σ→Val B Y (.list (sortB l)) v→Q v Y.s):Wp B G N (call (.type "set") [v]) (fun v s1=>wpAny (model B.D.prog B.D.w) G.A (call (.builtin "sorted") [v]) Q E s1) E:=by
 obtain ⟨a,arr,rfl,wa,il,rsl⟩:=rv
 obtain ⟨ks,e1,e2,k⟩:=row_ks hl rsl
 refine call_set_rows (ks:=ks) hu hh (IsLs.list il) ⟨e1,fun e he=>?_⟩ fun h1 tk L sa k1 k2 kp=>sorted_set hh sm ⟨fun b o e=>kp b o (Heap.lt_size e) e,rfl,rfl⟩ sa (rowOj_ok hl) e2 (fun e he=>(k e he).1) k1 k2 z
 obtain ⟨b,brr,n,eb,hb,rb,mb⟩:=(k e he).1.2
 cases eb
 exact ⟨(k e he).2,_,brr,n,hb,rfl,rfl,items_are rb⟩
theorem ss_ok (hu:40≤u):SsOk B u .sortedSet "sorted" (.builtin "sorted"):=fun g c x f p1 p2 p3 p4 F B1 B2 hs h3 G N Q E K H q z=>by
 show Wp B G N (do callWith p4 (← eval (.Name "sorted" p1) G.env) [] (backTo p4 (starEach [.Call (.Name "set" p2) [f] [] p3] G.env)) []) Q E
 refine wpAny_bind (wpAny_Name (load_blt H F B1.k B1.g B1.b (callWith_bi (first:=[]) rfl rfl ?_)) B1.d)
 rw [starEach_cons rfl]
 refine Calls.spliced_cons (call_name F B2 rfl (by rw [List.all_cons,hs]; rfl) h3 H q fun ds Y vs k a r=>?_)
 obtain ⟨d,rfl,e⟩:=one_of (show oK (one ds _) _ from k)
 obtain ⟨v,rfl,rv⟩:=Vals.one r
 cases d with
 | list l =>
  obtain ⟨hc,e⟩:=if_of (show oK (if l.all rowOj = true∧l.length≤capL then some (V.list (sortB l)) else none) _ from e)
  have hu2:=H.rm.units
  exact wpAny_mono (set_sorted (by (first | lia | omega)) H.rm.hand a.sm hc.1 rv fun Z w a2 e2 r2=>z _ Z w (by rw [e2]; exact e) (a.trans a2) r2) (fun v s2 h2=>wpAny_pure h2) fun _ _ h=>h
 | _=>exact False.elim e
end
end Mine.Internal
namespace Mine.Internal
theorem oK_i {α:Type} {o:Option α} {k:α→Prop} (a:α) (h:o = some a) (hk:k a):oK o k:=by rw [h]; exact hk
theorem iK_t {b:Bool} {p q:Prop} (h:b = true) (hp:p):iK b p q:=by rw [h]; exact hp
theorem iK_f {b:Bool} {p q:Prop} (h:b = false) (hp:q):iK b p q:=by rw [h]; exact hp
theorem bK_i {b:Bool} {p:Prop} (h:b = true) (hp:p):bK b p:=by rw [h]; exact hp
theorem okLen_i {l:List V} (h:l.length≤capL):okLen l = some l:=if_pos h
theorem len_L {L:List V} (σ:St) (h:L.length≤capL):biE σ .len [.list L] = some (.int L.length):=by
 show (okLen L).map (fun l=>V.int l.length) = _
 rw [okLen_i h]; rfl
theorem len_T {L:List V} (σ:St) (h:L.length≤capL):biE σ .len [.tup L] = some (.int L.length):=by
 show (okLen L).map (fun l=>V.int l.length) = _
 rw [okLen_i h]; rfl
theorem idx_i {l:List V} {k:Nat} {v:V} (h:l[k]? = some v) (hl:l.length≤1000000) (σ:St):itemE σ (.list l) (.int k) = some v:=by
 have hk:=(List.getElem?_eq_some_iff.mp h).1
 have e:idx l.length k = some k:=by delta idx; rw [if_pos (by (first | lia | omega)),if_pos (by (first | lia | omega))]; rfl
 show ((some l).bind fun l=>(idx l.length k).bind fun j=>l[j]?) = _
 rw [Option.bind_some,e,Option.bind_some,h]
theorem mul_i {a b:Int} (σ:St) (ha:a.natAbs≤1000000) (hb:b.natAbs≤1000000):binE σ .mul (.int a) (.int b) = some (.int (a * b)):=by
 show (if _ then _ else _) = _
 rw [if_pos ⟨ha,hb⟩]
theorem mod_i {w:Int} (σ:St) (hw:0 < w) (x:Int):∃ v:Nat,(v:Int) < w∧(v:Int) = x % w∧binE σ .mod (.int x) (.int w) = some (.int (v:Int)) :=
 ⟨(x % w).toNat,by rw [Int.toNat_of_nonneg (Int.emod_nonneg x (by (first | lia | omega)))]; exact Int.emod_lt_of_pos x hw,Int.toNat_of_nonneg (Int.emod_nonneg x (by (first | lia | omega))),by
  show (if 0 < w then some (V.int (x % w)) else none) = _
  rw [if_pos hw,Int.toNat_of_nonneg (Int.emod_nonneg x (by (first | lia | omega)))]⟩
namespace P1
noncomputable abbrev sCells:Nat:=encL [99,101,108,108,115]
noncomputable abbrev sSpot:Nat:=encL [115,112,111,116]
noncomputable def tapeO (L:List V) (k:Nat):SObj:=.dict [(.str sCells,.list L),(.str sSpot,.int k)]
noncomputable def okL (L:List V):Prop:=L.length≤63∧∀ x∈L,∃ i,x = V.int i
noncomputable def fT (k n:Nat):Int:=(3 * (k:Int) * k + 8 * k + 5 * n + 2) % 73
theorem call_i {n f:Nat} {d:FDef} {args:List V} {σ:St} {K:V→St→Prop} (hn:1≤n) (hf:prog.fn f = some d) (hl:args.length = d.params) (h:kSs prog ⟨callK prog (n - 1)⟩ d.body (enter d args) σ (outK K)):callK prog n f args σ K:=by
 obtain ⟨n,rfl⟩:∃ m,n = m + 1:=⟨n - 1,(Nat.sub_add_cancel hn).symm⟩
 exact oK_i d hf (bK_i (decide_eq_true hl) h)
theorem up1 {d n:Nat} (h:d + 1≤n):1≤n:=Nat.le_trans (Nat.le_add_left 1 d) h
theorem dn1 {d n:Nat} (h:d + 1≤n):d≤n - 1:=Nat.le_sub_one_of_lt h
noncomputable def DrT (T:TabK) (L:List V):Prop:=∀ (k:Nat) (w:Int) (σ:St) (K:V→St→Prop),k≤300→0 < w→(∀ v:Nat,(v:Int) < w→(L.length≤k→(v:Int) = fT k L.length % w)→K (.int v) (tapeO L (k + 1) :: σ))→T.call 75 [.loc 0,.int w] (tapeO L k :: σ) K
theorem draw_x {T:TabK} {L:List V} {k:Nat} {w:Int} {σ:St} {K:V→St→Prop} (hL:okL L) (hk:k≤300) (hw:0 < w) (h:∀ v:Nat,(v:Int) < w→(L.length≤k→(v:Int) = fT k L.length % w)→K (.int v) (tapeO L (k + 1) :: σ)) :
  kSs prog T f_law_draw.body (enter f_law_draw [.loc 0,.int w]) (tapeO L k :: σ) (outK K):=by
 have l1:L.length≤1000000:=Nat.le_trans hL.1 (by decide)
 by_cases hlt:k < L.length
 ·obtain ⟨i,hi⟩:=hL.2 _ (List.getElem_mem hlt)
  obtain ⟨v,h1,h2,h3⟩:=mod_i (tapeO L (k + 1) :: σ) hw i
  conv=>whnf
  refine oK_i _ (len_L _ l1) ?_
  conv=>whnf
  refine iK_t (decide_eq_true (Int.ofNat_le.mpr hlt)) ?_
  conv=>whnf
  refine oK_i (.int i) (idx_i (hi ▸ List.getElem?_eq_getElem hlt) l1 _) ?_
  conv=>whnf
  exact oK_i _ h3 (h v h1 fun q=>absurd hlt (Nat.not_lt.mpr q))
 ·conv=>whnf
  refine oK_i _ (len_L _ l1) ?_
  conv=>whnf
  refine iK_f (decide_eq_false fun q=>hlt (Int.ofNat_le.mp q)) ?_
  have l2:=hL.1
  conv=>whnf
  refine oK_i _ (mul_i _ (by decide) (by (first | lia | omega))) ?_
  conv=>whnf
  refine oK_i _ (mul_i _ (by (first | lia | omega)) (by (first | lia | omega))) ?_
  conv=>whnf
  refine oK_i _ (mul_i _ (by decide) (by (first | lia | omega))) ?_
  conv=>whnf
  refine oK_i _ (len_L _ l1) ?_
  conv=>whnf
  refine oK_i _ (mul_i _ (by decide) (by (first | lia | omega))) ?_
  conv=>whnf
  obtain ⟨v,h1,h2,h3⟩:=mod_i (tapeO L (k + 1) :: σ) hw (fT k L.length)
  exact oK_i _ h3 (h v h1 fun _=>h2)
theorem dr_ok {n:Nat} {L:List V} (hL:okL L) (hn:1≤n):DrT ⟨callK prog n⟩ L:=fun k w σ K hk hw z=>call_i (d:=f_law_draw) hn rfl rfl (draw_x hL hk hw z)
end P1
end Mine.Internal
namespace Mine.Internal
theorem ap0 {l:List V} {p:List V→Prop} (h:p (l++[])):p l:=(List.append_nil l) ▸ h
theorem le1 {n m:Nat} (h:n + (m + 1)≤capL):decide (n≤capL) = true:=decide_eq_true (Nat.le_trans (Nat.le_add_right ..) h)
theorem pre_get {α:Type} {l k:List α} {n:Nat} {x:α} (p:l <+: k) (h:l[n]? = some x):k[n]? = some x:=p.elim fun t e=>by
 rw [← e,List.getElem?_append_left (List.getElem?_eq_some_iff.mp h).1]; exact h
theorem at_last {α:Type} {l:List α} {x:α}:(l++[x])[l.length]? = some x:=by rw [List.getElem?_append_right (Nat.le_refl _),Nat.sub_self]; rfl
section
variable {α:Type} {st:St→Bool} {bnd:V→Option REnv} {ifs:REnv→St→(Bool→St→Prop)→Prop} {body:List V→REnv→St→(List V→St→Prop)→Prop}
theorem loopA0 (g:α→V) (f:α→List V) (I:St→Prop) (c:Nat) (hst:∀ σ,I σ→st σ = true) (hc:∀ a,(f a).length≤c) (l:List α) :
  ∀ (ds:List V) (σ:St) (k:List V→St→Prop),(∀ a∈l,∃ ρ,bnd (g a) = some ρ∧∀ σ ds (kk:List V→St→Prop),I σ→ds.length + c≤capL→(∀ σ',I σ'→kk (ds++f a) σ')→ifs ρ σ fun t σ'=>iK t (body ds ρ σ' kk) (kk ds σ')) →
   I σ→ds.length + l.length * c≤capL→(∀ σ',I σ'→k (ds++l.flatMap f) σ')→kLoopC0 st bnd ifs body (l.map g) ds σ k:=by
 induction l with
 | nil=>exact fun ds σ k H i _ z=>bK_i (hst _ i) (ap0 (p:=fun l=>k l σ) (z σ i))
 | cons a l ih =>
  intro ds σ k H i b z
  obtain ⟨ρ,e,h⟩:=H a (List.mem_cons_self ..)
  have b2:ds.length + c + l.length * c≤capL:=by rw [List.length_cons,Nat.succ_mul,Nat.add_comm (l.length * c),← Nat.add_assoc] at b; exact b
  exact bK_i (hst _ i) (oK_i ρ e (h σ ds _ i (Nat.le_trans (Nat.le_add_right ..) b2) fun σ' i'=>ih (ds++f a) σ' k (fun w m=>H w (List.mem_cons_of_mem _ m)) i'
   (by rw [List.length_append]; exact Nat.le_trans (Nat.add_le_add_right (Nat.add_le_add_left (hc a) _) _) b2) fun σ'' i''=>List.append_assoc ds (f a) _ ▸ z σ'' i''))
theorem loopA (g:α→V) (f:α→List V) (I:St→Prop) (c:Nat) {l:List α} {ds:List V} {σ:St} {k:List V→St→Prop} (hb:ds.length + l.length * c≤capL) (i:I σ) (hst:∀ σ,I σ→st σ = true) (hc:∀ a,(f a).length≤c)
  (H:∀ a∈l,∃ ρ,bnd (g a) = some ρ∧∀ σ ds (kk:List V→St→Prop),I σ→ds.length + c≤capL→(∀ σ',I σ'→kk (ds++f a) σ')→ifs ρ σ fun t σ'=>iK t (body ds ρ σ' kk) (kk ds σ'))
  (z:∀ σ',I σ'→k (ds++l.flatMap f) σ'):kLoopC st bnd ifs body (l.map g) ds σ k:=by
 delta kLoopC
 exact loopA0 g f I c hst hc l ds σ k H i hb z
theorem sel_map {β:Type} {p:α→Bool} {h:α→β}:∀ l:List α,(l.flatMap fun a=>cond (p a) [h a] []) = (l.filter p).map h
 | []=>rfl
 | a :: l=>by
  rw [List.flatMap_cons,sel_map l]
  cases e:p a with
  | true=>rw [List.filter_cons_of_pos e]; rfl
  | false=>rw [List.filter_cons_of_neg (by rw [e]; exact Bool.false_ne_true)]; rfl
theorem one_map {h:α→V}:∀ l:List α,(l.flatMap fun a=>[h a]) = l.map h
 | []=>rfl
 | a :: l=>congrArg (h a :: ·) (one_map l)
theorem cond_len {p:Bool} {v:V}:(cond p [v] []).length≤1:=by cases p <;> first | exact Nat.le_refl 1 | exact Nat.zero_le 1
theorem loopSel (g h:α→V) (p:α→Bool) (I:St→Prop) {l:List α} {σ:St} {k:List V→St→Prop} (hb:l.length≤capL) (i:I σ) (hst:∀ σ,I σ→st σ = true)
  (H:∀ a∈l,∃ ρ,bnd (g a) = some ρ∧∀ σ ds (kk:List V→St→Prop),I σ→ds.length + 1≤capL→(∀ σ',I σ'→kk (ds++cond (p a) [h a] []) σ')→ifs ρ σ fun t σ'=>iK t (body ds ρ σ' kk) (kk ds σ'))
  (z:∀ σ',I σ'→k ((l.filter p).map h) σ'):kLoopC st bnd ifs body (l.map g) [] σ k :=
 loopA g (fun a=>cond (p a) [h a] []) I 1 (by rw [Nat.mul_one]; exact (Nat.zero_add l.length).symm ▸ hb) i hst (fun _=>cond_len) H fun σ' i'=>(sel_map (p:=p) (h:=h) l) ▸ z σ' i'
theorem loopMap (g h:α→V) (I:St→Prop) {l:List α} {σ:St} {k:List V→St→Prop} (hb:l.length≤capL) (i:I σ) (hst:∀ σ,I σ→st σ = true)
  (H:∀ a∈l,∃ ρ,bnd (g a) = some ρ∧∀ σ ds (kk:List V→St→Prop),I σ→ds.length + 1≤capL→(∀ σ',I σ'→kk (ds++[h a]) σ')→ifs ρ σ fun t σ'=>iK t (body ds ρ σ' kk) (kk ds σ'))
  (z:∀ σ',I σ'→k (l.map h) σ'):kLoopC st bnd ifs body (l.map g) [] σ k :=
 loopA g (fun a=>[h a]) I 1 (by rw [Nat.mul_one]; exact (Nat.zero_add l.length).symm ▸ hb) i hst (fun _=>Nat.le_refl 1) H fun σ' i'=>(one_map (h:=h) l) ▸ z σ' i'
theorem loopSelS (g h:α→V) (p:α→Bool) {l:List α} {σ:St} {k:List V→St→Prop} (hb:l.length≤capL) (hst:st σ = true)
  (H:∀ a∈l,∃ ρ,bnd (g a) = some ρ∧∀ ds (kk:List V→St→Prop),ds.length + 1≤capL→kk (ds++cond (p a) [h a] []) σ→ifs ρ σ fun t σ'=>iK t (body ds ρ σ' kk) (kk ds σ')) (z:k ((l.filter p).map h) σ):kLoopC st bnd ifs body (l.map g) [] σ k :=
 loopSel g h p (σ = ·) hb rfl (fun _ e=>e ▸ hst) (fun a m=>(H a m).imp fun ρ w=>⟨w.1,fun σ' ds kk e b zz=>by subst e; exact w.2 ds kk b (zz _ rfl)⟩) fun σ' e=>e ▸ z
theorem loopMapS (g h:α→V) {l:List α} {σ:St} {k:List V→St→Prop} (hb:l.length≤capL) (hst:st σ = true)
  (H:∀ a∈l,∃ ρ,bnd (g a) = some ρ∧∀ ds (kk:List V→St→Prop),ds.length + 1≤capL→kk (ds++[h a]) σ→ifs ρ σ fun t σ'=>iK t (body ds ρ σ' kk) (kk ds σ')) (z:k (l.map h) σ):kLoopC st bnd ifs body (l.map g) [] σ k :=
 loopMap g h (σ = ·) hb rfl (fun _ e=>e ▸ hst) (fun a m=>(H a m).imp fun ρ w=>⟨w.1,fun σ' ds kk e b zz=>by subst e; exact w.2 ds kk b (zz _ rfl)⟩) fun σ' e=>e ▸ z
end
theorem cond_i {b:Bool} {ds:List V} {v:V} {σ:St} {kk:List V→St→Prop} {n:Nat} (q:ds.length + (n + 1)≤capL) (z:kk (ds++cond b [v] []) σ):iK b (bK (decide (ds.length≤capL)) (kk (ds++[v]) σ)) (kk ds σ):=by
 cases b with
 | true=>exact bK_i (le1 q) z
 | false=>exact ap0 (p:=fun l=>kk l σ) z
theorem pyIn_i {k:V} {l:List V} (hk:eqOk 24 k = true) (hl:∀ y∈l,eqOk 24 y = true):pyIn k l = some (l.any fun y=>V.beq y k) :=
 if_pos (List.all_eq_true.mpr fun y hy=>by delta pyEq; rw [hl y hy,hk]; rfl)
theorem pyEq_i {a b:V} (h1:eqOk 24 a = true) (h2:eqOk 24 b = true):pyEq a b = some (V.beq a b):=by delta pyEq; rw [h1,h2]; rfl
noncomputable abbrev Env:=List (V × V)
theorem str_beqV {x:V} {b:Nat} (h:V.beq x (.str b) = true):x = .str b:=by
 cases x with
 | str a=>exact congrArg V.str (of_decide_eq_true h)
 | _=>cases h
theorem beq_str {a b:Nat}:V.beq (.str a) (.str b) = decide (a = b):=rfl
theorem dget_dset {a b:Nat} {v:V}:∀ {d:Env},dget (.str a) (dset (.str b) v d) = if a = b then some v else dget (.str a) d
 | []=>by
  show (if V.beq (.str b) (.str a) = true then some v else none) = _
  rw [beq_str]
  by_cases h:a = b
  ·rw [if_pos h,if_pos (decide_eq_true h.symm)]
  ·rw [if_neg h,if_neg (by rw [decide_eq_false (Ne.symm h)]; exact Bool.false_ne_true)]; rfl
 | (x,w) :: r=>by
  have ih:=dget_dset (a:=a) (b:=b) (v:=v) (d:=r)
  unfold dset
  by_cases hb:V.beq x (.str b) = true
  ·rw [if_pos hb,str_beqV hb]
   unfold dget
   rw [beq_str]
   by_cases h:a = b
   ·rw [if_pos h,if_pos (decide_eq_true h.symm)]
   ·rw [if_neg h,if_neg (by rw [decide_eq_false (Ne.symm h)]; exact Bool.false_ne_true),if_neg (by rw [decide_eq_false (Ne.symm h)]; exact Bool.false_ne_true)]
  ·rw [if_neg hb]
   unfold dget
   by_cases ha:V.beq x (.str a) = true
   ·rw [if_pos ha,if_pos ha]
    have e:=str_beqV ha
    rw [if_neg fun h=>hb (by rw [e,h]; exact decide_eq_true rfl)]
   ·rw [if_neg ha,if_neg ha]; exact ih
theorem addl_i {a b:List V} {σ:St} (h:(a++b).length≤capL):binE σ .add (.list a) (.list b) = some (.list (a++b)):=by
 show (okLen (a++b)).map V.list = _
 rw [okLen_i h]; rfl
mutual
theorem beq_rfl:∀ v:V,V.beq v v = true
 | .none=>rfl
 | .bool b=>by show (b == b) = true; exact BEq.rfl
 | .int i=>decide_eq_true rfl
 | .str s=>decide_eq_true rfl
 | .tup l=>beqs_rfl' l
 | .list l=>beqs_rfl' l
 | .dict l=>beqp_rfl l
 | .loc n=>decide_eq_true rfl
theorem beqs_rfl':∀ l:List V,beqs l l = true
 | []=>rfl
 | v :: l=>by show (V.beq v v && beqs l l) = true; rw [beq_rfl v,beqs_rfl' l]; rfl
theorem beqp_rfl:∀ l:List (V × V),beqp l l = true
 | []=>rfl
 | (a,b) :: l=>by show (V.beq a a && (V.beq b b && beqp l l)) = true; rw [beq_rfl a,beq_rfl b,beqp_rfl l]; rfl
end
theorem still_i {n:Nat} {l:List V} {σ:St} (h:σ[n]? = some (.list l)):stillB (some n) l σ = true:=by
 show stO l σ[n]? = true
 rw [h]; exact beqs_rfl' l
theorem pre_set {σ0 σ:St} {j:Nat} {o:SObj} (p:σ0 <+: σ) (h:σ0.length≤j):σ0 <+: σ.set j o:=by
 obtain ⟨t,rfl⟩:=p
 rw [List.set_append_right _ _ h]
 exact List.prefix_append ..
theorem fl_len {α β:Type} {f:α→List β} {c:Nat}:∀ {l:List α},(∀ a∈l,(f a).length≤c)→(l.flatMap f).length≤l.length * c
 | [],_=>Nat.zero_le _
 | a :: l,h=>by rw [List.flatMap_cons,List.length_append,List.length_cons,Nat.succ_mul,Nat.add_comm]; exact Nat.add_le_add (fl_len fun b m=>h b (List.mem_cons_of_mem _ m)) (h a (List.mem_cons_self ..))
noncomputable def FA (σ:St) (v:V) (l:List V):Prop:=v = .list l ∨ ∃ i,v = .loc i∧σ[i]? = some (.list l)
section
variable {σ σ':St} {v:V} {l acc news:List V} {j:Nat}
theorem FA.pre (h:FA σ v l) (p:σ <+: σ'):FA σ' v l:=h.imp id fun ⟨i,e,h⟩=>⟨i,e,pre_get p h⟩
theorem FA.src (h:FA σ v l):asList σ v = some l:=by
 rcases h with rfl | ⟨i,rfl,h⟩
 ·rfl
 ·show locL σ[i]? = _
  rw [h]; rfl
theorem FA.still (h:FA σ v l):stillB (locOf v) l σ = true:=by
 rcases h with rfl | ⟨i,rfl,h⟩
 ·rfl
 ·exact still_i h
theorem ext_i (h:σ[j]? = some (.list acc)) (hl:(acc++news).length≤capL):mthE .ext (.loc j) (.list news) σ = some (σ.set j (.list (acc++news))):=by
 show mthO σ (.list news) j .ext σ[j]? = _
 rw [h]
 show (okLen (acc++news)).map (fun l=>σ.set j (.list l)) = _
 rw [okLen_i hl]; rfl
theorem app_i (h:σ[j]? = some (.list acc)) (hl:(acc++[v]).length≤capL):mthE .app (.loc j) v σ = some (σ.set j (.list (acc++[v]))):=by
 show mthO σ v j .app σ[j]? = _
 rw [h]
 show (okLen (acc++[v])).map (fun l=>σ.set j (.list l)) = _
 rw [okLen_i hl]; rfl
theorem set_get {o:SObj} (h:j < σ.length):(σ.set j o)[j]? = some o:=List.getElem?_set_self h
theorem get_lt {o:SObj} (h:σ[j]? = some o):j < σ.length:=(List.getElem?_eq_some_iff.mp h).1
theorem addt_i {a b:List V} (h:(a++b).length≤capL):binE σ .add (.tup a) (.tup b) = some (.tup (a++b)):=by
 show (okLen (a++b)).map V.tup = _
 rw [okLen_i h]; rfl
end
end Mine.Internal
namespace Mine.Internal
noncomputable abbrev Row:=List Int
noncomputable abbrev rowsV (R:List Row):List V:=R.map rowV
noncomputable def rowsW (n:Nat):List Row:=rowsI.filter fun r=>r.length == n
noncomputable def hasR (R:List Row) (r:Row):Bool:=R.any fun x=>decide (x = r)
noncomputable def restL (a:Row) (R:List Row):List Row:=(R.filter fun r=>decide (r.take a.length = a)).map fun r=>r.drop a.length
noncomputable def restR (b:Row) (R:List Row):List Row:=(R.filter fun r=>decide (r.drop (r.length - b.length) = b)).map fun r=>r.take (r.length - b.length)
noncomputable def prodR (A B:List Row):List Row:=A.flatMap fun a=>B.map fun b=>a++b
noncomputable def subR (A B:List Row):Bool:=(A.filter fun r=>!hasR B r).isEmpty
theorem rw_len {n:Nat} {r:Row} (h:r∈rowsW n):r.length = n:=eq_of_beq (List.mem_filter.mp h).2
theorem rw_I {n:Nat} {r:Row} (h:r∈rowsW n):r∈rowsI:=(List.mem_filter.mp h).1
theorem rw_sub (n:Nat):(rowsW n).Sublist rowsI:=List.filter_sublist
theorem rowsI_nd:rowsI.Nodup:=by decide +kernel
theorem rowsW_nd (n:Nat):(rowsW n).Nodup:=(rw_sub n).nodup rowsI_nd
theorem rowsW_cap (n:Nat):(rowsW n).length≤84:=Nat.le_trans (rw_sub n).length_le (by decide +kernel)
theorem rowsW1:rowsW 1 = [[0],[1],[2],[3]]:=by decide +kernel
theorem rowsW2_cap:(rowsW 2).length≤16:=by decide +kernel
theorem rowsW3_cap:(rowsW 3).length≤64:=by decide +kernel
theorem nf_cap {R:List Row} {n:Nat} (h:R.Sublist (rowsW n)):R.length≤84:=Nat.le_trans h.length_le (rowsW_cap n)
theorem beqs_intz:∀ a b:Row,beqs (a.map V.int) (b.map V.int) = decide (a = b)
 | [],[]=>rfl
 | [],_ :: _=>rfl
 | _ :: _,[]=>rfl
 | x :: a,y :: b=>by
  show (decide (x = y) && beqs (a.map V.int) (b.map V.int)) = _
  rw [beqs_intz a b,Bool.eq_iff_iff,Bool.and_eq_true,decide_eq_true_iff,decide_eq_true_iff,decide_eq_true_iff,List.cons.injEq]
theorem beq_rowz (a b:Row):V.beq (rowV a) (rowV b) = decide (a = b):=beqs_intz a b
theorem any_rows {r:Row}:∀ R:List Row,((rowsV R).any fun y=>V.beq y (rowV r)) = hasR R r
 | []=>rfl
 | x :: R=>congr (congrArg or (beq_rowz x r)) (any_rows R)
theorem row_eq23 (r:Row):eqOk 23 (rowV r) = true:=List.all_eq_true.mpr fun y m=>(List.mem_map.mp m).elim fun a q=>q.2 ▸ rfl
theorem row_eq (r:Row):eqOk 24 (rowV r) = true:=List.all_eq_true.mpr fun y m=>(List.mem_map.mp m).elim fun a q=>q.2 ▸ rfl
theorem in_rows {r:Row} (R:List Row):pyIn (rowV r) (rowsV R) = some (hasR R r):=(pyIn_i (row_eq r) fun y m=>(List.mem_map.mp m).elim fun a q=>q.2 ▸ row_eq a).trans (congrArg some (any_rows R))
theorem nin_rows {r:Row} (R:List Row):(pyIn (rowV r) (rowsV R)).map (!·) = some (!hasR R r):=by rw [in_rows]; rfl
theorem eq_row (a b:Row):pyEq (rowV a) (rowV b) = some (decide (a = b)):=(pyEq_i (row_eq a) (row_eq b)).trans (congrArg some (beq_rowz a b))
theorem hasR_iff {R:List Row} {r:Row}:hasR R r = true ↔ r∈R:=by
 delta hasR
 rw [List.any_eq_true]
 exact ⟨fun ⟨x,m,e⟩=>of_decide_eq_true e ▸ m,fun m=>⟨r,m,decide_eq_true rfl⟩⟩
theorem rowOk_m {r:Row} (h:r∈rowsI):rowOk (rowV r) = true:=List.any_eq_true.mpr ⟨r,h,(beq_rowz r r).trans (decide_eq_true rfl)⟩
theorem rowOj_m {r:Row} {n:Nat} (hn:n∈[1,2]) (h:r∈rowsW n):rowOj (rowV r) = true:=by
 have w:∀ n∈[1,2],∀ r∈rowsW n,r∈rowsJ:=by decide +kernel
 exact List.any_eq_true.mpr ⟨r,w n hn r h,(beq_rowz r r).trans (decide_eq_true rfl)⟩
theorem sub_flt {α:Type} {p:α→Bool} {l L:List α} (h:l.Sublist L):L.Nodup→(∀ x∈L,p x = true ↔ x∈l)→L.filter p = l:=by
 induction h with
 | slnil=>exact fun _ _=>rfl
 | @cons l L a h ih =>
  intro nd hp
  have nd:=List.nodup_cons.mp nd
  rw [List.filter_cons_of_neg fun e=>nd.1 (h.subset ((hp a (List.mem_cons_self ..)).mp e))]
  exact ih nd.2 fun x m=>hp x (List.mem_cons_of_mem _ m)
 | @cons_cons l L a h ih =>
  intro nd hp
  have nd:=List.nodup_cons.mp nd
  rw [List.filter_cons_of_pos ((hp a (List.mem_cons_self ..)).mpr (List.mem_cons_self ..))]
  refine congrArg (a :: ·) (ih nd.2 fun x m=>(hp x (List.mem_cons_of_mem _ m)).trans ⟨fun q=>(List.mem_cons.mp q).elim (fun e=>absurd (e ▸ m) nd.1) id,List.mem_cons_of_mem _⟩)
theorem sort_eq (R:List Row):sortB (rowsV R) = rowsV (rowsI.filter (hasR R)):=by
 show List.filter _ (rowsI.map rowV) = _
 rw [List.filter_map]
 refine congrArg (List.map rowV) (congrArg (List.filter · rowsI) (funext fun r=>any_rows R))
theorem sort_nf {R:List Row} {n:Nat} (h:R.Sublist (rowsW n)):sortB (rowsV R) = rowsV R:=by
 rw [sort_eq,sub_flt (h.trans (rw_sub n)) rowsI_nd fun x _=>hasR_iff]
theorem sort_w {R:List Row} {n:Nat} (h:∀ r∈R,r∈rowsW n):(rowsI.filter (hasR R)).Sublist (rowsW n):=by
 have e:rowsI.filter (hasR R) = (rowsW n).filter (hasR R):=by
  delta rowsW
  rw [List.filter_filter]
  refine List.filter_congr fun r m=>?_
  cases q:hasR R r with
  | false=>rfl
  | true=>rw [(List.mem_filter.mp (h r (hasR_iff.mp q))).2]; rfl
 rw [e]; exact List.filter_sublist
noncomputable def kns:List (Nat × Nat):=[(1,2),(1,3),(2,3)]
theorem restL_all:∀ p∈kns,∀ a∈rowsW p.1,restL a (rowsW p.2) = rowsW (p.2 - p.1):=by decide +kernel
theorem restR_all:∀ p∈kns,∀ a∈rowsW p.1,restR a (rowsW p.2) = rowsW (p.2 - p.1):=by decide +kernel
theorem prod_all:∀ p∈[(1,1),(1,2),(2,1)],prodR (rowsW p.1) (rowsW p.2) = rowsW (p.1 + p.2):=by decide +kernel
theorem restL_nf {R:List Row} {k n:Nat} {a:Row} (h:R.Sublist (rowsW n)) (hk:(k,n)∈kns) (ha:a∈rowsW k):(restL a R).Sublist (rowsW (n - k)) :=
 restL_all (k,n) hk a ha ▸ (h.filter _).map _
theorem restR_nf {R:List Row} {k n:Nat} {a:Row} (h:R.Sublist (rowsW n)) (hk:(k,n)∈kns) (ha:a∈rowsW k):(restR a R).Sublist (rowsW (n - k)) :=
 restR_all (k,n) hk a ha ▸ (h.filter _).map _
theorem fm_sub {α β:Type} {f g:α→List β} {l L:List α} (h:l.Sublist L) (hf:∀ a,(f a).Sublist (g a)):(l.flatMap f).Sublist (L.flatMap g):=by
 induction h with
 | slnil=>exact List.Sublist.refl _
 | cons a h ih=>rw [List.flatMap_cons]; exact ih.trans (List.sublist_append_right ..)
 | cons_cons a h ih=>rw [List.flatMap_cons,List.flatMap_cons]; exact (hf a).append ih
theorem prod_nf {A B:List Row} {i j:Nat} (hA:A.Sublist (rowsW i)) (hB:B.Sublist (rowsW j)) (h:(i,j)∈[(1,1),(1,2),(2,1)]):(prodR A B).Sublist (rowsW (i + j)) :=
 prod_all (i,j) h ▸ fm_sub hA fun a=>hB.map _
theorem flt_map_eq {R:List Row} {p q:Row→Bool} {f g:Row→Row} (h:∀ r∈R,p r = q r∧f r = g r):(R.filter p).map f = (R.filter q).map g:=by
 rw [List.filter_congr fun r m=>(h r m).1]
 exact List.map_congr_left fun r m=>(h r (List.mem_filter.mp m).1).2
theorem of3 {r:Row} (h:r.length = 3):∃ a b c,r = [a,b,c]:=match r,h with
 | [a,b,c],_=>⟨a,b,c,rfl⟩
theorem of2 {r:Row} (h:r.length = 2):∃ a b,r = [a,b]:=match r,h with
 | [a,b],_=>⟨a,b,rfl⟩
theorem of1 {r:Row} (h:r.length = 1):∃ a,r = [a]:=match r,h with
 | [a],_=>⟨a,rfl⟩
theorem dec_and {p q r:Prop} [Decidable p] [Decidable q] [Decidable r] (h:(p∧q) ↔ r):(decide p && decide q) = decide r:=by
 rw [Bool.eq_iff_iff,Bool.and_eq_true,decide_eq_true_iff,decide_eq_true_iff,decide_eq_true_iff]; exact h
theorem restL_2 {x y:Int} {R:List Row} (h:∀ r∈R,r.length = 3):restL [y] (restL [x] R) = restL [x,y] R:=by
 delta restL
 rw [List.filter_map,List.filter_filter,List.map_map]
 refine flt_map_eq fun r m=>?_
 obtain ⟨a,b,c,rfl⟩:=of3 (h r m)
 refine ⟨dec_and ?_,rfl⟩
 show ([b] = [y]∧[a] = [x]) ↔ [a,b] = [x,y]
 rw [List.cons.injEq,List.cons.injEq,List.cons.injEq,List.cons.injEq]
 exact ⟨fun ⟨p,q⟩=>⟨q.1,p.1,rfl⟩,fun p=>⟨⟨p.2.1,rfl⟩,p.1,rfl⟩⟩
theorem restR_2 {x y:Int} {R:List Row} (h:∀ r∈R,r.length = 3):restR [x] (restR [y] R) = restR [x,y] R:=by
 delta restR
 rw [List.filter_map,List.filter_filter,List.map_map]
 refine flt_map_eq fun r m=>?_
 obtain ⟨a,b,c,rfl⟩:=of3 (h r m)
 refine ⟨dec_and ?_,rfl⟩
 show ([b] = [x]∧[c] = [y]) ↔ [b,c] = [x,y]
 rw [List.cons.injEq,List.cons.injEq,List.cons.injEq,List.cons.injEq]
 exact ⟨fun ⟨p,q⟩=>⟨p.1,q.1,rfl⟩,fun p=>⟨⟨p.1,rfl⟩,p.2.1,rfl⟩⟩
end Mine.Internal
namespace Mine.Internal
namespace P1
noncomputable abbrev cSet:Nat:=510173609197685
noncomputable abbrev cOne:Nat:=492581442027622
noncomputable abbrev cLone:Nat:=1005348044598612590694
noncomputable abbrev cSome:Nat:=1069911648856593924198
noncomputable abbrev relV (i:Int):V:=.tup [.str 505775562686573,.int i]
noncomputable abbrev varV (l:Nat):V:=.tup [.str 523367740342387,.str l]
noncomputable abbrev univV:V:=.tup [.str 1088358388532248576119]
noncomputable abbrev unionV (a b:V):V:=.tup [.str 2282452971227182165890433135,a,b]
noncomputable abbrev prodV (a b:V):V:=.tup [.str 9612981530472886828724840677988351606901,a,b]
noncomputable abbrev joinV (a b:V):V:=.tup [.str 986901300524892553327,a,b]
noncomputable abbrev r1 (l:List Int):List Row:=l.map fun x=>[x]
noncomputable abbrev tupI (l:List Int):V:=.tup (l.map V.int)
structure Ws where
 a:List Int
 b:List Int
 c:List Int
 oa:(r1 a).Sublist (rowsW 1)
 ob:(r1 b).Sublist (rowsW 1)
 oc:(r1 c).Sublist (rowsW 1)
noncomputable def setsL (W:Ws) (v:V):List V:=[tupI W.a,tupI W.b,tupI W.c,tupI W.c,v]
noncomputable def Ws.s (W:Ws) (k:Nat):List Int:=match k with
 | 0=>W.a
 | 1=>W.b
 | _=>W.c
theorem Ws.os (W:Ws) (k:Nat):(r1 (W.s k)).Sublist (rowsW 1):=match k with
 | 0=>W.oa
 | 1=>W.ob
 | _ + 2=>W.oc
noncomputable def St1 (W:Ws) (v:V) (σ:St):Prop:=σ[1]? = some (.list (setsL W v))
noncomputable def jl (a:Row):Int:=a.getLastD 0
noncomputable def jh (b:Row):Int:=b.headD 0
noncomputable def jR (A B:List Row):List Row:=A.flatMap fun a=>(B.filter fun b=>decide (jl a = jh b)).map fun b=>a.dropLast++b.tail
section
variable {W:Ws} {σ σ':St} {d n k m:Nat} {T:TabK} {v r r' ev:V} {D:Env} {A B:List Row} {K:V→St→Prop} {a b:Row}
theorem St1.pre (h:St1 W v σ) (p:σ <+: σ'):St1 W v σ':=pre_get p h
theorem St1.it (h:St1 W v σ) {x:V} (hk:k≤4) (e:(setsL W v)[k]? = some x):itemE σ (.loc 1) (.int k) = some x:=by
 show (locL σ[1]?).bind (fun l=>(idx l.length k).bind fun j=>l[j]?) = _
 rw [show σ[1]? = _ from h]
 exact idx_i (σ:=σ) e (show 5≤1000000 by decide)
noncomputable def RwT (T:TabK) (W:Ws) (v e:V) (D:Env) (R:List Row):Prop:=∀ (σ:St) (ev:V) (K:V→St→Prop),St1 W v σ→asDict σ ev = some D→K (.list (rowsV R)) σ→T.call 83 [e,.loc 1,ev] σ K
noncomputable def RwB (T:TabK) (W:Ws) (v e:V) (D:Env) (R:List Row):Prop:=∀ (σ:St) (ev:V) (K:V→St→Prop),St1 W v σ→asDict σ ev = some D→K (.list (rowsV R)) σ→kSs prog T f_law_read.body (enter f_law_read [e,.loc 1,ev]) σ (outK K)
noncomputable def Rw (d:Nat) (W:Ws) (v e:V) (D:Env) (R:List Row):Prop:=∀ n,d≤n→RwT ⟨callK prog n⟩ W v e D R
theorem Rw.of (h:∀ n,d≤n→RwB ⟨callK prog n⟩ W v r D A):Rw (d + 1) W v r D A:=fun n hn σ ev K w e z=>call_i (d:=f_law_read) (up1 hn) rfl rfl (h (n - 1) (dn1 hn) σ ev K w e z)
theorem Rw.up {d':Nat} (h:Rw d W v r D A) (e:d≤d'):Rw d' W v r D A:=fun n hn=>h n (Nat.le_trans e hn)
theorem r1_cap {l:List Int} (h:(r1 l).Sublist (rowsW 1)):l.length≤capL:=by
 have w:=nf_cap h
 rw [List.length_map] at w
 exact Nat.le_trans w (by decide)
theorem rv_map {β:Type} (f:β→Row) (l:List β):(l.map fun b=>rowV (f b)) = rowsV (l.map f):=by
 show _ = List.map rowV (List.map f l)
 rw [List.map_map]; rfl
theorem rv_app (A B:List Row):rowsV (A++B) = rowsV A++rowsV B:=List.map_append
theorem rw_rel (hk:k∈[0,1,2,3]):Rw (d + 1) W v (relV k) D (r1 (W.s k)):=Rw.of fun n _ σ ev K w e z=>by
 generalize TabK.mk (callK prog n) = T
 rw [← rv_map] at z
 simp only [List.mem_cons,List.not_mem_nil,or_false] at hk
 have hl:=r1_cap (W.os k)
 rcases hk with rfl | rfl | rfl | rfl
 all_goals
  conv=>whnf
  refine oK_i _ (w.it (by decide) rfl) ?_
  conv=>whnf
  exact loopMapS (α:=Int) V.int (fun x=>rowV [x]) hl rfl (fun i _=>⟨_,rfl,fun ds kk b zz=>bK_i (le1 b) zz⟩) z
theorem rw_val (h:v = .list (rowsV A)):Rw (d + 1) W v (relV 4) D A:=Rw.of fun n _ σ ev K w e z=>by
 generalize TabK.mk (callK prog n) = T
 conv=>whnf
 refine oK_i _ (w.it (k:=4) (by decide) rfl) ?_
 rw [h]; exact z
theorem it_dict (e:asDict σ ev = some D) (h:dget (.str k) D = some v):itemE σ ev (.str k) = some v:=by
 show (asDict σ ev).bind (fun d=>dget (.str k) d) = _
 rw [e]; exact h
theorem rw_var (h:dget (.str k) D = some (rowV a)):Rw (d + 1) W v (varV k) D [a]:=Rw.of fun n _ σ ev K w e z=>by
 generalize TabK.mk (callK prog n) = T
 conv=>whnf
 exact oK_i _ (it_dict e h) z
theorem rw_univ:Rw (d + 1) W v univV D (rowsW 1):=Rw.of fun n _ σ ev K w e z=>by
 generalize TabK.mk (callK prog n) = T
 rw [rowsW1] at z
 exact z
theorem sset_i {R:List Row} (hm:m∈[1,2]) (h:∀ r∈R,r∈rowsW m) (n:R.length≤capL):biE σ .sortedSet [.list (rowsV R)] = some (.list (rowsV (rowsI.filter (hasR R)))):=by
 have e:(rowsV R).all rowOj = true∧(rowsV R).length≤capL:=⟨List.all_eq_true.mpr fun y q=>(List.mem_map.mp q).elim fun a q=>q.2 ▸ rowOj_m hm (h a q.1),by rw [List.length_map]; exact n⟩
 show (if _ then some (V.list (sortB (rowsV R))) else none) = _
 rw [if_pos e,sort_eq]
theorem add_rows (h:(A++B).length≤capL):binE σ .add (.list (rowsV A)) (.list (rowsV B)) = some (.list (rowsV (A++B))):=by
 have e:=addl_i (a:=rowsV A) (b:=rowsV B) (σ:=σ) (by rw [← rv_app,List.length_map]; exact h)
 rw [e,← rv_app]
theorem rw_union (h1:Rw d W v r D A) (h2:Rw d W v r' D B) (hA:A.Sublist (rowsW 1)) (hB:B.Sublist (rowsW 1)):Rw (d + 1) W v (unionV r r') D (rowsI.filter (hasR (A++B))):=Rw.of fun n hn σ ev K w e z=>by
 have h1:=h1 n hn
 have h2:=h2 n hn
 generalize TabK.mk (callK prog n) = T at h1 h2 ⊢
 have lc:(A++B).length≤capL:=by rw [List.length_append]; exact Nat.le_trans (Nat.add_le_add (nf_cap hA) (nf_cap hB)) (by decide)
 conv=>whnf
 refine h1 σ ev _ w e ?_
 conv=>whnf
 refine h2 σ ev _ w e ?_
 conv=>whnf
 refine oK_i _ (add_rows lc) ?_
 conv=>whnf
 exact oK_i _ (sset_i (m:=1) (by decide) (fun r m=>(List.mem_append.mp m).elim (fun m=>hA.subset m) fun m=>hB.subset m) lc) z
theorem addr_i (h:(a++b).length≤capL):binE σ .add (rowV a) (rowV b) = some (rowV (a++b)):=by
 show (okLen (a.map V.int++b.map V.int)).map V.tup = _
 rw [okLen_i (by rw [← List.map_append,List.length_map]; exact h),← List.map_append]; rfl
theorem wI (h:a∈rowsI):1≤a.length∧a.length≤3:=by
 have w:∀ a∈rowsI,1≤a.length∧a.length≤3:=by decide +kernel
 exact w a h
theorem ab_cap (ha:a.length≤3) (hb:b.length≤3):(a++b).length≤capL:=by rw [List.length_append]; exact Nat.le_trans (Nat.add_le_add ha hb) (by decide)
theorem fm_rows {β:Type} {f:β→List Row}:∀ l:List β,(l.flatMap fun a=>rowsV (f a)) = rowsV (l.flatMap f)
 | []=>rfl
 | a :: l=>by rw [List.flatMap_cons,fm_rows l,List.flatMap_cons,rv_app]
theorem rw_prod {i j:Nat} (h1:Rw d W v r D A) (h2:Rw d W v r' D B) (hA:A.Sublist (rowsW i)) (hB:B.Sublist (rowsW j)):Rw (d + 1) W v (prodV r r') D (prodR A B):=Rw.of fun n hn σ ev K w e z=>by
 have h1:=h1 n hn
 have h2:=h2 n hn
 generalize TabK.mk (callK prog n) = T at h1 h2 ⊢
 conv=>whnf
 refine h1 σ ev _ w e ?_
 conv=>whnf
 refine h2 σ ev _ w e ?_
 conv=>whnf
 refine loopA (α:=Row) rowV (fun a=>rowsV (B.map fun b=>a++b)) (σ = ·) 84 (by rw [List.length_nil,Nat.zero_add]; exact Nat.le_trans (Nat.mul_le_mul_right 84 (nf_cap hA)) (by decide)) rfl (fun _ _=>rfl) (fun a=>by rw [List.length_map,List.length_map]; exact nf_cap hB) (fun a ha=>⟨_,rfl,fun σ3 ds kk i q zz=>?_⟩) fun σ' i=>?_
 ·subst i
  conv=>whnf
  refine loopA (α:=Row) rowV (fun b=>[rowV (a++b)]) (σ = ·) 1 (by rw [Nat.mul_one]; exact Nat.le_trans (Nat.add_le_add_left (nf_cap hB) _) q) rfl (fun _ _=>rfl) (fun _=>Nat.le_refl 1) (fun b hb=>⟨_,rfl,fun σ4 ds2 kk2 i q2 zz2=>?_⟩) fun σ' i=>?_
  ·subst i
   conv=>whnf
   refine oK_i _ (addr_i (ab_cap (wI (rw_I (hA.subset ha))).2 (wI (rw_I (hB.subset hb))).2)) ?_
   exact bK_i (le1 q2) (zz2 _ rfl)
  ·subst i
   rw [one_map,rv_map]
   exact zz _ rfl
 ·subst i
  rw [fm_rows,List.nil_append]
  exact z
theorem last_i:1≤a.length∧a.length≤3→itemE σ (rowV a) (.int (-1)) = some (.int (jl a)):=match a with
 | []=>fun h=>absurd h.1 (by decide)
 | [_]=>fun _=>rfl
 | [_,_]=>fun _=>rfl
 | [_,_,_]=>fun _=>rfl
 | _ :: _ :: _ :: _ :: _=>fun h=>absurd h.2 (by simp only [List.length_cons]; (first | lia | omega))
theorem head_i:1≤a.length∧a.length≤3→itemE σ (rowV a) (.int 0) = some (.int (jh a)):=match a with
 | []=>fun h=>absurd h.1 (by decide)
 | [_]=>fun _=>rfl
 | [_,_]=>fun _=>rfl
 | [_,_,_]=>fun _=>rfl
 | _ :: _ :: _ :: _ :: _=>fun h=>absurd h.2 (by simp only [List.length_cons]; (first | lia | omega))
theorem cutl_i:1≤a.length∧a.length≤3→sliceE (rowV a) .none (.int (-1)) = some (rowV a.dropLast):=match a with
 | []=>fun h=>absurd h.1 (by decide)
 | [_]=>fun _=>rfl
 | [_,_]=>fun _=>rfl
 | [_,_,_]=>fun _=>rfl
 | _ :: _ :: _ :: _ :: _=>fun h=>absurd h.2 (by simp only [List.length_cons]; (first | lia | omega))
theorem cutr_i:1≤a.length∧a.length≤3→sliceE (rowV a) (.int 1) .none = some (rowV a.tail):=match a with
 | []=>fun h=>absurd h.1 (by decide)
 | [_]=>fun _=>rfl
 | [_,_]=>fun _=>rfl
 | [_,_,_]=>fun _=>rfl
 | _ :: _ :: _ :: _ :: _=>fun h=>absurd h.2 (by simp only [List.length_cons]; (first | lia | omega))
theorem jr_len (ha:a.length≤3) (hb:b.length≤3):(a.dropLast++b.tail).length≤capL:=by
 rw [List.length_append,List.length_dropLast,List.length_tail]
 exact Nat.le_trans (Nat.add_le_add (Nat.le_trans (Nat.sub_le ..) ha) (Nat.le_trans (Nat.sub_le ..) hb)) (by decide)
theorem rw_join (h1:Rw d W v r D A) (h2:Rw d W v r' D B) (hA:∀ a∈A,a∈rowsI) (hB:∀ b∈B,b∈rowsI) (lA:A.length≤84) (lB:B.length≤84) (hm:m∈[1,2]) (hj:∀ r∈jR A B,r∈rowsW m) :
  Rw (d + 1) W v (joinV r r') D (rowsI.filter (hasR (jR A B))):=Rw.of fun n hn σ ev K w e z=>by
 have h1:=h1 n hn
 have h2:=h2 n hn
 generalize TabK.mk (callK prog n) = T at h1 h2 ⊢
 have l1:∀ a:Row,((B.filter fun b=>decide (jl a = jh b)).map fun b=>a.dropLast++b.tail).length≤84:=fun a=>by rw [List.length_map]; exact Nat.le_trans (List.length_filter_le ..) lB
 conv=>whnf
 refine h1 σ ev _ w e ?_
 conv=>whnf
 refine h2 σ ev _ w e ?_
 conv=>whnf
 refine loopA (α:=Row) rowV (fun a=>rowsV ((B.filter fun b=>decide (jl a = jh b)).map fun b=>a.dropLast++b.tail)) (σ = ·) 84 (by rw [List.length_nil,Nat.zero_add]; exact Nat.le_trans (Nat.mul_le_mul_right 84 lA) (by decide)) rfl (fun _ _=>rfl) (fun a=>by rw [List.length_map]; exact l1 a) (fun a ha=>⟨_,rfl,fun σ3 ds kk i q zz=>?_⟩) fun σ' i=>?_
 ·subst i
  have wa:=wI (hA a ha)
  conv=>whnf
  refine loopA (α:=Row) rowV (fun b=>cond (decide (jl a = jh b)) [rowV (a.dropLast++b.tail)] []) (σ = ·) 1 (by rw [Nat.mul_one]; exact Nat.le_trans (Nat.add_le_add_left lB _) q) rfl (fun _ _=>rfl) (fun _=>cond_len) (fun b hb=>⟨_,rfl,fun σ4 ds2 kk2 i q2 zz2=>?_⟩) fun σ' i=>?_
  ·subst i
   have wb:=wI (hB b hb)
   have zz2:=zz2 _ rfl
   conv=>whnf
   refine oK_i _ (last_i wa) ?_
   conv=>whnf
   refine oK_i _ (head_i wb) ?_
   conv=>whnf
   cases q:decide (jl a = jh b) with
   | false =>
    rw [q] at zz2
    exact iK_f q (ap0 (p:=fun l=>kk2 l σ) zz2)
   | true =>
    rw [q] at zz2
    refine iK_t q ?_
    conv=>whnf
    refine oK_i _ (cutl_i wa) ?_
    conv=>whnf
    refine oK_i _ (cutr_i wb) ?_
    conv=>whnf
    refine oK_i _ (addr_i (jr_len wa.2 wb.2)) ?_
    exact bK_i (le1 q2) zz2
  ·subst i
   rw [sel_map (p:=fun b=>decide (jl a = jh b)) (h:=fun b=>rowV (a.dropLast++b.tail)),rv_map]
   exact zz _ rfl
 ·subst i
  rw [fm_rows,List.nil_append]
  conv=>whnf
  exact oK_i _ (sset_i hm hj (Nat.le_trans (fl_len fun a _=>l1 a) (Nat.le_trans (Nat.mul_le_mul_right 84 lA) (by decide)))) z
end
end P1
end Mine.Internal
namespace Mine.Internal
theorem norm_nf {R:List Row} {n:Nat} (h:R.Sublist (rowsW n)):rowsI.filter (hasR R) = R:=sub_flt (h.trans (rw_sub n)) rowsI_nd fun x _=>hasR_iff
theorem emp_all {α β:Type} {p:α→Bool} {f:α→β}:∀ l:List α,((l.filter fun a=>!p a).map f).isEmpty = l.all p
 | []=>rfl
 | a :: l=>by
  rw [List.all_cons]
  cases e:p a with
  | true=>rw [List.filter_cons_of_neg (by rw [e]; exact Bool.false_ne_true)]; exact emp_all l
  | false=>rw [List.filter_cons_of_pos (by rw [e]; rfl)]; rfl
theorem subR_eq {A B:List Row}:(rowsV (A.filter fun r=>!hasR B r)).isEmpty = subR A B:=by
 delta subR rowsV
 cases A.filter fun r=>!hasR B r <;> rfl
namespace P1
noncomputable abbrev andV (l:List V):V:=.tup [.str 431008790872165,.tup l]
noncomputable abbrev impV (f g:V):V:=.tup [.str 9017487185537167824034131633095323943028,f,g]
noncomputable abbrev inV (a b:V):V:=.tup [.str 222298223,a,b]
noncomputable abbrev allV (t f:V):V:=.tup [.str 431008786677869,t,f]
noncomputable def mks:List Nat:=[0,cSet,cOne,cLone,cSome]
noncomputable def fitB (m n:Nat):Bool:=if m = cOne then decide ((n:Int) = 1) else if m = cLone then decide ((n:Int) < 2) else if m = cSome then decide ((0:Int) < n) else true
section
variable {W:Ws} {σ σ':St} {d n k m c:Nat} {T:TabK} {v r r' ev f g:V} {D:Env} {A B R:List Row} {K:V→St→Prop} {a:Row} {b b':Bool} {x:Int}
theorem dict_pre (h:asDict σ ev = some D) (p:σ <+: σ'):asDict σ' ev = some D:=by
 cases ev with
 | dict l=>exact h
 | loc n =>
  have h:locD σ[n]? = some D:=h
  show locD σ'[n]? = some D
  cases e:σ[n]? with
  | none=>rw [e] at h; cases h
  | some o=>rw [pre_get p e,← e]; exact h
 | _=>cases h
theorem jl_rest (hR:R.Sublist (rowsW n)) (hk:(1,n)∈kns):jR [[x]] R = restL [x] R:=by
 delta jR restL
 rw [List.flatMap_cons,List.flatMap_nil,List.append_nil]
 refine flt_map_eq fun r m=>?_
 have l:=rw_len (hR.subset m)
 have q:∀ p q:Int,decide (p = q) = decide ([q] = [p]):=fun p q=>decide_eq_decide.mpr ⟨fun e=>e ▸ rfl,fun e=>(List.cons.inj e).1.symm⟩
 simp only [kns,List.mem_cons,Prod.mk.injEq,List.not_mem_nil,or_false] at hk
 rcases hk with ⟨_,rfl⟩ | ⟨_,rfl⟩ | ⟨h,_⟩
 ·obtain ⟨a,b,rfl⟩:=of2 l
  exact ⟨q x a,rfl⟩
 ·obtain ⟨a,b,c,rfl⟩:=of3 l
  exact ⟨q x a,rfl⟩
 ·exact absurd h (by decide)
theorem one_len1 {α:Type} (a:α):[a].length≤84:=by show 1≤84; decide
theorem m12 (hk:(k,n)∈kns):n - k∈[1,2]:=by
 have w:∀ p∈kns,p.2 - p.1∈[1,2]:=by decide
 exact w _ hk
theorem rw_joinL (h:Rw (d + 1) W v r D R) (hx:dget (.str c) D = some (rowV [x])) (hR:R.Sublist (rowsW n)) (hk:(1,n)∈kns) (mx:[x]∈rowsW 1):Rw (d + 2) W v (joinV (varV c) r) D (restL [x] R):=by
 have nf:=restL_nf hR hk mx
 have w:=rw_join (m:=n - 1) (rw_var (d:=d) (W:=W) (v:=v) hx) h (fun a m=>by rw [List.mem_singleton.mp m]; exact rw_I mx) (fun b m=>rw_I (hR.subset m)) (one_len1 _) (nf_cap hR) (m12 hk) (by rw [jl_rest hR hk]; exact fun r m=>nf.subset m)
 rw [jl_rest hR hk,norm_nf nf] at w
 exact w
theorem jr_rest (hR:R.Sublist (rowsW n)) (hk:(1,n)∈kns):jR R [[x]] = restR [x] R:=by
 have e:∀ a:Row,(([[x]]:List Row).filter fun b=>decide (jl a = jh b)).map (fun b=>a.dropLast++b.tail) = cond (decide (jl a = x)) [a.dropLast] []:=fun a=>by
  show (match decide (jl a = x) with | true=>[[x]] | false=>[]).map (fun b:Row=>a.dropLast++b.tail) = _
  cases decide (jl a = x) with
  | true=>show [a.dropLast++[]] = _; rw [List.append_nil]; rfl
  | false=>rfl
 delta jR restR
 rw [show (R.flatMap fun a=>(([[x]]:List Row).filter fun b=>decide (jl a = jh b)).map fun b=>a.dropLast++b.tail) = R.flatMap fun a=>cond (decide (jl a = x)) [a.dropLast] [] from congrArg (R.flatMap ·) (funext e),sel_map (p:=fun a=>decide (jl a = x)) (h:=List.dropLast)]
 refine flt_map_eq fun r m=>?_
 have l:=rw_len (hR.subset m)
 have q:∀ p q:Int,decide (p = q) = decide ([p] = [q]):=fun p q=>decide_eq_decide.mpr ⟨fun e=>e ▸ rfl,fun e=>(List.cons.inj e).1⟩
 simp only [kns,List.mem_cons,Prod.mk.injEq,List.not_mem_nil,or_false] at hk
 rcases hk with ⟨_,rfl⟩ | ⟨_,rfl⟩ | ⟨h,_⟩
 ·obtain ⟨a,b,rfl⟩:=of2 l
  exact ⟨q b x,rfl⟩
 ·obtain ⟨a,b,c,rfl⟩:=of3 l
  exact ⟨q c x,rfl⟩
 ·exact absurd h (by decide)
theorem rw_joinR (h:Rw (d + 1) W v r D R) (hx:dget (.str c) D = some (rowV [x])) (hR:R.Sublist (rowsW n)) (hk:(1,n)∈kns) (mx:[x]∈rowsW 1):Rw (d + 2) W v (joinV r (varV c)) D (restR [x] R):=by
 have nf:=restR_nf hR hk mx
 have w:=rw_join (m:=n - 1) h (rw_var (d:=d) (W:=W) (v:=v) hx) (fun b m=>rw_I (hR.subset m)) (fun a m=>by rw [List.mem_singleton.mp m]; exact rw_I mx) (nf_cap hR) (one_len1 _) (m12 hk) (by rw [jr_rest hR hk]; exact fun r m=>nf.subset m)
 rw [jr_rest hR hk,norm_nf nf] at w
 exact w
theorem fits_x (hm:m∈mks) (hk:K (.bool (fitB m n)) σ):kSs prog T f_law_fits.body (enter f_law_fits [.str m,.int n]) σ (outK K):=by
 simp only [mks,List.mem_cons,List.not_mem_nil,or_false] at hm
 rcases hm with rfl | rfl | rfl | rfl | rfl <;> exact hk
theorem fits_ok (hn:1≤k) (hm:m∈mks) (hk:K (.bool (fitB m n)) σ):callK prog k 81 [.str m,.int n] σ K:=call_i (d:=f_law_fits) hn rfl rfl (fits_x hm hk)
noncomputable def HoT (T:TabK) (W:Ws) (v f:V) (D:Env) (b:Bool):Prop:=∀ (σ:St) (ev:V) (K:V→St→Prop),St1 W v σ→asDict σ ev = some D→(∀ σ',σ <+: σ'→K (.bool b) σ')→T.call 84 [f,.loc 1,ev] σ K
noncomputable def HoB (T:TabK) (W:Ws) (v f:V) (D:Env) (b:Bool):Prop:=∀ (σ:St) (ev:V) (K:V→St→Prop),St1 W v σ→asDict σ ev = some D→(∀ σ',σ <+: σ'→K (.bool b) σ')→kSs prog T f_law_holds.body (enter f_law_holds [f,.loc 1,ev]) σ (outK K)
noncomputable def Ho (d:Nat) (W:Ws) (v f:V) (D:Env) (b:Bool):Prop:=∀ n,d≤n→HoT ⟨callK prog n⟩ W v f D b
theorem Ho.of (h:∀ n,d≤n→HoB ⟨callK prog n⟩ W v f D b):Ho (d + 1) W v f D b:=fun n hn σ ev K w e z=>call_i (d:=f_law_holds) (up1 hn) rfl rfl (h (n - 1) (dn1 hn) σ ev K w e z)
theorem Ho.up {d':Nat} (h:Ho d W v f D b) (e:d≤d'):Ho d' W v f D b:=fun n hn=>h n (Nat.le_trans e hn)
theorem ho_in (h1:Rw d W v r D A) (h2:Rw d W v r' D B) (lA:A.length≤84):Ho (d + 1) W v (inV r r') D (subR A B):=Ho.of fun n hn σ ev K w e z=>by
 have h1:=h1 n hn
 have h2:=h2 n hn
 generalize TabK.mk (callK prog n) = T at h1 h2 ⊢
 conv=>whnf
 refine h2 σ ev _ w e ?_
 conv=>whnf
 refine h1 σ ev _ w e ?_
 conv=>whnf
 refine loopSelS (α:=Row) rowV rowV (fun r=>!hasR B r) (Nat.le_trans lA (by decide)) rfl (fun a ha=>⟨_,rfl,fun ds kk q zz=>?_⟩) ?_
 ·conv=>whnf
  refine oK_i _ (nin_rows B) ?_
  conv=>whnf
  exact cond_i q zz
 ·have z:=z σ (List.prefix_refl σ)
  rw [← subR_eq] at z
  exact z
theorem len_rows (h:R.length≤84):lenE σ (.list (rowsV R)) = some (.int R.length):=by
 show (okLen (rowsV R)).map (fun l=>V.int l.length) = _
 rw [okLen_i (by rw [List.length_map]; exact Nat.le_trans h (by decide))]
 show some (V.int (rowsV R).length) = _
 rw [List.length_map]
theorem ho_mul (hm:m∈[cOne,cLone,cSome]) (h1:Rw (d + 1) W v r D R) (hl:R.length≤84):Ho (d + 2) W v (.tup [.str m,r]) D (fitB m R.length):=Ho.of fun n hn σ ev K w e z=>by
 have h1:=h1 n hn
 have hm':m∈mks:=List.mem_cons_of_mem _ (List.mem_cons_of_mem _ hm)
 have h81:∀ σ K,K (.bool (fitB m R.length)) σ→TabK.call ⟨callK prog n⟩ 81 [.str m,.int R.length] σ K:=fun σ K hk=>fits_ok (up1 hn) hm' hk
 generalize TabK.mk (callK prog n) = T at h1 h81 ⊢
 have go:kE prog T (.call 81 [(.var 3),(.bi .len [(.call 83 [(.item (.var 0) (.cst (.int 1))),(.var 1),(.var 2)])])]) [some (.tup [.str m,r]),some (.loc 1),some ev,some (.str m),none,none,none,none,none,none,none,none,none,none] σ K:=by
  conv=>whnf
  refine h1 σ ev _ w e ?_
  conv=>whnf
  refine oK_i _ (len_rows hl) ?_
  exact h81 σ _ (z σ (List.prefix_refl σ))
 simp only [List.mem_cons,List.not_mem_nil,or_false] at hm
 rcases hm with rfl | rfl | rfl <;> exact go
theorem ho_imp (h1:Ho d W v f D b) (h2:Ho d W v g D b'):Ho (d + 1) W v (impV f g) D (!b || b'):=Ho.of fun n hn σ ev K w e z=>by
 have h1:=h1 n hn
 have h2:=h2 n hn
 generalize TabK.mk (callK prog n) = T at h1 h2 ⊢
 conv=>whnf
 refine h1 σ ev _ w e fun σ1 p1=>?_
 cases b with
 | false=>exact z σ1 p1
 | true =>
  conv=>whnf
  refine h2 σ1 ev _ (w.pre p1) (dict_pre e p1) fun σ2 p2=>?_
  exact z σ2 (p1.trans p2)
theorem ho_and {fs:List (V × Bool)} (h:∀ p∈fs,Ho d W v p.1 D p.2) (hl:fs.length≤capL):Ho (d + 1) W v (andV (fs.map (·.1))) D (fs.all (·.2)):=Ho.of fun n hn σ ev K w e z=>by
 have h:=fun p m=>h p m n hn
 generalize TabK.mk (callK prog n) = T at h ⊢
 conv=>whnf
 refine loopSel (α:=V × Bool) (·.1) (·.1) (fun p=>!p.2) (σ <+: ·) hl (List.prefix_refl σ) (fun _ _=>rfl) (fun p hp=>⟨_,rfl,fun σ3 ds kk i q zz=>?_⟩) fun σ' i=>?_
 ·conv=>whnf
  refine h p hp σ3 ev _ (w.pre i) (dict_pre e i) fun σ4 p4=>?_
  have zz:=zz σ4 (i.trans p4)
  conv=>whnf
  exact cond_i q zz
 ·have z:=z σ' i
  rw [← emp_all (f:=fun p:V × Bool=>p.1)] at z
  exact z
end
end P1
end Mine.Internal
namespace Mine.Internal
theorem dset_len {k v:V}:∀ {d:Env},(dset k v d).length≤d.length + 1
 | []=>Nat.le_refl _
 | (x,w) :: r=>by
  show (if V.beq x k = true then (x,v) :: r else (x,w) :: dset k v r).length≤_
  split
  ·exact Nat.le_succ _
  ·exact Nat.succ_le_succ dset_len
theorem step_st {σ:St} {j:Nat} {a b x:SObj} (h:j < σ.length):((σ++[a]).set j x).set σ.length b = σ.set j x++[b]:=by
 rw [List.set_append_left _ _ h,List.set_append_right _ _ (by rw [List.length_set]; exact Nat.le_refl _),List.length_set,Nat.sub_self]; rfl
namespace P1
noncomputable abbrev T3:=Nat × V × List Row
noncomputable def tV (t:T3):V:=.tup [.str t.1,t.2.1]
noncomputable def chOne (t:T3) (D:Env):List Env:=t.2.2.map fun r=>dset (.str t.1) (rowV r) D
noncomputable def chRun:List T3→List Env→List Env
 | [],Ds=>Ds
 | t :: ts,Ds=>chRun ts (Ds.flatMap (chOne t))
noncomputable abbrev QE:=V × Env
noncomputable def OkE (σ:St) (qs:List QE):Prop:=∀ q∈qs,asDict σ q.1 = some q.2
section
variable {W:Ws} {σ σ0 σ':St} {d n j c:Nat} {T:TabK} {v ev f fnd told x:V} {D:Env} {R rs:List Row} {qs:List QE} {t:T3} {b:Env→Bool}
theorem OkE.pre (h:OkE σ qs) (p:σ <+: σ'):OkE σ' qs:=fun q m=>dict_pre (h q m) p
theorem dict_set {l:List V} {o:SObj} (hj:σ[j]? = some (.list l)) (h:asDict σ ev = some D):asDict (σ.set j o) ev = some D:=by
 cases ev with
 | dict l=>exact h
 | loc m =>
  have h:locD σ[m]? = some D:=h
  show locD (σ.set j o)[m]? = some D
  rw [List.getElem?_set_ne fun e=>by subst e; rw [hj] at h; cases h]; exact h
 | _=>cases h
noncomputable def hoE (told ev:V) (x5 x6 x7 x8 x9 x10:Option V):REnv:=[some told,some (.loc 1),some ev,some (.str 431008786677869),none,x5,x6,x7,x8,x9,x10,none,none,none]
noncomputable def hIn:List S:=[.mth .app (.var 8) (.mut (.bi .dict [(.var 9)])),.asg (.item (.item (.var 8) (.cst (.int (-1)))) (.var 6)) (.var 10)]
noncomputable def hMid:List S:=[.for_ (.one 10) (.val (.call 83 [(.var 7),(.var 1),(.var 9)])) hIn]
noncomputable def hOut:List S:=[.asg (.name 8) (.mut (.list [])),.for_ (.one 9) (.val (.var 5)) hMid,.asg (.name 5) (.var 8)]
theorem dict_i (h:asDict σ ev = some D) (hl:D.length≤capL):biE σ .dict [ev] = some (.dict D):=by
 show (asDict σ ev).bind _ = _
 rw [h]; exact if_pos hl
theorem lastl_i {l:List V} (h:σ[j]? = some (.list (l++[x]))):itemE σ (.loc j) (.int (-1)) = some x:=by
 show (locL σ[j]?).bind (fun l=>(idx l.length (-1)).bind fun j=>l[j]?) = _
 rw [h]
 show (idx (l++[x]).length (-1)).bind (fun j=>(l++[x])[j]?) = _
 have e:idx (l++[x]).length (-1) = some l.length:=by
  rw [List.length_append]
  delta idx
  rw [if_neg (by decide),if_pos ⟨by show (0:Int)≤((l.length + 1:Nat):Int) + (-1); (first | lia | omega),by decide⟩]
  exact congrArg some (by show (((l.length + 1:Nat):Int) + (-1)).toNat = _; (first | lia | omega))
 rw [e]; exact at_last
theorem setd_i {k:Nat} (h:σ[j]? = some (.dict D)) (hl:D.length≤capL):setObj (.loc j) (.str k) x σ = some (σ.set j (.dict (dset (.str k) x D))):=by
 show setObjO (.str k) x j σ σ[j]? = _
 rw [h]
 show (if (keyOk (.str k) && decide (D.length≤capL)) = true then _ else _) = _
 rw [decide_eq_true hl]; rfl
theorem ch_in {k:Out→Prop} {g:Option Nat} {l0:List V} {x5 x7:Option V} (hs:∀ σ',σ0 <+: σ'→stillB g l0 σ' = true) (hD:D.length≤1000) (e0:asDict σ0 ev = some D) (rs:List Row):∀ (qs:List QE) (σ:St) (x10:Option V),σ0 <+: σ→σ[j]? = some (.list (qs.map (·.1)))→σ0.length≤j→OkE σ qs→qs.length + rs.length≤400000 →
  (∀ x10 σ' qs',σ0 <+: σ'→σ'[j]? = some (.list (qs'.map (·.1)))→OkE σ' qs'→qs'.map (·.2) = qs.map (·.2)++rs.map (fun r=>dset (.str c) (rowV r) D)→k (.next (hoE told v x5 (some (.str c)) x7 (some (.loc j)) (some ev) x10) σ')) →
  kLoopS (stillB none l0) (fun v ρ=>bindTg ρ (.one 10) v) (fun ρ σ k=>kSs prog T hIn ρ σ k) (rs.map rowV) (hoE told v x5 (some (.str c)) x7 (some (.loc j)) (some ev) x10) σ k:=by
 induction rs with
 | nil=>exact fun qs σ x10 p hj h0 ok _ z=>bK_i rfl (z x10 σ qs p hj ok (List.append_nil _).symm)
 | cons r rs ih =>
  intro qs σ x10 p hj h0 ok lb z
  have lj:=get_lt hj
  rw [List.length_cons] at lb
  refine bK_i rfl (oK_i _ rfl ?_)
  conv=>whnf
  refine bK_i (show conO σ[j]? = true by rw [hj]; rfl) ?_
  conv=>whnf
  refine oK_i _ (dict_i (dict_pre e0 p) (Nat.le_trans hD (by decide))) ?_
  conv=>whnf
  refine oK_i _ (app_i (v:=.loc σ.length) (pre_get (List.prefix_append ..) hj) (by rw [List.length_append,List.length_map]; exact Nat.le_trans (show qs.length + 1≤400000 by (first | lia | omega)) (by decide))) ?_
  have h2:((σ++[SObj.dict D]).set j (.list (qs.map (·.1)++[.loc σ.length])))[j]? = some (.list (qs.map (·.1)++[.loc σ.length])):=set_get (by rw [List.length_append]; exact Nat.lt_of_lt_of_le lj (Nat.le_add_right ..))
  have h3:((σ++[SObj.dict D]).set j (.list (qs.map (·.1)++[.loc σ.length])))[σ.length]? = some (.dict D):=by
   rw [List.getElem?_set_ne (Nat.ne_of_lt lj)]; exact at_last
  conv=>whnf
  refine oK_i _ (lastl_i h2) ?_
  conv=>whnf
  refine oK_i _ (setd_i h3 (Nat.le_trans hD (by decide))) ?_
  rw [step_st lj]
  refine ih (qs++[(.loc σ.length,dset (.str c) (rowV r) D)]) _ _ ((pre_set p h0).trans (List.prefix_append ..)) ?_ h0 ?_ (by rw [List.length_append]; show qs.length + 1 + rs.length≤_; (first | lia | omega)) fun y σ' qs' p' h' o' e'=>z y σ' qs' p' h' o' ?_
  ·rw [List.map_append]
   exact pre_get (List.prefix_append ..) (set_get lj)
  ·intro q m
   rcases List.mem_append.mp m with m | m
   ·exact dict_pre (dict_set hj (ok q m)) (List.prefix_append ..)
   ·rw [List.mem_singleton.mp m]
    show locD (σ.set j _++[_])[σ.length]? = _
    rw [List.getElem?_append_right (by rw [List.length_set]; exact Nat.le_refl _),List.length_set,Nat.sub_self]; rfl
  ·rw [e',List.map_append,List.append_assoc]; rfl
theorem ch_mid {k:Out→Prop} {x5:Option V} {es:List V} (fa:FA σ0 fnd es) (hR:∀ D,RwT T W v t.2.1 D t.2.2) (hw:St1 W v σ0) (lR:t.2.2.length≤4) (rest:List QE):∀ (qs:List QE) (σ:St) (x9 x10:Option V),σ0 <+: σ→σ[j]? = some (.list (qs.map (·.1)))→σ0.length≤j→OkE σ qs→OkE σ0 rest→(∀ q∈rest,q.2.length≤1000)→qs.length + rest.length * 4≤400000 →
  (∀ x9 x10 σ' qs',σ0 <+: σ'→σ'[j]? = some (.list (qs'.map (·.1)))→OkE σ' qs'→qs'.map (·.2) = qs.map (·.2)++(rest.map (·.2)).flatMap (chOne t)→k (.next (hoE told ev x5 (some (.str t.1)) (some t.2.1) (some (.loc j)) x9 x10) σ')) →
  kLoopS (stillB (locOf fnd) es) (fun v ρ=>bindTg ρ (.one 9) v) (fun ρ σ k=>kSs prog T hMid ρ σ k) (rest.map (·.1)) (hoE told ev x5 (some (.str t.1)) (some t.2.1) (some (.loc j)) x9 x10) σ k:=by
 induction rest with
 | nil=>exact fun qs σ x9 x10 p hj h0 ok _ _ _ z=>bK_i (fa.pre p).still (z x9 x10 σ qs p hj ok (List.append_nil _).symm)
 | cons q rest ih =>
  intro qs σ x9 x10 p hj h0 ok okr hl lb z
  rw [List.length_cons,Nat.succ_mul] at lb
  have eq0:=okr q (List.mem_cons_self ..)
  refine bK_i (fa.pre p).still (oK_i _ rfl ?_)
  conv=>whnf
  refine hR q.2 σ q.1 _ (hw.pre p) (dict_pre eq0 p) ?_
  conv=>whnf
  refine ch_in (σ0:=σ0) (told:=told) (c:=t.1) (g:=none) (fun _ _=>rfl) (hl q (List.mem_cons_self ..)) eq0 t.2.2 qs σ x10 p hj h0 ok (by (first | lia | omega)) fun y10 σ1 qs1 p1 h1 o1 e1=>?_
  refine ih qs1 σ1 _ _ p1 h1 h0 o1 (fun q m=>okr q (List.mem_cons_of_mem _ m)) (fun q m=>hl q (List.mem_cons_of_mem _ m)) ?_ fun y9 y10 σ2 qs2 p2 h2 o2 e2=>z y9 y10 σ2 qs2 p2 h2 o2 ?_
  ·have l1:=congrArg List.length e1
   rw [List.length_append,List.length_map,List.length_map,List.length_map] at l1
   (first | lia | omega)
  ·rw [e2,e1,List.append_assoc]; rfl
theorem ch_run {k:Out→Prop} (ts:List T3) (hR:∀ t∈ts,(∀ D,RwT T W v t.2.1 D t.2.2)∧t.2.2.length≤4):∀ (qs:List QE) (fnd:V) (σ:St) (x6 x7 x8 x9 x10:Option V),FA σ fnd (qs.map (·.1))→OkE σ qs→St1 W v σ→(∀ q∈qs,q.2.length + ts.length≤1000)→qs.length * 4 ^ ts.length≤100000 →
  (∀ x6 x7 x8 x9 x10 σ' fnd' qs',σ <+: σ'→FA σ' fnd' (qs'.map (·.1))→OkE σ' qs'→qs'.map (·.2) = chRun ts (qs.map (·.2))→k (.next (hoE told ev (some fnd') x6 x7 x8 x9 x10) σ')) →
  kLoopS (stillB none []) (fun v ρ=>bindTg ρ (.many [6,7]) v) (fun ρ σ k=>kSs prog T hOut ρ σ k) (ts.map tV) (hoE told ev (some fnd) x6 x7 x8 x9 x10) σ k:=by
 induction ts with
 | nil=>exact fun qs fnd σ x6 x7 x8 x9 x10 fa ok _ _ _ z=>bK_i rfl (z x6 x7 x8 x9 x10 σ fnd qs (List.prefix_refl σ) fa ok rfl)
 | cons t ts ih =>
  intro qs fnd σ x6 x7 x8 x9 x10 fa ok w hl lb z
  have ht:=hR t (List.mem_cons_self ..)
  rw [List.length_cons,Nat.pow_succ,Nat.mul_comm _ 4,← Nat.mul_assoc] at lb
  have lq:qs.length * 4≤100000:=Nat.le_trans (Nat.le_mul_of_pos_right _ (Nat.pow_pos (by decide))) lb
  refine bK_i rfl (oK_i _ rfl ?_)
  conv=>whnf
  refine oK_i _ (fa.pre (List.prefix_append ..)).src ?_
  refine ch_mid (told:=told) (ev:=ev) (t:=t) (σ0:=σ) (j:=σ.length) fa ht.1 w ht.2 qs [] _ _ _ (List.prefix_append ..) at_last (Nat.le_refl _) (fun q m=>(nomatch m)) ok (fun q m=>Nat.le_trans (Nat.le_add_right ..) (hl q m)) (by show 0 + qs.length * 4≤_; (first | lia | omega)) fun y9 y10 σ1 qs1 p1 h1 o1 e1=>?_
  have l1:qs1.length≤qs.length * 4:=by
   have l1:=congrArg List.length e1
   rw [List.length_map,List.map_nil,List.nil_append] at l1
   rw [l1]
   exact Nat.le_trans (fl_len (c:=4) fun D _=>by delta chOne; rw [List.length_map]; exact ht.2) (by rw [List.length_map]; exact Nat.le_refl _)
  refine ih (fun t m=>hR t (List.mem_cons_of_mem _ m)) qs1 (.loc σ.length) σ1 _ _ _ _ _ (.inr ⟨_,rfl,h1⟩) o1 (w.pre p1) (fun q m=>?_) (Nat.le_trans (Nat.mul_le_mul_right _ l1) lb) fun y6 y7 y8 y9 y10 σ2 fnd' qs2 p2 f2 o2 e2=>z y6 y7 y8 y9 y10 σ2 fnd' qs2 (p1.trans p2) f2 o2 ?_
  ·have m2:q.2∈qs1.map (·.2):=List.mem_map.mpr ⟨q,m,rfl⟩
   rw [e1,List.map_nil,List.nil_append] at m2
   obtain ⟨D0,m0,m3⟩:=List.mem_flatMap.mp m2
   obtain ⟨q0,mq,rfl⟩:=List.mem_map.mp m0
   obtain ⟨r,_,e⟩:=List.mem_map.mp m3
   have l0:=hl q0 mq
   rw [List.length_cons] at l0
   rw [← e]
   have:=dset_len (k:=.str t.1) (v:=rowV r) (d:=q0.2)
   (first | lia | omega)
  ·rw [e2,e1]; rfl
theorem one_le (h:t.2.2.length≤4) {Ds:List Env}:(Ds.flatMap (chOne t)).length≤Ds.length * 4:=fl_len (c:=4) fun D _=>by delta chOne; rw [List.length_map]; exact h
theorem run_le:∀ (ts:List T3) (Ds:List Env),(∀ t∈ts,t.2.2.length≤4)→(chRun ts Ds).length≤Ds.length * 4 ^ ts.length
 | [],Ds,_=>by show Ds.length≤Ds.length * 1; (first | lia | omega)
 | t :: ts,Ds,h=>by
  rw [List.length_cons,Nat.pow_succ,Nat.mul_comm _ 4,← Nat.mul_assoc]
  exact Nat.le_trans (run_le ts _ fun t m=>h t (List.mem_cons_of_mem _ m)) (Nat.mul_le_mul_right _ (one_le (h t (List.mem_cons_self ..))))
theorem ho_all {ts:List T3} (hR:∀ t∈ts,(∀ D,Rw d W v t.2.1 D t.2.2)∧t.2.2.length≤4) (hf:∀ D'∈chRun ts [D],Ho d W v f D' (b D')) (lD:D.length≤100) (lt:ts.length≤2):Ho (d + 1) W v (allV (.tup (ts.map tV)) f) D ((chRun ts [D]).all b):=Ho.of fun n hn σ ev K w e z=>by
 have hR:∀ t∈ts,(∀ D,RwT ⟨callK prog n⟩ W v t.2.1 D t.2.2)∧t.2.2.length≤4:=fun t m=>⟨fun D=>(hR t m).1 D n hn,(hR t m).2⟩
 have hf:∀ D'∈chRun ts [D],HoT ⟨callK prog n⟩ W v f D' (b D'):=fun D' m=>hf D' m n hn
 generalize TabK.mk (callK prog n) = T at hR hf ⊢
 have l4:1 * 4 ^ ts.length≤100000:=Nat.le_trans (Nat.mul_le_mul_left 1 (Nat.pow_le_pow_right (by decide) lt)) (by decide)
 conv=>whnf
 refine ch_run (W:=W) (v:=v) (told:=allV (.tup (ts.map tV)) f) (ev:=ev) ts hR [(ev,D)] (.list [ev]) σ none none none none none (.inl rfl) (List.forall_mem_cons.mpr ⟨e,List.forall_mem_nil _⟩) w (List.forall_mem_cons.mpr ⟨show D.length + ts.length≤1000 by (first | lia | omega),List.forall_mem_nil _⟩) l4 fun x6 x7 x8 x9 x10 σ1 fnd qs p1 fa ok e1=>?_
 have e1:qs.map (·.2) = chRun ts [D]:=e1
 conv=>whnf
 refine oK_i _ fa.src ?_
 conv=>whnf
 refine loopSel (α:=QE) (·.1) (·.1) (fun q=>!b q.2) (σ1 <+: ·) ?_ (List.prefix_refl _) (fun σ2 i=>(fa.pre i).still) (fun q m=>⟨_,rfl,fun σ3 ds kk i lq zz=>?_⟩) fun σ' i=>?_
 ·have l1:=congrArg List.length e1
  rw [List.length_map] at l1
  rw [l1]
  exact Nat.le_trans (run_le ts [D] fun t m=>(hR t m).2) (Nat.le_trans l4 (by decide))
 ·conv=>whnf
  refine hf q.2 (e1 ▸ List.mem_map.mpr ⟨q,m,rfl⟩) σ3 q.1 _ (w.pre (p1.trans i)) (dict_pre (ok q m) i) fun σ4 p4=>?_
  have zz:=zz σ4 (i.trans p4)
  conv=>whnf
  exact cond_i lq zz
 ·have z:=z σ' (p1.trans i)
  rw [← e1,List.all_map,← emp_all (p:=b ∘ fun q:QE=>q.2) (f:=fun q:QE=>q.1)] at z
  exact z
end
end P1
end Mine.Internal
namespace Mine.Internal
theorem clip_nat {n k:Nat} (h:k≤n):clip n (k:Int) = k:=by
 show (max 0 (min (if (k:Int) < 0 then (k:Int) + n else k) n)).toNat = k
 rw [if_neg (Int.not_lt.mpr (Int.natCast_nonneg k)),Int.min_eq_left (Int.ofNat_le.mpr h),Int.max_eq_right (Int.natCast_nonneg k)]; rfl
theorem takeS {r:Row} {k:Nat} (h:k≤r.length) (hl:r.length≤1000):sliceE (rowV r) .none (.int (k:Nat)) = some (rowV (r.take k)):=by
 show (if (r.map V.int).length≤capL then some (V.tup (cut (r.map V.int) none (some (k:Int)))) else none) = _
 rw [if_pos (by rw [List.length_map]; exact Nat.le_trans hl (by decide))]
 show some (V.tup (((r.map V.int).take (clip (r.map V.int).length (k:Int))).drop 0)) = _
 rw [List.length_map,clip_nat h,List.drop_zero,← List.map_take]; rfl
theorem dropS {r:Row} {k:Nat} (h:k≤r.length) (hl:r.length≤1000):sliceE (rowV r) (.int (k:Nat)) .none = some (rowV (r.drop k)):=by
 show (if (r.map V.int).length≤capL then some (V.tup (cut (r.map V.int) (some (k:Int)) none)) else none) = _
 rw [if_pos (by rw [List.length_map]; exact Nat.le_trans hl (by decide))]
 show some (V.tup (((r.map V.int).take (r.map V.int).length).drop (clip (r.map V.int).length (k:Int)))) = _
 rw [List.take_length,List.length_map,clip_nat h,← List.map_drop]; rfl
namespace P1
noncomputable abbrev nmV (s:Nat):V:=.tup [.str 1023794727099668889702,.int 0,.str s]
noncomputable abbrev binV (a b:V):V:=.tup [.str 435406826897519,.int 0,.str 44,a,b]
noncomputable abbrev arV (ml mr:Nat) (a b:V):V:=.tup [.str 1895596745844028559822159992,.int 0,.str ml,.str mr,a,b]
noncomputable def sgs:List (Nat × Nat):=[(66,0),(67,1),(68,2),(84,3)]
noncomputable def mrA (ml mr:Nat) (l1 l2:List Row) (m1 m2:List Row→Bool) (R:List Row):Bool:=(l1.all fun a=>fitB mr (restL a R).length && m2 (restL a R)) && (l2.all fun b=>fitB ml (restR b R).length && m1 (restR b R))
section
variable {W:Ws} {σ σ':St} {d n k m c i j w:Nat} {T:TabK} {v nd nd':V} {A B R l l':List Row} {K:V→St→Prop} {a b:Row} {x:Int} {kt:Out→Prop} {s ml mr:Nat} {m1 m2:List Row→Bool}
noncomputable def TuT (T:TabK) (W:Ws) (nd:V) (l:List Row):Prop:=∀ (v:V) (σ:St) (K:V→St→Prop),St1 W v σ→K (.list (rowsV l)) σ→T.call 79 [nd,.loc 1] σ K
noncomputable def TuB (T:TabK) (W:Ws) (nd:V) (l:List Row):Prop:=∀ (v:V) (σ:St) (K:V→St→Prop),St1 W v σ→K (.list (rowsV l)) σ→kSs prog T f_law_tuples.body (enter f_law_tuples [nd,.loc 1]) σ (outK K)
noncomputable def Tu (d:Nat) (W:Ws) (nd:V) (l:List Row):Prop:=∀ n,d≤n→TuT ⟨callK prog n⟩ W nd l
theorem Tu.of (h:∀ n,d≤n→TuB ⟨callK prog n⟩ W nd l):Tu (d + 1) W nd l:=fun n hn v σ K w z=>call_i (d:=f_law_tuples) (up1 hn) rfl rfl (h (n - 1) (dn1 hn) v σ K w z)
theorem Tu.up {d':Nat} (h:Tu d W nd l) (e:d≤d'):Tu d' W nd l:=fun n hn=>h n (Nat.le_trans e hn)
theorem tu_name (hs:(s,k)∈sgs):Tu (d + 1) W (nmV s) (r1 (W.s k)):=Tu.of fun n _ v σ K w z=>by
 generalize TabK.mk (callK prog n) = T
 rw [← rv_map] at z
 have hl:=r1_cap (W.os k)
 simp only [sgs,List.mem_cons,Prod.mk.injEq,List.not_mem_nil,or_false] at hs
 rcases hs with ⟨rfl,rfl⟩ | ⟨rfl,rfl⟩ | ⟨rfl,rfl⟩ | ⟨rfl,rfl⟩
 ·conv=>whnf
  refine oK_i _ (w.it (k:=0) (by decide) rfl) ?_
  conv=>whnf
  exact loopMapS (α:=Int) V.int (fun x=>rowV [x]) hl rfl (fun i _=>⟨_,rfl,fun ds kk b zz=>bK_i (le1 b) zz⟩) z
 ·conv=>whnf
  refine oK_i _ (w.it (k:=1) (by decide) rfl) ?_
  conv=>whnf
  exact loopMapS (α:=Int) V.int (fun x=>rowV [x]) hl rfl (fun i _=>⟨_,rfl,fun ds kk b zz=>bK_i (le1 b) zz⟩) z
 ·conv=>whnf
  refine oK_i _ (w.it (k:=2) (by decide) rfl) ?_
  conv=>whnf
  exact loopMapS (α:=Int) V.int (fun x=>rowV [x]) hl rfl (fun i _=>⟨_,rfl,fun ds kk b zz=>bK_i (le1 b) zz⟩) z
 ·conv=>whnf
  refine oK_i _ (w.it (k:=3) (by decide) rfl) ?_
  conv=>whnf
  exact loopMapS (α:=Int) V.int (fun x=>rowV [x]) hl rfl (fun i _=>⟨_,rfl,fun ds kk b zz=>bK_i (le1 b) zz⟩) z
theorem tu_bin (h1:Tu d W nd A) (h2:Tu d W nd' B) (hA:A.Sublist (rowsW 1)) (hB:B.Sublist (rowsW 1)):Tu (d + 1) W (binV nd nd') (rowsI.filter (hasR (A++B))):=Tu.of fun n hn v σ K w z=>by
 have h1:=h1 n hn
 have h2:=h2 n hn
 generalize TabK.mk (callK prog n) = T at h1 h2 ⊢
 have lc:(A++B).length≤capL:=by rw [List.length_append]; exact Nat.le_trans (Nat.add_le_add (nf_cap hA) (nf_cap hB)) (by decide)
 conv=>whnf
 refine h1 v σ _ w ?_
 conv=>whnf
 refine h2 v σ _ w ?_
 conv=>whnf
 refine oK_i _ (add_rows lc) ?_
 conv=>whnf
 exact oK_i _ (sset_i (m:=1) (by decide) (fun r m=>(List.mem_append.mp m).elim (fun m=>hA.subset m) fun m=>hB.subset m) lc) z
theorem tu_arrow (h1:Tu d W nd A) (h2:Tu d W nd' B) (hA:A.Sublist (rowsW i)) (hB:B.Sublist (rowsW j)):Tu (d + 1) W (arV ml mr nd nd') (prodR A B):=Tu.of fun n hn v σ K w z=>by
 have h1:=h1 n hn
 have h2:=h2 n hn
 generalize TabK.mk (callK prog n) = T at h1 h2 ⊢
 conv=>whnf
 refine h1 v σ _ w ?_
 conv=>whnf
 refine h2 v σ _ w ?_
 conv=>whnf
 refine loopA (α:=Row) rowV (fun a=>rowsV (B.map fun b=>a++b)) (σ = ·) 84 (by rw [List.length_nil,Nat.zero_add]; exact Nat.le_trans (Nat.mul_le_mul_right 84 (nf_cap hA)) (by decide)) rfl (fun _ _=>rfl) (fun a=>by rw [List.length_map,List.length_map]; exact nf_cap hB) (fun a ha=>⟨_,rfl,fun σ3 ds kk i q zz=>?_⟩) fun σ' i=>?_
 ·subst i
  conv=>whnf
  refine loopA (α:=Row) rowV (fun b=>[rowV (a++b)]) (σ = ·) 1 (by rw [Nat.mul_one]; exact Nat.le_trans (Nat.add_le_add_left (nf_cap hB) _) q) rfl (fun _ _=>rfl) (fun _=>Nat.le_refl 1) (fun b hb=>⟨_,rfl,fun σ4 ds2 kk2 i q2 zz2=>?_⟩) fun σ' i=>?_
  ·subst i
   conv=>whnf
   refine oK_i _ (addr_i (ab_cap (wI (rw_I (hA.subset ha))).2 (wI (rw_I (hB.subset hb))).2)) ?_
   exact bK_i (le1 q2) (zz2 _ rfl)
  ·subst i
   rw [one_map,rv_map]
   exact zz _ rfl
 ·subst i
  rw [fm_rows,List.nil_append]
  exact z
noncomputable def MrT (T:TabK) (W:Ws) (nd:V) (w:Nat) (mr:List Row→Bool):Prop:=∀ (v:V) (σ:St) (R:List Row) (K:V→St→Prop),R.Sublist (rowsW w)→St1 W v σ→K (.bool (mr R)) σ→T.call 82 [.list (rowsV R),nd,.loc 1] σ K
noncomputable def Mr (d:Nat) (W:Ws) (nd:V) (w:Nat) (mr:List Row→Bool):Prop:=∀ n,d≤n→MrT ⟨callK prog n⟩ W nd w mr
theorem Mr.up {d':Nat} (h:Mr d W nd w m1) (e:d≤d'):Mr d' W nd w m1:=fun n hn=>h n (Nat.le_trans e hn)
theorem mr_name:Mr (d + 1) W (nmV s) w fun _=>true:=fun n hn v σ R K hR hw z=>call_i (d:=f_law_marks_right) (up1 hn) rfl rfl z
theorem mr_bin:Mr (d + 1) W (binV nd nd') w fun _=>true:=fun n hn v σ R K hR hw z=>call_i (d:=f_law_marks_right) (up1 hn) rfl rfl z
noncomputable def mrE (R:List Row) (nd:V) (x3 x4 x5:Option V):REnv:=[some (.list (rowsV R)),some nd,some (.loc 1),x3,x4,x5,none,none]
noncomputable def mB1:List S:=[.asg (.name 4) (.comp (.gen (.one 6) (.val (.var 0)) [(.cmp .eq (.sl (.var 6) (.cst .none) (.bi .len [(.var 3)])) (.var 3))] (.elt (.sl (.var 6) (.bi .len [(.var 3)]) (.cst .none))))),
   .ite (.or [(.not (.call 81 [(.item (.var 1) (.cst (.int 3))),(.bi .len [(.var 4)])])),(.not (.call 82 [(.var 4),(.item (.var 1) (.cst (.int 5))),(.var 2)]))]) [.ret (.cst (.bool false))] []]
noncomputable def mB2:List S:=[.asg (.name 4) (.comp (.gen (.one 7) (.val (.var 0)) [(.cmp .eq (.sl (.var 7) (.bin .sub (.bi .len [(.var 7)]) (.bi .len [(.var 5)])) (.cst .none)) (.var 5))] (.elt (.sl (.var 7) (.cst .none) (.bin .sub (.bi .len [(.var 7)]) (.bi .len [(.var 5)])))))),
   .ite (.or [(.not (.call 81 [(.item (.var 1) (.cst (.int 2))),(.bi .len [(.var 4)])])),(.not (.call 82 [(.var 4),(.item (.var 1) (.cst (.int 4))),(.var 2)]))]) [.ret (.cst (.bool false))] []]
theorem rest_cap (h:R.Sublist (rowsW n)):(restL a R).length≤84∧(restR a R).length≤84:=by
 delta restL restR
 rw [List.length_map,List.length_map]
 exact ⟨Nat.le_trans (List.length_filter_le ..) (nf_cap h),Nat.le_trans (List.length_filter_le ..) (nf_cap h)⟩
theorem lenr_i {r:Row} (h:r.length≤3):biE σ .len [rowV r] = some (.int r.length):=by
 have e:=len_T (L:=r.map V.int) σ (by rw [List.length_map]; exact Nat.le_trans h (by decide))
 rw [List.length_map] at e; exact e
theorem mr_l1 {x5:Option V} (h81:∀ n σ (K:V→St→Prop),K (.bool (fitB mr n)) σ→T.call 81 [.str mr,.int n] σ K) (h82:MrT T W nd' (n - k) m2) (hR:R.Sublist (rowsW n)) (hk:(k,n)∈kns) (hw:St1 W v σ) (l0:List V):∀ (l:List Row) (x3 x4:Option V),(∀ a∈l,a∈rowsW k) →
  ((l.all fun a=>fitB mr (restL a R).length && m2 (restL a R)) = true→∀ x3 x4,kt (.next (mrE R (arV ml mr nd nd') x3 x4 x5) σ))→((l.all fun a=>fitB mr (restL a R).length && m2 (restL a R)) = false→kt (.ret (.bool false) σ)) →
  kLoopS (stillB none l0) (fun v ρ=>bindTg ρ (.one 3) v) (fun ρ σ k=>kSs prog T mB1 ρ σ k) (l.map rowV) (mrE R (arV ml mr nd nd') x3 x4 x5) σ kt
 | [],x3,x4,_,zt,_=>bK_i rfl (zt rfl x3 x4)
 | a :: l,x3,x4,hl,zt,zf=>by
  have ma:=hl a (List.mem_cons_self ..)
  have la:=rw_len ma
  have kn:k≤n∧n≤3:=by
   have w:∀ p∈kns,p.1≤p.2∧p.2≤3:=by decide
   exact w _ hk
  refine bK_i rfl (oK_i _ rfl ?_)
  conv=>whnf
  refine loopSelS (α:=Row) rowV (fun r=>rowV (r.drop a.length)) (fun r=>decide (r.take a.length = a)) (Nat.le_trans (nf_cap hR) (by decide)) rfl (fun r hr=>⟨_,rfl,fun ds kk q zz=>?_⟩) ?_
  ·have lr:=rw_len (hR.subset hr)
   conv=>whnf
   refine oK_i _ (lenr_i (la.symm ▸ Nat.le_trans kn.1 kn.2)) ?_
   conv=>whnf
   refine oK_i _ (takeS (by (first | lia | omega)) (by (first | lia | omega))) ?_
   conv=>whnf
   refine oK_i _ (eq_row _ a) ?_
   cases e:decide (r.take a.length = a) with
   | false =>
    rw [e] at zz
    exact ap0 (p:=fun l=>kk l σ) zz
   | true =>
    rw [e] at zz
    conv=>whnf
    refine oK_i _ (lenr_i (la.symm ▸ Nat.le_trans kn.1 kn.2)) ?_
    conv=>whnf
    refine oK_i _ (dropS (by (first | lia | omega)) (by (first | lia | omega))) ?_
    exact bK_i (le1 q) zz
  ·rw [rv_map (fun r:Row=>r.drop a.length)]
   have lc:=(rest_cap (a:=a) hR).1
   have ih:=mr_l1 (x5:=x5) h81 h82 hR hk hw l0 l (some (rowV a)) (some (.list (rowsV (restL a R)))) fun a m=>hl a (List.mem_cons_of_mem _ m)
   rw [List.all_cons] at zt zf
   conv=>whnf
   refine oK_i _ (len_rows (R:=restL a R) lc) ?_
   refine h81 _ σ _ ?_
   cases e1:fitB mr (restL a R).length with
   | false =>
    rw [e1] at zf
    exact zf rfl
   | true =>
    conv=>whnf
    refine h82 v σ (restL a R) _ (restL_nf hR hk ma) hw ?_
    rw [e1] at zt zf
    cases e2:m2 (restL a R) with
    | false =>
     rw [e2] at zf
     exact zf rfl
    | true =>
     rw [e2] at zt zf
     exact ih zt zf
theorem mr_l2 {x3:Option V} (h81:∀ n σ (K:V→St→Prop),K (.bool (fitB ml n)) σ→T.call 81 [.str ml,.int n] σ K) (h82:MrT T W nd (n - k) m1) (hR:R.Sublist (rowsW n)) (hk:(k,n)∈kns) (hw:St1 W v σ) (l0:List V):∀ (l:List Row) (x5 x4:Option V),(∀ a∈l,a∈rowsW k) →
  ((l.all fun a=>fitB ml (restR a R).length && m1 (restR a R)) = true→∀ x5 x4,kt (.next (mrE R (arV ml mr nd nd') x3 x4 x5) σ))→((l.all fun a=>fitB ml (restR a R).length && m1 (restR a R)) = false→kt (.ret (.bool false) σ)) →
  kLoopS (stillB none l0) (fun v ρ=>bindTg ρ (.one 5) v) (fun ρ σ k=>kSs prog T mB2 ρ σ k) (l.map rowV) (mrE R (arV ml mr nd nd') x3 x4 x5) σ kt
 | [],x5,x4,_,zt,_=>bK_i rfl (zt rfl x5 x4)
 | a :: l,x5,x4,hl,zt,zf=>by
  have ma:=hl a (List.mem_cons_self ..)
  have la:=rw_len ma
  have kn:k≤n∧n≤3:=by
   have w:∀ p∈kns,p.1≤p.2∧p.2≤3:=by decide
   exact w _ hk
  refine bK_i rfl (oK_i _ rfl ?_)
  conv=>whnf
  refine loopSelS (α:=Row) rowV (fun r=>rowV (r.take (r.length - a.length))) (fun r=>decide (r.drop (r.length - a.length) = a)) (Nat.le_trans (nf_cap hR) (by decide)) rfl (fun r hr=>⟨_,rfl,fun ds kk q zz=>?_⟩) ?_
  ·have lr:=rw_len (hR.subset hr)
   conv=>whnf
   refine oK_i _ (lenr_i (lr.symm ▸ kn.2)) ?_
   conv=>whnf
   refine oK_i _ (lenr_i (la.symm ▸ Nat.le_trans kn.1 kn.2)) ?_
   conv=>whnf
   refine oK_i _ ((congrArg (fun i=>sliceE (rowV r) (.int i) .none) (Int.ofNat_sub (by (first | lia | omega))).symm).trans (dropS (Nat.sub_le ..) (by (first | lia | omega)))) ?_
   conv=>whnf
   refine oK_i _ (eq_row _ a) ?_
   cases e:decide (r.drop (r.length - a.length) = a) with
   | false =>
    rw [e] at zz
    exact ap0 (p:=fun l=>kk l σ) zz
   | true =>
    rw [e] at zz
    conv=>whnf
    refine oK_i _ (lenr_i (lr.symm ▸ kn.2)) ?_
    conv=>whnf
    refine oK_i _ (lenr_i (la.symm ▸ Nat.le_trans kn.1 kn.2)) ?_
    conv=>whnf
    refine oK_i _ ((congrArg (fun i=>sliceE (rowV r) .none (.int i)) (Int.ofNat_sub (by (first | lia | omega))).symm).trans (takeS (Nat.sub_le ..) (by (first | lia | omega)))) ?_
    exact bK_i (le1 q) zz
  ·rw [rv_map (fun r:Row=>r.take (r.length - a.length))]
   have lc:=(rest_cap (a:=a) hR).2
   have ih:=mr_l2 (x3:=x3) h81 h82 hR hk hw l0 l (some (rowV a)) (some (.list (rowsV (restR a R)))) fun a m=>hl a (List.mem_cons_of_mem _ m)
   rw [List.all_cons] at zt zf
   conv=>whnf
   refine oK_i _ (len_rows (R:=restR a R) lc) ?_
   refine h81 _ σ _ ?_
   cases e1:fitB ml (restR a R).length with
   | false =>
    rw [e1] at zf
    exact zf rfl
   | true =>
    conv=>whnf
    refine h82 v σ (restR a R) _ (restR_nf hR hk ma) hw ?_
    rw [e1] at zt zf
    cases e2:m1 (restR a R) with
    | false =>
     rw [e2] at zf
     exact zf rfl
    | true =>
     rw [e2] at zt zf
     exact ih zt zf
theorem mr_arrow (hl:ml∈mks) (hr:mr∈mks) (h1:Tu d W nd l) (h2:Tu d W nd' l') (g1:Mr d W nd i m1) (g2:Mr d W nd' j m2) (n1:l.Sublist (rowsW i)) (n2:l'.Sublist (rowsW j)) (k1:(i,i + j)∈kns) (k2:(j,i + j)∈kns) (hd:1≤d) :
  Mr (d + 1) W (arV ml mr nd nd') (i + j) (mrA ml mr l l' m1 m2):=fun n hn v σ R K hR hw z=>call_i (d:=f_law_marks_right) (up1 hn) rfl rfl (by
 have h1:=h1 _ (dn1 hn)
 have h2:=h2 _ (dn1 hn)
 have g1:=g1 _ (dn1 hn)
 have g2:=g2 _ (dn1 hn)
 have f1:∀ m∈mks,∀ k σ (K:V→St→Prop),K (.bool (fitB m k)) σ→TabK.call ⟨callK prog (n - 1)⟩ 81 [.str m,.int k] σ K:=fun m hm k σ K hk=>fits_ok (Nat.le_trans hd (dn1 hn)) hm hk
 have f2:=f1 ml hl
 have f1:=f1 mr hr
 generalize TabK.mk (callK prog (n - 1)) = T at h1 h2 g1 g2 f1 f2 ⊢
 conv=>whnf
 refine h1 v σ _ hw ?_
 conv=>whnf
 refine mr_l1 (ml:=ml) (nd:=nd) (nd':=nd') (x5:=none) f1 (by rw [Nat.add_sub_cancel_left]; exact g2) hR k1 hw _ l none none (fun a m=>n1.subset m) (fun e x3 x4=>?_) fun e=>?_
 ·conv=>whnf
  refine h2 v σ _ hw ?_
  conv=>whnf
  refine mr_l2 (mr:=mr) (nd:=nd) (nd':=nd') (x3:=x3) f2 (by rw [Nat.add_sub_cancel]; exact g1) hR k2 hw _ l' none x4 (fun a m=>n2.subset m) (fun e' x3 x4=>?_) fun e'=>?_
  ·delta mrA at z; rw [e,e'] at z; exact z
  ·delta mrA at z; rw [e,e'] at z; exact z
 ·delta mrA at z; rw [e] at z; exact z)
end
end P1
end Mine.Internal
namespace Mine.Internal
open PySem
namespace P1
noncomputable def sigT:V:=.tup [.str 510173617586280,.int 0,.tup [.str 66,.str 67,.str 68],.bool false,.str 0,.str 0,.tup [],.tup [],.tup []]
noncomputable def itemsV:List V:=[sigT]
noncomputable def nuV:Env:=[(.str 66,.int 0),(.str 67,.int 1),(.str 68,.int 2)]
noncomputable def opF (ct sp ht pk:Int):List (Nat × V):=[(91018014822433855916448552147567129127201744206719258460276,.loc 2),(2089024793972003303873052788,.none),(2050339269201387993285263476,.list itemsV),(9442840468706836533258501435379962347636,.dict nuV),(1934282215274345678596210804,.loc 9),(1934282344401593776985866357,.int ct),(2243767363446240513821245557,.int sp),(4259307989734766077997039554134133,.int ht),(1042241488765539319916,.int pk)]
noncomputable def sgsO:St:=[.inst 2 [(8677204859181125939181893442046368153716,.loc 3),(4705521291157225747889372490891380,.loc 4),(4543261936956796822649674720608357,.loc 5),(9527910938742439441923968210238380703845,.loc 6),(87879469192763632568941775319736026401969400547484486336628,.list [])],
 .dict [(.str 66,sigT),(.str 67,sigT),(.str 68,sigT)],.list [.str 66,.str 67,.str 68],.list [],.list [.str 66,.str 67,.str 68],.list []]
@[irreducible] noncomputable def stt (t s:SObj) (ct sp ht pk:Int) (τ:St):St:=t :: s :: (sgsO++(.inst 1 (opF ct sp ht pk) :: .dict [] :: τ))
noncomputable def newX:X:=.new 1 [(.new 2 [(.var 3)]),(.cst .none),(.var 3),(.dict [(.cst (.str 66)),(.cst (.int 0)),(.cst (.str 67)),(.cst (.int 1)),(.cst (.str 68)),(.cst (.int 2))])]
theorem init_eq:∀ (t s:SObj) (n:Nat) (a0 a1 a2:Option V) (r:REnv) (K:V→St→Prop),kE prog ⟨callK prog (n + 8)⟩ newX (a0 :: a1 :: a2 :: some (.list itemsV) :: r) [t,s] K = K (.loc 8) (stt t s 0 0 0 0 []) :=
 fun t s n a0 a1 a2 r K=>by kernel_rfl!
noncomputable def evV:V:=.dict [(.str 84,relV 3)]
noncomputable abbrev fHt:Nat:=4259307989734766077997039554134133
theorem eqn {k n f:Nat} {args:List V} {σ:St} {K:V→St→Prop} {p:Prop} (h:∀ n,callK prog (n + k) f args σ K = p) (hn:k≤n) (hp:p):callK prog n f args σ K:=by
 obtain ⟨m,rfl⟩:=Nat.exists_eq_add_of_le' hn
 rw [h m]; exact hp
section
variable {t s:SObj} {τ:St} {ct sp ht pk x:Int} {f m n k d:Nat} {v e nd:V} {K:V→St→Prop}
theorem op_at:(stt t s ct sp ht pk τ)[8]? = some (.inst 1 (opF ct sp ht pk)):=by delta stt; rfl
theorem attr_i (h:getA (opF ct sp ht pk) f = some v):attrE (.loc 8) f (stt t s ct sp ht pk τ) = some v:=by
 show fldO f (stt t s ct sp ht pk τ)[8]? = _
 rw [op_at]; exact h
theorem set_i {ct' sp' ht' pk':Int} (h:setA (opF ct sp ht pk) f v = opF ct' sp' ht' pk'):setFld (.loc 8) f v (stt t s ct sp ht pk τ) = some (stt t s ct' sp' ht' pk' τ):=by
 show setFldO f v 8 (stt t s ct sp ht pk τ) (stt t s ct sp ht pk τ)[8]? = _
 rw [op_at]
 show some ((stt t s ct sp ht pk τ).set 8 (.inst 1 (setA (opF ct sp ht pk) f v))) = _
 rw [h]
 delta stt; rfl
theorem meth_i (h:(getA (opF ct sp ht pk) m).isSome = false) (hm:prog.meth 1 m = some f):findMeth prog (.loc 8) m (stt t s ct sp ht pk τ) = some (8,f):=by
 show methO prog 8 m (stt t s ct sp ht pk τ)[8]? = _
 rw [op_at]
 show (if (getA (opF ct sp ht pk) m).isSome = true then none else (prog.meth 1 m).map fun f=>(8,f)) = _
 rw [h,hm]; rfl
theorem spend_x {a b:Int} {T:TabK} (h1:sp + a≤20000) (h2:ht + b≤100) (hk:∀ pk',K .none (stt t s ct (sp + a) ht pk' τ)):kSs prog T f_Opener_spend.body (enter f_Opener_spend [.loc 8,.int a,.int b]) (stt t s ct sp ht pk τ) (outK K):=by
 conv=>whnf
 refine oK_i _ (attr_i rfl) ?_
 conv=>whnf
 refine oK_i _ (set_i (ct':=ct) (sp':=sp + a) (ht':=ht) (pk':=pk) rfl) ?_
 conv=>whnf
 refine oK_i _ (attr_i rfl) ?_
 conv=>whnf
 refine oK_i _ (attr_i rfl) ?_
 conv=>whnf
 refine oK_i _ (set_i (ct':=ct) (sp':=sp + a) (ht':=ht) (pk':=if pk < ht + b then ht + b else pk) rfl) ?_
 conv=>whnf
 refine oK_i _ (attr_i rfl) ?_
 conv=>whnf
 refine iK_f (decide_eq_false (Int.not_lt.mpr h1)) ?_
 conv=>whnf
 refine oK_i _ (attr_i rfl) ?_
 conv=>whnf
 refine iK_f (decide_eq_false (Int.not_lt.mpr h2)) ?_
 exact hk _
theorem spend_ok {a b:Int} (hn:1≤n) (h1:sp + a≤20000) (h2:ht + b≤100) (hk:∀ pk',K .none (stt t s ct (sp + a) ht pk' τ)):callK prog n 16 [.loc 8,.int a,.int b] (stt t s ct sp ht pk τ) K :=
 call_i (d:=f_Opener_spend) hn rfl rfl (spend_x h1 h2 hk)
noncomputable def ExT (T:TabK) (d z:Nat) (nd e:V):Prop:=∀ (t s:SObj) (ct sp ht pk:Int) (τ:St) (K:V→St→Prop),sp + z≤20000→ht + d≤100→(∀ sp' pk',sp'≤sp + z→K e (stt t s ct sp' ht pk' τ))→T.call 32 [.loc 8,nd,evV] (stt t s ct sp ht pk τ) K
noncomputable def ExB (T:TabK) (d z:Nat) (nd e:V):Prop:=∀ (t s:SObj) (ct sp ht pk:Int) (τ:St) (K:V→St→Prop),sp + z≤20000→ht + d≤100→(∀ sp' pk',sp'≤sp + z→K e (stt t s ct sp' ht pk' τ))→kSs prog T f_Opener_expr_of.body (enter f_Opener_expr_of [.loc 8,nd,evV]) (stt t s ct sp ht pk τ) (outK K)
noncomputable def Ex (m d z:Nat) (nd e:V):Prop:=∀ n,m≤n→ExT ⟨callK prog n⟩ d z nd e
theorem Ex.up {z:Nat} {m' d' z':Nat} (h:Ex m d z nd e) (h1:m≤m') (h2:d≤d') (h3:z≤z'):Ex m' d' z' nd e:=fun n hn t s ct sp ht pk τ K e1 e2 k=>h n (Nat.le_trans h1 hn) t s ct sp ht pk τ K (by (first | lia | omega)) (by (first | lia | omega)) fun sp' pk' e=>k sp' pk' (by (first | lia | omega))
theorem expr_x {z:Nat} {T:TabK} (h16:∀ K:V→St→Prop,(∀ pk',K .none (stt t s ct (sp + 1) (ht + 1) pk' τ))→T.call 16 [.loc 8,.int 1,.int 0] (stt t s ct sp (ht + 1) pk τ) K)
  (h33:∀ pk (K:V→St→Prop),(∀ sp' pk',sp'≤sp + 1 + z→K e (stt t s ct sp' (ht + 1) pk' τ))→T.call 33 [.loc 8,nd,evV] (stt t s ct (sp + 1) (ht + 1) pk τ) K)
  (zz:∀ sp' pk',sp'≤sp + (z + 1:Nat)→K e (stt t s ct sp' ht pk' τ)):kSs prog T f_Opener_expr.body (enter f_Opener_expr [.loc 8,nd,evV]) (stt t s ct sp ht pk τ) (outK K):=by
 conv=>whnf
 refine oK_i _ (attr_i rfl) ?_
 conv=>whnf
 refine oK_i _ (set_i (ct':=ct) (sp':=sp) (ht':=ht + 1) (pk':=pk) rfl) ?_
 conv=>whnf
 refine oK_i _ (meth_i rfl rfl) ?_
 conv=>whnf
 refine h16 _ fun pk'=>?_
 conv=>whnf
 refine oK_i _ (meth_i rfl rfl) ?_
 conv=>whnf
 refine h33 _ _ fun sp' pk' h1=>?_
 conv=>whnf
 refine oK_i _ (attr_i rfl) ?_
 conv=>whnf
 refine oK_i _ (set_i (ct':=ct) (sp':=sp') (ht':=ht) (pk':=pk') (by show setA (opF ct sp' (ht + 1) pk') fHt (V.int (ht + 1 - 1)) = _; rw [Int.add_sub_cancel]; rfl)) ?_
 exact zz sp' pk' (by (first | lia | omega))
theorem Ex.of {z:Nat} (h:∀ n,m≤n→ExB ⟨callK prog n⟩ d z nd e):Ex (m + 2) (d + 1) (z + 1) nd e:=fun n hn t s ct sp ht pk τ K h1 h2 k=>by
 have h1:sp + ((z:Int) + 1)≤20000:=h1
 have h2:ht + ((d:Int) + 1)≤100:=h2
 exact call_i (d:=f_Opener_expr) (up1 hn) rfl rfl (expr_x (z:=z) (fun K hk=>spend_ok (Nat.le_trans (Nat.le_add_left 1 m) (dn1 hn)) (by (first | lia | omega)) (by (first | lia | omega)) hk)
  (fun pk K hk=>call_i (d:=f_Opener_expr_of) (up1 (dn1 hn)) rfl rfl (h (n - 1 - 1) (dn1 (dn1 hn)) t s ct (sp + 1) (ht + 1) pk τ K (by (first | lia | omega)) (by (first | lia | omega)) hk)) k)
theorem nam_eq:∀ q∈[(66,0),(67,1),(68,2)],∀ t s n ct sp ht pk τ K,callK prog (n + 8) 33 [.loc 8,nmV q.1,evV] (stt t s ct sp ht pk τ) K = K (relV q.2) (stt t s ct sp ht pk τ):=by
 repeat (first | exact List.forall_mem_nil _ | refine List.forall_mem_cons.mpr ⟨fun t s n ct sp ht pk τ K=>by kernel_rfl!,?_⟩)
theorem ex_name {q:Nat × Int} (h:q∈[(66,0),(67,1),(68,2)]):Ex 9 1 1 (nmV q.1) (relV q.2):=fun n hn t s ct sp ht pk τ K h1 h2 k=>by
 have h1:sp + ((0:Int) + 1)≤20000:=h1
 exact call_i (d:=f_Opener_expr) (up1 hn) rfl rfl (expr_x (z:=0) (fun K hk=>spend_ok (Nat.le_trans (by decide) (dn1 hn)) (by (first | lia | omega)) (by (first | lia | omega)) hk)
  (fun pk K hk=>eqn (nam_eq q h t s · ct (sp + 1) (ht + 1) pk τ K) (dn1 hn) (hk _ _ (by (first | lia | omega)))) k)
end
end P1
end Mine.Internal
namespace Mine.Internal
open PySem
namespace P1
noncomputable def notCall:V:=.tup [.str 0,.tup []]
section
variable {t s:SObj} {τ:St} {ct sp ht pk x:Int} {f m n k d z z' w w':Nat} {v e e' nd nd' a b:V} {K:V→St→Prop} {T:TabK} {σ:St} {l:List V} {b1 b2:Bool} {ml mr:Nat}
theorem used_ok (hn:2≤n) (h1:sp + 1≤20000) (h2:ht + 1≤100) (hk:∀ pk',K (relV 3) (stt t s ct (sp + 1) ht pk' τ)):callK prog n 18 [.loc 8,.str 84,evV] (stt t s ct sp ht pk τ) K :=
 call_i (d:=f_Opener_used) (up1 hn) rfl rfl (by
  have h16:∀ K:V→St→Prop,(∀ pk',K .none (stt t s ct (sp + 1) ht pk' τ))→TabK.call ⟨callK prog (n - 1)⟩ 16 [.loc 8,.int 1,.int 1] (stt t s ct sp ht pk τ) K:=fun K hk=>spend_ok (dn1 hn) h1 h2 hk
  generalize TabK.mk (callK prog (n - 1)) = T at h16 ⊢
  conv=>whnf
  refine oK_i _ (meth_i rfl rfl) ?_
  conv=>whnf
  refine h16 _ fun pk'=>?_
  exact hk pk')
theorem wanted_ok (hn:1≤n) (z:K (relV 3) σ) {p q:V}:callK prog n 37 [p,relV 3,.str cSet,q] σ K :=
 call_i (d:=f_Opener_wanted) hn rfl rfl z
theorem ex_S:Ex 4 2 2 (nmV 84) (relV 3):=Ex.of (m:=2) (d:=1) (z:=1) fun n hn t s ct sp ht pk τ K h1 h2 k=>by
 have h18:∀ K:V→St→Prop,(∀ pk',K (relV 3) (stt t s ct (sp + 1) ht pk' τ))→TabK.call ⟨callK prog n⟩ 18 [.loc 8,.str 84,evV] (stt t s ct sp ht pk τ) K:=fun K hk=>used_ok hn (by (first | lia | omega)) (by (first | lia | omega)) hk
 have h37:∀ (σ:St) (K:V→St→Prop),K (relV 3) σ→TabK.call ⟨callK prog n⟩ 37 [.loc 8,relV 3,.str cSet,.int 0] σ K:=fun σ K hk=>wanted_ok (Nat.le_trans (by decide) hn) hk
 generalize TabK.mk (callK prog n) = T at h18 h37 ⊢
 conv=>whnf
 refine oK_i _ (meth_i rfl rfl) ?_
 conv=>whnf
 refine oK_i _ (meth_i rfl rfl) ?_
 conv=>whnf
 refine h18 _ fun pk'=>?_
 conv=>whnf
 refine h37 _ _ ?_
 exact k _ _ (by (first | lia | omega))
theorem nc_eq:∀ a b t s n ct sp ht pk τ K,callK prog (n + 2) 24 [.loc 8,binV a b,evV] (stt t s ct sp ht pk τ) K = K notCall (stt t s ct sp ht pk τ):=fun a b t s n ct sp ht pk τ K=>by kernel_rfl!
theorem ex_bin (h1:Ex m d z nd e) (h2:Ex m d z' nd' e') (hm:2≤m):Ex (m + 2) (d + 1) (z + z' + 1) (binV nd nd') (unionV e e'):=Ex.of fun n hn t s ct sp ht pk τ K e1 e2 k=>by
 have h1:=h1 n hn
 have h2:=h2 n hn
 have h24:∀ K:V→St→Prop,K notCall (stt t s ct sp ht pk τ)→TabK.call ⟨callK prog n⟩ 24 [.loc 8,binV nd nd',evV] (stt t s ct sp ht pk τ) K:=fun K hk=>eqn (nc_eq nd nd' t s · ct sp ht pk τ K) (Nat.le_trans hm hn) hk
 generalize TabK.mk (callK prog n) = T at h1 h2 h24 ⊢
 conv=>whnf
 refine oK_i _ (meth_i rfl rfl) ?_
 conv=>whnf
 refine h24 _ ?_
 conv=>whnf
 refine oK_i _ (meth_i rfl rfl) ?_
 conv=>whnf
 refine h1 t s ct sp ht pk τ _ (by (first | lia | omega)) e2 fun sp1 pk1 p1=>?_
 conv=>whnf
 refine oK_i _ (meth_i rfl rfl) ?_
 conv=>whnf
 refine h2 t s ct sp1 ht pk1 τ _ (by (first | lia | omega)) e2 fun sp2 pk2 p2=>?_
 exact k sp2 pk2 (by (first | lia | omega))
theorem ex_arrow (h1:Ex m d z nd e) (h2:Ex m d z' nd' e'):Ex (m + 2) (d + 1) (z + z' + 1) (arV ml mr nd nd') (prodV e e'):=Ex.of fun n hn t s ct sp ht pk τ K e1 e2 k=>by
 have h1:=h1 n hn
 have h2:=h2 n hn
 generalize TabK.mk (callK prog n) = T at h1 h2 ⊢
 conv=>whnf
 refine oK_i _ (meth_i rfl rfl) ?_
 conv=>whnf
 refine h1 t s ct sp ht pk τ _ (by (first | lia | omega)) e2 fun sp1 pk1 p1=>?_
 conv=>whnf
 refine oK_i _ (meth_i rfl rfl) ?_
 conv=>whnf
 refine h2 t s ct sp1 ht pk1 τ _ (by (first | lia | omega)) e2 fun sp2 pk2 p2=>?_
 exact k sp2 pk2 (by (first | lia | omega))
noncomputable def ArT (T:TabK) (e:V) (w:Nat):Prop:=∀ (t s:SObj) (ct sp ht pk:Int) (τ:St) (K:V→St→Prop),K (.int w) (stt t s ct sp ht pk τ)→T.call 13 [.loc 8,e] (stt t s ct sp ht pk τ) K
noncomputable def Ar (m:Nat) (e:V) (w:Nat):Prop:=∀ n,m≤n→ArT ⟨callK prog n⟩ e w
theorem Ar.up {m':Nat} (h:Ar m e w) (h1:m≤m'):Ar m' e w:=fun n hn=>h n (Nat.le_trans h1 hn)
theorem ar_eq:∀ i t s n ct sp ht pk τ K,callK prog (n + 5) 13 [.loc 8,relV i] (stt t s ct sp ht pk τ) K = K (.int 1) (stt t s ct sp ht pk τ):=fun i t s n ct sp ht pk τ K=>by kernel_rfl!
theorem ar_rel {i:Int}:Ar 5 (relV i) 1:=fun n hn t s ct sp ht pk τ K hk=>eqn (ar_eq i t s · ct sp ht pk τ K) hn hk
theorem ar_union (h:Ar m e w):Ar (m + 1) (unionV e e') w:=fun n hn t s ct sp ht pk τ K hk=>call_i (d:=f_Names_arity) (up1 hn) rfl rfl (by
 have h:=h _ (dn1 hn)
 generalize TabK.mk (callK prog (n - 1)) = T at h ⊢
 conv=>whnf
 refine oK_i _ (meth_i rfl rfl) ?_
 conv=>whnf
 refine h t s ct sp ht pk τ _ ?_
 exact hk)
theorem ar_prod (h1:Ar m e w) (h2:Ar m e' w'):Ar (m + 1) (prodV e e') (w + w'):=fun n hn t s ct sp ht pk τ K hk=>call_i (d:=f_Names_arity) (up1 hn) rfl rfl (by
 have h1:=h1 _ (dn1 hn)
 have h2:=h2 _ (dn1 hn)
 generalize TabK.mk (callK prog (n - 1)) = T at h1 h2 ⊢
 conv=>whnf
 refine oK_i _ (meth_i rfl rfl) ?_
 conv=>whnf
 refine h1 t s ct sp ht pk τ _ ?_
 conv=>whnf
 refine oK_i _ (meth_i rfl rfl) ?_
 conv=>whnf
 refine h2 t s ct sp ht pk τ _ ?_
 have e:((w + w':Nat):Int) = (w:Int) + w' - 0:=by (first | lia | omega)
 rw [e] at hk
 exact hk)
noncomputable def ImT (T:TabK) (nd:V) (b:Bool):Prop:=∀ (t s:SObj) (ct sp ht pk:Int) (τ:St) (K:V→St→Prop),K (.bool b) (stt t s ct sp ht pk τ)→T.call 41 [.loc 8,nd] (stt t s ct sp ht pk τ) K
noncomputable def Im (m:Nat) (nd:V) (b:Bool):Prop:=∀ n,m≤n→ImT ⟨callK prog n⟩ nd b
theorem Im.up {m':Nat} {b:Bool} (h:Im m nd b) (h1:m≤m'):Im m' nd b:=fun n hn=>h n (Nat.le_trans h1 hn)
noncomputable def pln (m:Nat):Bool:=decide (0 = m) || (decide (cSet = m) || false)
theorem im_name {q:Nat}:Im 1 (nmV q) false:=fun n hn t s ct sp ht pk τ K hk=>call_i (d:=f_Opener_is_marked) hn rfl rfl hk
theorem im_bin:Im 1 (binV nd nd') false:=fun n hn t s ct sp ht pk τ K hk=>call_i (d:=f_Opener_is_marked) hn rfl rfl hk
noncomputable def imA (ml mr:Nat) (b1 b2:Bool):Bool:=!pln ml || (!pln mr || (b1 || b2))
theorem im_arrow (h1:Im m nd b1) (h2:Im m nd' b2):Im (m + 1) (arV ml mr nd nd') (imA ml mr b1 b2):=fun n hn t s ct sp ht pk τ K hk=>call_i (d:=f_Opener_is_marked) (up1 hn) rfl rfl (by
 have h1:=h1 _ (dn1 hn)
 have h2:=h2 _ (dn1 hn)
 generalize TabK.mk (callK prog (n - 1)) = T at h1 h2 ⊢
 delta imA at hk
 conv=>whnf
 cases e1:pln ml with
 | false=>rw [e1] at hk; exact iK_t (b:=!pln ml) (by rw [e1]; rfl) hk
 | true =>
  rw [e1] at hk
  refine iK_f (b:=!pln ml) (by rw [e1]; rfl) ?_
  conv=>whnf
  cases e2:pln mr with
  | false=>rw [e2] at hk; exact iK_t (b:=!pln mr) (by rw [e2]; rfl) hk
  | true =>
   rw [e2] at hk
   refine iK_f (b:=!pln mr) (by rw [e2]; rfl) ?_
   conv=>whnf
   refine oK_i _ (meth_i rfl rfl) ?_
   conv=>whnf
   refine h1 t s ct sp ht pk τ _ ?_
   cases b1 with
   | true=>exact hk
   | false =>
    conv=>whnf
    refine oK_i _ (meth_i rfl rfl) ?_
    conv=>whnf
    refine h2 t s ct sp ht pk τ _ ?_
    cases b2 <;> exact hk)
noncomputable def allOf:List V→V
 | [f]=>f
 | l=>andV l
theorem all_ok (hn:1≤n) (fa:FA σ v l) (h0:l ≠ []) (hl:l.length≤1000) (hk:K (allOf l) σ):callK prog n 1 [v] σ K:=call_i (d:=f_all_of) hn rfl rfl (by
 generalize TabK.mk (callK prog (n - 1)) = T
 have ln:biE σ .len [v] = some (.int l.length):=by
  rcases fa with rfl | ⟨i,rfl,h⟩
  ·exact len_L σ (Nat.le_trans hl (by decide))
  ·show ((asList σ (.loc i)).bind okLen).map (fun l=>V.int l.length) = _
   rw [show asList σ (.loc i) = some l by show locL σ[i]? = _; rw [h]; rfl,Option.bind_some,okLen_i (Nat.le_trans hl (by decide))]; rfl
 have it:∀ f,l = [f]→itemE σ v (.int 0) = some f:=fun f e=>by
  show (asList σ v).bind _ = _
  rw [fa.src,e]; rfl
 have tp:biE σ .tuple [v] = some (.tup l):=by
  show ((asList σ v).bind okLen).map V.tup = _
  rw [fa.src,Option.bind_some,okLen_i (Nat.le_trans hl (by decide))]; rfl
 cases l with
 | nil=>exact absurd rfl h0
 | cons f l =>
  cases l with
  | nil =>
   conv=>whnf
   refine oK_i _ ln ?_
   conv=>whnf
   exact oK_i _ (it f rfl) hk
  | cons g l =>
   conv=>whnf
   refine oK_i _ ln ?_
   conv=>whnf
   refine oK_i _ ln ?_
   conv=>whnf
   refine iK_t (decide_eq_true (p:=(0:Int) < ((l.length + 1 + 1:Nat):Int)) (by (first | lia | omega))) ?_
   conv=>whnf
   refine oK_i _ tp ?_
   exact hk)
end
end P1
end Mine.Internal
namespace Mine.Internal
open PySem
section
variable {st:St→Bool} {bnd:V→Option REnv} {ifs:REnv→St→(Bool→St→Prop)→Prop} {body:List V→REnv→St→(List V→St→Prop)→Prop} {l r ds:List V} {σ:St} {k:List V→St→Prop} {v:V} {ρ:REnv}
theorem kLoopC_nil (e:st σ = true) (h:k ds σ):kLoopC st bnd ifs body [] ds σ k:=by delta kLoopC; exact bK_i e h
theorem kLoopC_cons (e:st σ = true) (b:bnd v = some ρ) (h:ifs ρ σ fun t σ=>iK t (body ds ρ σ fun ds σ=>kLoopC st bnd ifs body r ds σ k) (kLoopC st bnd ifs body r ds σ k)):kLoopC st bnd ifs body (v :: r) ds σ k:=by
 delta kLoopC at h ⊢
 exact bK_i e (oK_i ρ b h)
end
namespace P1
noncomputable abbrev sEach:Nat:=940784378767954935913
noncomputable def lab (c:Nat):Nat:=catS (catS (catS 0 sEach) 40) (encL (digs c))
theorem lab_ne:∀ i,i < 11→∀ j,j < 11→lab i = lab j→i = j:=by decide +kernel
section
variable {t s:SObj} {τ:St} {ct sp ht pk x:Int} {f m n k d c:Nat} {v e g:V} {K:V→St→Prop} {T:TabK} {σ:St}
theorem fr_eq:∀ c∈[0,1,2,3,4,5,6,7,8,9],∀ t s n sp ht pk τ K,callK prog (n + 1) 4 [.loc 8,.str sEach] (stt t s (c:Nat) sp ht pk τ) K = K (.str (lab (c + 1))) (stt t s (c + 1:Nat) sp ht pk τ):=by
 repeat (first | exact List.forall_mem_nil _ | refine List.forall_mem_cons.mpr ⟨fun t s n sp ht pk τ K=>by kernel_rfl!,?_⟩)
noncomputable def FrT (T:TabK):Prop:=∀ (c:Nat) (t s:SObj) (sp ht pk:Int) (τ:St) (K:V→St→Prop),c < 10→K (.str (lab (c + 1))) (stt t s (c + 1:Nat) sp ht pk τ)→T.call 4 [.loc 8,.str sEach] (stt t s c sp ht pk τ) K
theorem fr_ok (hn:1≤n):FrT ⟨callK prog n⟩:=fun c t s sp ht pk τ K hc z=>eqn (fr_eq c (by simp only [List.mem_cons,List.not_mem_nil,or_false]; (first | lia | omega)) t s · sp ht pk τ K) hn z
noncomputable def eaTold (k c:Nat) (e:V) (l:List Row):List T3:=match k with
 | 1=>[(lab (c + 1),e,l)]
 | _=>[(lab (c + 1),univV,rowsW 1),(lab (c + 2),univV,rowsW 1)]
noncomputable def eaSome (k c:Nat):List V:=match k with
 | 1=>[varV (lab (c + 1))]
 | _=>[varV (lab (c + 1)),varV (lab (c + 2))]
noncomputable def eaGuard (k c:Nat) (e:V):V:=match k with
 | 1=>.none
 | _=>inV (prodV (varV (lab (c + 1))) (varV (lab (c + 2)))) e
noncomputable def eaForm (k c:Nat) (e f:V):V:=match k with
 | 1=>f
 | _=>impV (inV (prodV (varV (lab (c + 1))) (varV (lab (c + 2)))) e) f
noncomputable def EaT (T:TabK) (k:Nat) (e:V):Prop:=∀ (l:List Row) (c:Nat) (t s:SObj) (sp ht pk:Int) (τ:St) (K:V→St→Prop),c + k≤10→K (.tup [.tup ((eaTold k c e l).map tV),.list (eaSome k c),eaGuard k c e]) (stt t s (c + k:Nat) sp ht pk τ)→T.call 45 [.loc 8,e] (stt t s c sp ht pk τ) K
theorem ea_1 (h13:ArT T e 1) (h4:FrT T) (l:List Row) (hc:c + 1≤10) (z:K (.tup [.tup ((eaTold 1 c e l).map tV),.list (eaSome 1 c),eaGuard 1 c e]) (stt t s (c + 1:Nat) sp ht pk τ)):kSs prog T f_Opener_each_of.body (enter f_Opener_each_of [.loc 8,e]) (stt t s c sp ht pk τ) (outK K):=by
 conv=>whnf
 refine oK_i _ (meth_i rfl rfl) ?_
 conv=>whnf
 refine h13 t s c sp ht pk τ _ ?_
 conv=>whnf
 refine kLoopC_cons rfl rfl ?_
 conv=>whnf
 refine oK_i _ (meth_i rfl rfl) ?_
 conv=>whnf
 refine h4 c t s sp ht pk τ _ (by (first | lia | omega)) ?_
 conv=>whnf
 refine kLoopC_nil rfl ?_
 conv=>whnf
 refine kLoopC_cons rfl rfl ?_
 conv=>whnf
 refine kLoopC_nil rfl ?_
 exact z
theorem ea_2 (h13:ArT T e 2) (h4:FrT T) (l:List Row) (hc:c + 2≤10) (z:K (.tup [.tup ((eaTold 2 c e l).map tV),.list (eaSome 2 c),eaGuard 2 c e]) (stt t s (c + 2:Nat) sp ht pk τ)):kSs prog T f_Opener_each_of.body (enter f_Opener_each_of [.loc 8,e]) (stt t s c sp ht pk τ) (outK K):=by
 conv=>whnf
 refine oK_i _ (meth_i rfl rfl) ?_
 conv=>whnf
 refine h13 t s c sp ht pk τ _ ?_
 conv=>whnf
 refine kLoopC_cons rfl rfl ?_
 conv=>whnf
 refine oK_i _ (meth_i rfl rfl) ?_
 conv=>whnf
 refine h4 c t s sp ht pk τ _ (by (first | lia | omega)) ?_
 conv=>whnf
 refine kLoopC_cons rfl rfl ?_
 conv=>whnf
 refine oK_i _ (meth_i rfl rfl) ?_
 conv=>whnf
 refine h4 (c + 1) t s sp ht pk τ _ (by (first | lia | omega)) ?_
 conv=>whnf
 refine kLoopC_nil rfl ?_
 conv=>whnf
 refine kLoopC_cons rfl rfl ?_
 conv=>whnf
 refine kLoopC_cons rfl rfl ?_
 conv=>whnf
 refine kLoopC_nil rfl ?_
 conv=>whnf
 refine kLoopC_cons rfl rfl ?_
 conv=>whnf
 refine kLoopC_cons rfl rfl ?_
 conv=>whnf
 refine kLoopC_nil rfl ?_
 exact z
theorem ea_ok (hk:k∈[1,2]) (h:Ar m e k) (hn:m + 1≤n) (h1:1≤m):EaT ⟨callK prog n⟩ k e:=fun l c t s sp ht pk τ K hc z=>call_i (d:=f_Opener_each_of) (up1 hn) rfl rfl (by
 have h13:=h _ (dn1 hn)
 have h4:=fr_ok (Nat.le_trans h1 (dn1 hn))
 generalize TabK.mk (callK prog (n - 1)) = T at h13 h4 ⊢
 simp only [List.mem_cons,List.not_mem_nil,or_false] at hk
 rcases hk with rfl | rfl
 ·exact ea_1 h13 h4 l hc z
 ·exact ea_2 h13 h4 l hc z)
theorem gd_ok (hk:k∈[1,2]) (hn:1≤n) (z:K (eaForm k c e v) σ):callK prog n 46 [.loc 8,eaGuard k c e,v] σ K:=call_i (d:=f_Opener_guarded) hn rfl rfl (by
 simp only [List.mem_cons,List.not_mem_nil,or_false] at hk
 rcases hk with rfl | rfl <;> exact z)
noncomputable def reL (k c:Nat) (v:V):V:=match k with
 | 1=>joinV (varV (lab (c + 1))) v
 | _=>joinV (varV (lab (c + 2))) (joinV (varV (lab (c + 1))) v)
noncomputable def reR (k c:Nat) (v:V):V:=match k with
 | 1=>joinV v (varV (lab (c + 1)))
 | _=>joinV (joinV v (varV (lab (c + 2)))) (varV (lab (c + 1)))
end
end P1
end Mine.Internal
namespace Mine.Internal
open PySem
theorem dget_same {k:Nat} {v:V} {d:Env}:dget (.str k) (dset (.str k) v d) = some v:=dget_dset.trans (if_pos rfl)
theorem dget_other {k j:Nat} {v:V} (n:j ≠ k) {d:Env}:dget (.str j) (dset (.str k) v d) = dget (.str j) d:=dget_dset.trans (if_neg n)
namespace P1
noncomputable def Ag (c:Nat) (D D':Env):Prop:=∀ i,i≤c→dget (.str (lab i)) D' = dget (.str (lab i)) D
theorem Ag.le {c c':Nat} {D D':Env} (h:Ag c' D D') (e:c≤c'):Ag c D D':=fun i hi=>h i (Nat.le_trans hi e)
theorem Ag.trans {c:Nat} {D D' D'':Env} (h:Ag c D D') (g:Ag c D' D''):Ag c D D'':=fun i hi=>(g i hi).trans (h i hi)
theorem lab_neq {i j:Nat} (hi:i < j) (hj:j < 11):lab i ≠ lab j:=fun e=>absurd (lab_ne i (Nat.lt_trans hi hj) j hj e) (Nat.ne_of_lt hi)
theorem ag_set {c j:Nat} {D:Env} {v:V} (h:c < j) (hj:j < 11):Ag c D (dset (.str (lab j)) v D):=fun i hi=>dget_other (lab_neq (Nat.lt_of_le_of_lt hi h) hj)
noncomputable def Bnd (k c:Nat) (D:Env) (a:Row):Prop:=match k with
 | 1=>∃ x,a = [x]∧dget (.str (lab (c + 1))) D = some (rowV [x])
 | _=>∃ x y,a = [x,y]∧dget (.str (lab (c + 1))) D = some (rowV [x])∧dget (.str (lab (c + 2))) D = some (rowV [y])
structure QOk (d:Nat) (W:Ws) (vv:V) (w:Nat) (v:V) (c:Nat) (Q:Env→List Row→Prop):Prop where
 nf:∀ {D R},Q D R→R.Sublist (rowsW w)
 rw:∀ {D R},Q D R→Rw (d + 1) W vv v D R
 ag:∀ {D D' R},Ag c D D'→Q D R→Q D' R
section
variable {W:Ws} {d d' n k m c w:Nat} {vv v e f:V} {D D':Env} {R l:List Row} {Q:Env→List Row→Prop} {a:Row}
theorem Bnd.ag (hk:k∈[1,2]) (h:Bnd k c D a) (g:Ag (c + k) D D'):Bnd k c D' a:=by
 simp only [List.mem_cons,List.not_mem_nil,or_false] at hk
 rcases hk with rfl | rfl
 ·obtain ⟨x,e,h⟩:=h
  exact ⟨x,e,(g _ (Nat.le_refl _)).trans h⟩
 ·obtain ⟨x,y,e,h1,h2⟩:=h
  exact ⟨x,y,e,(g _ (Nat.le_succ _)).trans h1,(g _ (Nat.le_refl _)).trans h2⟩
theorem QOk.cc (h:QOk d W vv w v c Q) {c':Nat} (e:c≤c'):QOk d W vv w v c' Q:=⟨h.nf,h.rw,fun g q=>h.ag (g.le e) q⟩
noncomputable def QL (k c:Nat) (Q:Env→List Row→Prop) (D:Env) (R':List Row):Prop:=∃ R a,Q D R∧Bnd k c D a∧a∈rowsW k∧R' = restL a R
noncomputable def QR (k c:Nat) (Q:Env→List Row→Prop) (D:Env) (R':List Row):Prop:=∃ R a,Q D R∧Bnd k c D a∧a∈rowsW k∧R' = restR a R
theorem w2_parts {x y:Int} (h:[x,y]∈rowsW 2):[x]∈rowsW 1∧[y]∈rowsW 1:=by
 have w:∀ a∈rowsW 2,a.take 1∈rowsW 1∧a.drop 1∈rowsW 1:=by decide +kernel
 exact w _ h
theorem kns1 (hk:(k,w)∈kns):(k = 1∧(w = 2 ∨ w = 3)) ∨ (k = 2∧w = 3):=by
 simp only [kns,List.mem_cons,Prod.mk.injEq,List.not_mem_nil,or_false] at hk
 (first | lia | omega)
theorem QOk.left (h:QOk d W vv w v c Q) (hk:(k,w)∈kns):QOk (d + 2) W vv (w - k) (reL k c v) (c + k) (QL k c Q):=by
 have k12:k∈[1,2]:=by rcases kns1 hk with ⟨rfl,_⟩ | ⟨rfl,_⟩ <;> decide
 refine ⟨fun ⟨R,a,q,b,m,e⟩=>e ▸ restL_nf (h.nf q) hk m,fun ⟨R,a,q,b,m,e⟩=>?_,fun g ⟨R,a,q,b,m,e⟩=>⟨R,a,h.ag (g.le (Nat.le_add_right ..)) q,b.ag k12 g,m,e⟩⟩
 subst e
 rcases kns1 hk with ⟨rfl,_⟩ | ⟨rfl,rfl⟩
 ·obtain ⟨x,rfl,hx⟩:=b
  exact (rw_joinL (h.rw q) hx (h.nf q) hk m).up (Nat.le_succ _)
 ·obtain ⟨x,y,rfl,hx,hy⟩:=b
  obtain ⟨mx,my⟩:=w2_parts m
  have w:=rw_joinL (rw_joinL (h.rw q) hx (h.nf q) (by decide) mx) hy (restL_nf (h.nf q) (k:=1) (by decide) mx) (by decide) my
  rw [restL_2 fun r m=>rw_len ((h.nf q).subset m)] at w
  exact w
theorem QOk.right (h:QOk d W vv w v c Q) (hk:(k,w)∈kns):QOk (d + 2) W vv (w - k) (reR k c v) (c + k) (QR k c Q):=by
 have k12:k∈[1,2]:=by rcases kns1 hk with ⟨rfl,_⟩ | ⟨rfl,_⟩ <;> decide
 refine ⟨fun ⟨R,a,q,b,m,e⟩=>e ▸ restR_nf (h.nf q) hk m,fun ⟨R,a,q,b,m,e⟩=>?_,fun g ⟨R,a,q,b,m,e⟩=>⟨R,a,h.ag (g.le (Nat.le_add_right ..)) q,b.ag k12 g,m,e⟩⟩
 subst e
 rcases kns1 hk with ⟨rfl,_⟩ | ⟨rfl,rfl⟩
 ·obtain ⟨x,rfl,hx⟩:=b
  exact (rw_joinR (h.rw q) hx (h.nf q) hk m).up (Nat.le_succ _)
 ·obtain ⟨x,y,rfl,hx,hy⟩:=b
  obtain ⟨mx,my⟩:=w2_parts m
  have w:=rw_joinR (rw_joinR (h.rw q) hy (h.nf q) (by decide) my) hx (restR_nf (h.nf q) (k:=1) (by decide) my) (by decide) mx
  rw [restR_2 fun r m=>rw_len ((h.nf q).subset m)] at w
  exact w
noncomputable def intO:Option V→Int
 | some (.tup [.int x])=>x
 | _=>0
theorem all_map' {α β:Type} {f:α→β} {p:β→Bool} (l:List α):(l.map f).all p = l.all fun a=>p (f a):=List.all_map
theorem all_congr' {α:Type} {p q:α→Bool}:∀ {l:List α},(∀ a∈l,p a = q a)→l.all p = l.all q
 | [],_=>rfl
 | a :: l,h=>by rw [List.all_cons,List.all_cons,h a (List.mem_cons_self ..),all_congr' fun b m=>h b (List.mem_cons_of_mem _ m)]
theorem mem1 (h:a∈rowsW 1):∃ x,a = [x]:=of1 (rw_len h)
theorem sub_one {x:Row} {B:List Row}:subR [x] B = hasR B x:=by
 show (match !hasR B x with | true=>[x] | false=>[]).isEmpty = _
 cases hasR B x <;> rfl
theorem w2_mem {x y:Int} (hx:[x]∈rowsW 1) (hy:[y]∈rowsW 1):[x,y]∈rowsW 2:=by
 have w:∀ a∈rowsW 1,∀ b∈rowsW 1,a++b∈rowsW 2:=by decide +kernel
 exact w _ hx _ hy
theorem rows1_nf {x:Int} (h:[x]∈rowsW 1):([[x]]:List Row).Sublist (rowsW 1):=List.singleton_sublist.mpr h
theorem ea_sem {b:Row→Bool} (hk:k∈[1,2]) (he:∀ D,Rw (d + 2) W vv e D l) (hl:l.Sublist (rowsW k)) (hc:c + k≤10) (lD:D.length≤20) (hf:∀ D' a,Ag c D D'→D'.length≤D.length + k→a∈rowsW k→Bnd k c D' a→Ho (d + 3) W vv f D' (b a)) :
  Ho (d + 5) W vv (allV (.tup ((eaTold k c e l).map tV)) (eaForm k c e f)) D (l.all b):=by
 simp only [List.mem_cons,List.not_mem_nil,or_false] at hk
 rcases hk with rfl | rfl
 ·have w:=ho_all (d:=d + 4) (W:=W) (v:=vv) (D:=D) (f:=f) (ts:=[(lab (c + 1),e,l)]) (b:=fun D'=>b [intO (dget (.str (lab (c + 1))) D')]) (fun t m=>by
   rw [List.mem_singleton.mp m]
   exact ⟨fun D=>(he D).up (Nat.add_le_add_left (by decide) d),Nat.le_trans hl.length_le (by decide +kernel)⟩) (fun D' m=>?_) (Nat.le_trans lD (by decide)) (by show 1≤2; decide)
  ·have e1:chRun [(lab (c + 1),e,l)] [D] = l.map fun r=>dset (.str (lab (c + 1))) (rowV r) D:=List.append_nil _
   rw [e1,all_map',all_congr' (q:=b)] at w
   ·exact w
   ·intro a m
    obtain ⟨x,rfl⟩:=mem1 (hl.subset m)
    show b [intO (dget (.str (lab (c + 1))) (dset (.str (lab (c + 1))) (rowV [x]) D))] = _
    rw [dget_same]; rfl
  ·have m:D'∈(l.map fun r=>dset (.str (lab (c + 1))) (rowV r) D)++[]:=m
   rw [List.append_nil] at m
   obtain ⟨r,mr,rfl⟩:=List.mem_map.mp m
   obtain ⟨x,rfl⟩:=mem1 (hl.subset mr)
   have g:=hf _ [x] (ag_set (D:=D) (v:=rowV [x]) (Nat.lt_succ_self c) (by (first | lia | omega))) dset_len (hl.subset mr) ⟨x,rfl,dget_same⟩
   show Ho (d + 4) W vv f _ (b [intO (dget (.str (lab (c + 1))) (dset (.str (lab (c + 1))) (rowV [x]) D))])
   rw [dget_same]
   exact g.up (Nat.le_succ _)
 ·have ne:lab (c + 1) ≠ lab (c + 2):=lab_neq (Nat.lt_succ_self _) (by (first | lia | omega))
  have dec:∀ x y:Int,∀ D:Env,intO (dget (.str (lab (c + 1))) (dset (.str (lab (c + 2))) (rowV [y]) (dset (.str (lab (c + 1))) (rowV [x]) D))) = x∧intO (dget (.str (lab (c + 2))) (dset (.str (lab (c + 2))) (rowV [y]) (dset (.str (lab (c + 1))) (rowV [x]) D))) = y:=fun x y D=>by
   rw [dget_other ne,dget_same,dget_same]; exact ⟨rfl,rfl⟩
  have e1:chRun [(lab (c + 1),univV,rowsW 1),(lab (c + 2),univV,rowsW 1)] [D] = (((rowsW 1).map fun r=>dset (.str (lab (c + 1))) (rowV r) D).flatMap fun D=>(rowsW 1).map fun r=>dset (.str (lab (c + 2))) (rowV r) D):=by
   show (((rowsW 1).map fun r=>dset (.str (lab (c + 1))) (rowV r) D)++[]).flatMap _ = _
   rw [List.append_nil]; rfl
  have w:=ho_all (d:=d + 4) (W:=W) (v:=vv) (D:=D) (f:=eaForm 2 c e f) (ts:=[(lab (c + 1),univV,rowsW 1),(lab (c + 2),univV,rowsW 1)])
   (b:=fun D'=>!hasR l [intO (dget (.str (lab (c + 1))) D'),intO (dget (.str (lab (c + 2))) D')] || b [intO (dget (.str (lab (c + 1))) D'),intO (dget (.str (lab (c + 2))) D')]) (fun t m=>by
    simp only [List.mem_cons,List.not_mem_nil,or_false] at m
    rcases m with rfl | rfl <;> exact ⟨fun D=>rw_univ,by show (rowsW 1).length≤4; decide +kernel⟩) (fun D' m=>?_) (Nat.le_trans lD (by decide)) (by show 2≤2; decide)
  ·rw [e1] at w
   have ee:((((rowsW 1).map fun r=>dset (.str (lab (c + 1))) (rowV r) D).flatMap fun D=>(rowsW 1).map fun r=>dset (.str (lab (c + 2))) (rowV r) D).all fun D'=>!hasR l [intO (dget (.str (lab (c + 1))) D'),intO (dget (.str (lab (c + 2))) D')] || b [intO (dget (.str (lab (c + 1))) D'),intO (dget (.str (lab (c + 2))) D')]) = l.all b:=by
    rw [List.all_flatMap,all_map',Bool.eq_iff_iff,List.all_eq_true,List.all_eq_true]
    constructor
    ·intro h a m
     obtain ⟨x,y,rfl⟩:=of2 (rw_len (hl.subset m))
     obtain ⟨mx,my⟩:=w2_parts (hl.subset m)
     have q:=h [x] mx
     rw [all_map',List.all_eq_true] at q
     have q:=q [y] my
     rw [(dec x y D).1,(dec x y D).2,hasR_iff.mpr m] at q
     exact q
    ·intro h r mr
     obtain ⟨x,rfl⟩:=mem1 mr
     rw [all_map',List.all_eq_true]
     intro r2 mr2
     obtain ⟨y,rfl⟩:=mem1 mr2
     rw [(dec x y D).1,(dec x y D).2]
     cases q:hasR l [x,y] with
     | false=>rfl
     | true=>exact h _ (hasR_iff.mp q)
   rw [ee] at w
   exact w
  ·rw [e1] at m
   obtain ⟨D1,m1,m2⟩:=List.mem_flatMap.mp m
   obtain ⟨r,mr,rfl⟩:=List.mem_map.mp m1
   obtain ⟨r2,mr2,rfl⟩:=List.mem_map.mp m2
   obtain ⟨x,rfl⟩:=mem1 mr
   obtain ⟨y,rfl⟩:=mem1 mr2
   have bx:dget (.str (lab (c + 1))) (dset (.str (lab (c + 2))) (rowV [y]) (dset (.str (lab (c + 1))) (rowV [x]) D)) = some (rowV [x]):=(dget_other ne).trans dget_same
   have g:=hf (dset (.str (lab (c + 2))) (rowV [y]) (dset (.str (lab (c + 1))) (rowV [x]) D)) [x,y] ((ag_set (Nat.lt_succ_self c) (by (first | lia | omega))).trans (ag_set (Nat.lt_add_of_pos_right (by decide)) (by (first | lia | omega)))) (Nat.le_trans dset_len (Nat.succ_le_succ dset_len)) (w2_mem mr mr2) ⟨x,y,rfl,bx,dget_same⟩
   have pg:=rw_prod (d:=d + 1) (W:=W) (v:=vv) (rw_var (d:=d) bx) (rw_var (d:=d) (dget_same (k:=lab (c + 2)))) (rows1_nf mr) (rows1_nf mr2)
   have gi:=ho_in pg (he _) (by show 1≤84; decide)
   rw [show prodR [[x]] [[y]] = [[x,y]] from rfl,sub_one] at gi
   show Ho (d + 4) W vv (impV _ f) _ (!hasR l [intO _,intO _] || b [intO _,intO _])
   rw [(dec x y D).1,(dec x y D).2]
   exact ho_imp gi g
end
end P1
end Mine.Internal
namespace Mine.Internal
open PySem
theorem asLst_fa {σ:St} {v:V} {l:List V} (h:FA σ v l):asLst σ v = some l:=by
 rcases h with rfl | ⟨i,rfl,h⟩
 ·rfl
 ·show locL σ[i]? = _
  rw [h]; rfl
theorem addfa_i {σ:St} {v:V} {a l:List V} (h:FA σ v l) (hl:(a++l).length≤capL):binE σ .add (.list a) v = some (.list (a++l)):=by
 show (asLst σ v).bind (fun b=>(okLen (a++b)).map V.list) = _
 rw [asLst_fa h,Option.bind_some,okLen_i hl]; rfl
namespace P1
noncomputable def FsH (d:Nat) (W:Ws) (vv:V) (c:Nat) (Q:Env→List Row→Prop) (fs:List V) (mr:List Row→Bool):Prop:=∀ D R,Q D R→D.length≤c→∃ ps:List (V × Bool),ps.map (·.1) = fs∧(∀ p∈ps,Ho d W vv p.1 D p.2)∧ps.all (·.2) = mr R
noncomputable def MdT (T:TabK) (W:Ws) (vv nd:V) (w:Nat) (mr:List Row→Bool) (cn z h:Nat):Prop:=∀ (Q:Env→List Row→Prop) (d:Nat) (v:V) (c:Nat) (t s:SObj) (sp pk:Int) (τ:St) (K:V→St→Prop),10≤d→QOk d W vv w v c Q→c + cn≤10→sp + z≤20000 →
 (∀ (c':Nat) sp' pk' fs ρ,c≤c'∧c'≤c + cn→sp'≤sp + z→fs ≠ []∧fs.length≤2→FsH (d + h) W vv c Q fs mr→K (.loc (10 + τ.length)) (stt t s c' sp' 0 pk' (τ++(.list fs :: ρ))))→T.call 43 [.loc 8,v,nd,evV] (stt t s c sp 0 pk τ) K
noncomputable def Md (m:Nat) (W:Ws) (vv nd:V) (w:Nat) (mr:List Row→Bool) (cn z h:Nat):Prop:=∀ n,m≤n→MdT ⟨callK prog n⟩ W vv nd w mr cn z h
noncomputable def SdT (T:TabK) (W:Ws) (vv nd:V) (w:Nat) (im:Bool) (mr:List Row→Bool) (cn z h:Nat):Prop:=∀ (Q:Env→List Row→Prop) (d:Nat) (v:V) (c q:Nat) (t s:SObj) (sp pk:Int) (τ:St) (K:V→St→Prop),q∈mks→(pln q = false ∨ im = true)→10≤d→QOk d W vv w v c Q→c + cn≤10→sp + z≤20000 →
 (∀ (c':Nat) sp' pk' f ρ,c≤c'∧c'≤c + cn→sp'≤sp + z→(∀ D R,Q D R→D.length≤c→Ho (d + h + 3) W vv f D (fitB q R.length && mr R))→K f (stt t s c' sp' 0 pk' (τ++ρ)))→T.call 44 [.loc 8,v,.str q,nd,evV] (stt t s c sp 0 pk τ) K
section
variable {W:Ws} {d d' n k m c w cn z h i:Nat} {vv v e f nd:V} {D D':Env} {R l:List Row} {Q:Env→List Row→Prop} {a:Row} {t s o:SObj} {ct sp ht pk:Int} {τ τ' ρ:St} {K:V→St→Prop} {mr:List Row→Bool} {fs:List V} {im:Bool}
theorem tau_at:(stt t s ct sp ht pk τ)[10 + i]? = τ[i]?:=by
 delta stt
 show (t :: s :: (sgsO++(SObj.inst 1 (opF ct sp ht pk) :: SObj.dict [] :: τ)))[10 + i]? = _
 rw [Nat.add_comm]; rfl
theorem tau_set:(stt t s ct sp ht pk τ).set (10 + i) o = stt t s ct sp ht pk (τ.set i o):=by
 delta stt
 show (t :: s :: (sgsO++(SObj.inst 1 (opF ct sp ht pk) :: SObj.dict [] :: τ))).set (10 + i) o = _
 rw [Nat.add_comm]; rfl
theorem stt_push:stt t s ct sp ht pk τ++[o] = stt t s ct sp ht pk (τ++[o]):=by delta stt; rfl
theorem stt_len:(stt t s ct sp ht pk τ).length = 10 + τ.length:=by delta stt; rw [Nat.add_comm]; rfl
theorem at_mid {α:Type} {l r:List α} {x:α}:(l++x :: r)[l.length]? = some x:=by rw [List.getElem?_append_right (Nat.le_refl _),Nat.sub_self]; rfl
theorem set_mid {α:Type} {l r:List α} {x y:α}:(l++x :: r).set l.length y = l++y :: r:=by rw [List.set_append_right _ _ (Nat.le_refl _),Nat.sub_self]; rfl
theorem fa_stt {fs:List V}:FA (stt t s ct sp ht pk (τ++(.list fs :: ρ))) (.loc (10 + τ.length)) fs:=.inr ⟨_,rfl,tau_at.trans at_mid⟩
theorem allOf_ho {ps:List (V × Bool)} (h0:ps ≠ []) (hl:ps.length≤100) (h:∀ p∈ps,Ho d W vv p.1 D p.2):Ho (d + 1) W vv (allOf (ps.map (·.1))) D (ps.all (·.2)):=by
 cases ps with
 | nil=>exact absurd rfl h0
 | cons p ps =>
  cases ps with
  | nil =>
   have g:=(h p (List.mem_cons_self ..)).up (Nat.le_succ d)
   show Ho (d + 1) W vv p.1 D (p.2 && true)
   rw [Bool.and_true]; exact g
  | cons q ps=>exact ho_and h (Nat.le_trans hl (by decide))
theorem pln_mk (hq:k∈mks) (h:pln k = false):k∈[cOne,cLone,cSome]:=by
 simp only [mks,List.mem_cons,List.not_mem_nil,or_false] at hq
 rcases hq with rfl | rfl | rfl | rfl | rfl
 ·cases h
 ·cases h
 ·decide
 ·decide
 ·decide
theorem pln_fit (hq:k∈mks) (h:pln k = true):fitB k n = true:=by
 simp only [mks,List.mem_cons,List.not_mem_nil,or_false] at hq
 rcases hq with rfl | rfl | rfl | rfl | rfl
 ·rfl
 ·rfl
 ·cases h
 ·cases h
 ·cases h
theorem m0_ho {q:Nat} (hq:q∈mks) (e:pln q = false) (o:QOk d W vv w v c Q) (hQ:Q D R):Ho (d + 2) W vv (.tup [.str q,v]) D (fitB q R.length):=ho_mul (pln_mk hq e) (o.rw hQ) (nf_cap (o.nf hQ))
theorem sd_ok (him:Im m nd im) (hmd:im = true→Md m W vv nd w mr cn z h) (ht:im = false→∀ R,mr R = true) (h1:1≤m):∀ n,m + 1≤n→SdT ⟨callK prog n⟩ W vv nd w im mr cn z h:=fun n hn Q d v c q t s sp pk τ K hq hp hd o hc hz zz =>
 call_i (d:=f_Opener_side) (up1 hn) rfl rfl (by
  have h41:=him _ (dn1 hn)
  have h43:=fun e=>hmd e _ (dn1 hn)
  have h1c:∀ (σ:St) (v:V) (l:List V) (K:V→St→Prop),FA σ v l→l ≠ []→l.length≤1000→K (allOf l) σ→TabK.call ⟨callK prog (n - 1)⟩ 1 [v] σ K:=fun σ v l K fa h0 hl hk=>all_ok (Nat.le_trans h1 (dn1 hn)) fa h0 hl hk
  generalize TabK.mk (callK prog (n - 1)) = T at h41 h43 h1c ⊢
  have tail:∀ (fs0:List V) (ρ0:REnv),fs0.length≤1→(fs0 ≠ [] ∨ im = true)→(∀ D R,Q D R→D.length≤c→∃ ps:List (V × Bool),ps.map (·.1) = fs0∧(∀ p∈ps,Ho (d + 2) W vv p.1 D p.2)∧ps.all (·.2) = fitB q R.length) →
    kSs prog T [.ret (.call 1 [(.bin .add (.var 5) (.ite (.meth (.var 0) 39659329125711092606061701497258847366907394231631973 [(.var 3)]) (.meth (.var 0) 4462132008400113337266168758534245 [(.var 1),(.var 3),(.var 4)]) (.list [])))])] [some (.loc 8),some v,some (.str q),some nd,some evV,some (.list fs0)] (stt t s c sp 0 pk τ) (outK K):=by
   intro fs0 ρ0 l0 h0 hf
   conv=>whnf
   refine oK_i _ (meth_i rfl rfl) ?_
   conv=>whnf
   refine h41 t s c sp 0 pk τ _ ?_
   cases im with
   | false =>
    have n0:fs0 ≠ []:=h0.elim id fun e=>(nomatch e)
    conv=>whnf
    refine oK_i _ (addl_i (a:=fs0) (b:=[]) (by rw [List.append_nil]; exact Nat.le_trans l0 (by decide))) ?_
    rw [List.append_nil]
    refine h1c _ _ _ _ (.inl rfl) n0 (Nat.le_trans l0 (by decide)) ?_
    have k:=zz c sp pk (allOf fs0) [] ⟨Nat.le_refl _,Nat.le_add_right ..⟩ (by (first | lia | omega)) fun D R hQ lD=>?_
    ·rw [List.append_nil] at k
     exact k
    ·obtain ⟨ps,e,hp,ha⟩:=hf D R hQ lD
     have g:=allOf_ho (ps:=ps) (fun e'=>n0 (by rw [← e,e']; rfl)) (by rw [← List.length_map (as:=ps) (f:=(·.1)),e]; exact Nat.le_trans l0 (by decide)) hp
     rw [e,ha] at g
     rw [ht rfl,Bool.and_true]
     exact g.up (by (first | lia | omega))
   | true =>
    conv=>whnf
    refine oK_i _ (meth_i rfl rfl) ?_
    conv=>whnf
    refine h43 rfl Q d v c t s sp pk τ _ hd o hc hz fun c' sp' pk' fs ρ hc' hs' hfs hF=>?_
    conv=>whnf
    have lf:(fs0++fs).length≤3:=by rw [List.length_append]; exact Nat.add_le_add l0 hfs.2
    refine oK_i _ (addfa_i fa_stt (Nat.le_trans lf (by decide))) ?_
    have n0:fs0++fs ≠ []:=fun e=>hfs.1 (List.append_eq_nil_iff.mp e).2
    refine h1c _ _ _ _ (.inl rfl) n0 (Nat.le_trans lf (by decide)) ?_
    refine zz c' sp' pk' (allOf (fs0++fs)) (.list fs :: ρ) hc' hs' fun D R hQ lD=>?_
    obtain ⟨ps,e,hp,ha⟩:=hf D R hQ lD
    obtain ⟨ps2,e2,hp2,ha2⟩:=hF D R hQ lD
    have em:(ps++ps2).map (·.1) = fs0++fs:=by rw [List.map_append,e,e2]
    have g:=allOf_ho (ps:=ps++ps2) (d:=d + h + 2) (fun e'=>n0 (by rw [← em,e']; rfl)) (by rw [← List.length_map (as:=ps++ps2) (f:=(·.1)),em]; exact Nat.le_trans lf (by decide)) fun p m=>(List.mem_append.mp m).elim (fun m=>(hp p m).up (by (first | lia | omega))) fun m=>(hp2 p m).up (by (first | lia | omega))
    rw [em,List.all_append,ha,ha2] at g
    exact g
  conv=>whnf
  cases e:pln q with
  | false =>
   refine iK_t (b:=!pln q) (by rw [e]; rfl) ?_
   exact tail [.tup [.str q,v]] [] (Nat.le_refl 1) (.inl (List.cons_ne_nil _ _)) fun D R hQ lD=>⟨[(.tup [.str q,v],fitB q R.length)],rfl,List.forall_mem_cons.mpr ⟨m0_ho hq e o hQ,List.forall_mem_nil _⟩,Bool.and_true _⟩
  | true =>
   refine iK_f (b:=!pln q) (by rw [e]; rfl) ?_
   exact tail [] [] (Nat.zero_le 1) (.inr (hp.elim (fun x=>by rw [e] at x; cases x) id)) fun D R hQ lD=>⟨[],rfl,List.forall_mem_nil _,(pln_fit hq e).symm⟩)
end
end P1
end Mine.Internal
namespace Mine.Internal
open PySem
namespace P1
noncomputable def mdE (v nd e1 e2:V) (p:Nat) (x7 x8 x9 x10 x11:Option V):REnv:=[some (.loc 8),some v,some nd,some evV,some e1,some e2,some (.loc p),x7,x8,x9,x10,x11]
section
variable {W:Ws} {d n k m w cn z h i:Nat} {vv v e1 e2 nd nd' f:V} {D D':Env} {R l:List Row} {Q:Env→List Row→Prop} {t s:SObj} {sp pk:Int} {τ ρ:St} {T:TabK} {m0 g:List Row→Bool} {fs:List V} {im:Bool} {ml mr c c0:Nat} {kt:Out→Prop} {x7 x8 x9 x10 x11:Option V} {X:List S}
theorem con_mid {ct ht:Int}:isCon (.loc (10 + τ.length)) (stt t s ct sp ht pk (τ++(.list fs :: ρ))) = true:=by
 show conO (stt t s ct sp ht pk (τ++(.list fs :: ρ)))[10 + τ.length]? = true
 rw [tau_at,at_mid]; rfl
theorem app_mid {ct ht:Int} (hl:fs.length≤10):mthE .app (.loc (10 + τ.length)) f (stt t s ct sp ht pk (τ++(.list fs :: ρ))) = some (stt t s ct sp ht pk (τ++(.list (fs++[f]) :: ρ))):=by
 rw [app_i (tau_at.trans at_mid) (by rw [List.length_append]; exact Nat.le_trans (Nat.add_le_add_right hl 1) (by decide)),tau_set,set_mid]
noncomputable def hB1:List S:=[.asgT [7,8,9] (.meth (.var 0) 8677204331838147416323293475933322739815 [(.var 4)]),
   .asg (.name 10) (.var 1),
   .for_ (.one 11) (.val (.var 8)) [.asg (.name 10) (.tup [(.cst (.str 986901300524892553327)),(.var 11),(.var 10)])],
   .mth .app (.var 6) (.tup [(.cst (.str 431008786677869)),(.var 7),(.meth (.var 0) 8847346326594962108587803811764427030629 [(.var 9),(.meth (.var 0) 1069911622468295983206 [(.var 10),(.item (.var 2) (.cst (.int 3))),(.item (.var 2) (.cst (.int 5))),(.var 3)])])])]
noncomputable def hS1:S:=.ite (.or [(.cmp .notIn (.item (.var 2) (.cst (.int 3))) (.tup [(.cst (.str 0)),(.cst (.str 510173609197685))])),(.meth (.var 0) 39659329125711092606061701497258847366907394231631973 [(.item (.var 2) (.cst (.int 5)))])]) hB1 []
noncomputable def al1 (q:Nat) (l:List Row) (m0:List Row→Bool) (R:List Row):Bool:=l.all fun a=>fitB q (restL a R).length && m0 (restL a R)
theorem half1B (hk:(k,w)∈kns) (h45:EaT T k e1) (h44:SdT T W vv nd' (w - k) im m0 cn z h) (h46:∀ c (f:V) (σ:St) (K:V→St→Prop),K (eaForm k c e1 f) σ→T.call 46 [.loc 8,eaGuard k c e1,f] σ K)
  (he:∀ D,Rw 10 W vv e1 D l) (hl:l.Sublist (rowsW k)) (hq:mr∈mks) (hp:pln mr = false ∨ im = true) (hd:10≤d) (o:QOk d W vv w v c0 Q) (h0:c0≤c) (hc:c + (k + cn)≤10) (hz:sp + z≤20000) (lf:fs.length≤2) {dd:Nat} (hdd:d + (h + 7)≤dd) (F0:FsH dd W vv c0 Q fs g)
  (zz:∀ x7 x8 x9 x10 x11 (c':Nat) sp' pk' fs' ρ',c≤c'∧c'≤c + (k + cn)→sp'≤sp + z→fs'.length≤fs.length + 1→fs' ≠ []→FsH dd W vv c0 Q fs' (fun R=>g R && al1 mr l m0 R)→kt (.next (mdE v (arV ml mr nd nd') e1 e2 (10 + τ.length) x7 x8 x9 x10 x11) (stt t s c' sp' 0 pk' (τ++(.list fs' :: ρ'))))) :
  kSs prog T hB1 (mdE v (arV ml mr nd nd') e1 e2 (10 + τ.length) x7 x8 x9 x10 x11) (stt t s c sp 0 pk (τ++(.list fs :: ρ))) kt:=by
 have k12:k∈[1,2]:=by rcases kns1 hk with ⟨rfl,_⟩ | ⟨rfl,_⟩ <;> decide
 have tail:∀ y11,kSs prog T [.mth .app (.var 6) (.tup [(.cst (.str 431008786677869)),(.var 7),(.meth (.var 0) 8847346326594962108587803811764427030629 [(.var 9),(.meth (.var 0) 1069911622468295983206 [(.var 10),(.item (.var 2) (.cst (.int 3))),(.item (.var 2) (.cst (.int 5))),(.var 3)])])])]
   (mdE v (arV ml mr nd nd') e1 e2 (10 + τ.length) (some (.tup ((eaTold k c e1 l).map tV))) (some (.list (eaSome k c))) (some (eaGuard k c e1)) (some (reL k c v)) y11) (stt t s (c + k:Nat) sp 0 pk (τ++(.list fs :: ρ))) kt:=by
  intro y11
  conv=>whnf
  refine bK_i con_mid ?_
  conv=>whnf
  refine oK_i _ (meth_i rfl rfl) ?_
  conv=>whnf
  refine oK_i _ (meth_i rfl rfl) ?_
  conv=>whnf
  refine h44 (QL k c Q) (d + 2) (reL k c v) (c + k) mr t s sp pk _ _ hq hp (by (first | lia | omega)) ((o.cc h0).left hk) (by (first | lia | omega)) hz fun c' sp' pk' f ρ1 hc' hs' hf=>?_
  conv=>whnf
  refine h46 c f _ _ ?_
  conv=>whnf
  rw [List.append_assoc,List.cons_append]
  refine oK_i _ (app_mid (Nat.le_trans lf (by decide))) ?_
  refine zz _ _ _ _ _ c' sp' pk' _ _ ⟨by (first | lia | omega),by (first | lia | omega)⟩ hs' (Nat.le_of_eq List.length_append) (fun e=>by cases (List.append_eq_nil_iff.mp e).2) fun D R hQ lD=>?_
  obtain ⟨ps,ep,hps,ha⟩:=F0 D R hQ lD
  have sem:=ea_sem (d:=d + 2 + h) (W:=W) (vv:=vv) (e:=e1) (f:=f) (D:=D) (c:=c) (l:=l) (k:=k) (b:=fun a=>fitB mr (restL a R).length && m0 (restL a R)) k12 (fun D=>(he D).up (by (first | lia | omega))) hl (by (first | lia | omega)) (by (first | lia | omega)) fun D' a ag lD' ma hb=>hf D' (restL a R) ⟨R,a,o.ag (ag.le h0) hQ,hb,ma,rfl⟩ (by (first | lia | omega))
  refine ⟨ps++[(_,al1 mr l m0 R)],by rw [List.map_append,ep]; rfl,fun p m=>(List.mem_append.mp m).elim (hps p) fun m=>by rw [List.mem_singleton.mp m]; exact sem.up (by (first | lia | omega)),?_⟩
  rw [List.all_append,ha]
  show (g R && (al1 mr l m0 R && true)) = _
  rw [Bool.and_true]
 conv=>whnf
 refine oK_i _ (meth_i rfl rfl) ?_
 conv=>whnf
 refine h45 l c t s sp 0 pk _ _ (by (first | lia | omega)) ?_
 simp only [List.mem_cons,List.not_mem_nil,or_false] at k12
 rcases k12 with rfl | rfl
 ·exact tail _
 ·exact tail _
theorem half1 (hk:(k,w)∈kns) (h41:ImT T nd' im) (h45:EaT T k e1) (h44:SdT T W vv nd' (w - k) im m0 cn z h) (h46:∀ c (f:V) (σ:St) (K:V→St→Prop),K (eaForm k c e1 f) σ→T.call 46 [.loc 8,eaGuard k c e1,f] σ K)
  (he:∀ D,Rw 10 W vv e1 D l) (hl:l.Sublist (rowsW k)) (hq:mr∈mks) (ht:im = false→∀ R,m0 R = true) (hd:10≤d) (o:QOk d W vv w v c0 Q) (h0:c0≤c) (hc:c + (k + cn)≤10) (hz:sp + z≤20000) (lf:fs.length≤2) {dd:Nat} (hdd:d + (h + 7)≤dd) (F0:FsH dd W vv c0 Q fs g)
  (zz:∀ x7 x8 x9 x10 x11 (c':Nat) sp' pk' fs' ρ',c≤c'∧c'≤c + (k + cn)→sp'≤sp + z→fs'.length≤fs.length + 1→(fs ≠ [] ∨ (pln mr = false ∨ im = true)→fs' ≠ [])→FsH dd W vv c0 Q fs' (fun R=>g R && al1 mr l m0 R)→kSs prog T X (mdE v (arV ml mr nd nd') e1 e2 (10 + τ.length) x7 x8 x9 x10 x11) (stt t s c' sp' 0 pk' (τ++(.list fs' :: ρ'))) kt) :
  kSs prog T (hS1 :: X) (mdE v (arV ml mr nd nd') e1 e2 (10 + τ.length) x7 x8 x9 x10 x11) (stt t s c sp 0 pk (τ++(.list fs :: ρ))) kt:=by
 have yes:pln mr = false ∨ im = true→kSs prog T hB1 (mdE v (arV ml mr nd nd') e1 e2 (10 + τ.length) x7 x8 x9 x10 x11) (stt t s c sp 0 pk (τ++(.list fs :: ρ))) (fun o=>match o with
   | .next ρ σ=>kSs prog T X ρ σ kt
   | .ret v σ=>kt (.ret v σ)):=fun hp=>half1B hk h45 h44 h46 he hl hq hp hd o h0 hc hz lf hdd F0 fun x7 x8 x9 x10 x11 c' sp' pk' fs' ρ' h1 h2 h3 h4 h5=>zz x7 x8 x9 x10 x11 c' sp' pk' fs' ρ' h1 h2 h3 (fun _=>h4) h5
 conv=>whnf
 cases e:pln mr with
 | false=>exact iK_t (b:=!pln mr) (by rw [e]; rfl) (yes (.inl e))
 | true =>
  refine iK_f (b:=!pln mr) (by rw [e]; rfl) ?_
  conv=>whnf
  refine oK_i _ (meth_i rfl rfl) ?_
  conv=>whnf
  refine h41 t s c sp 0 pk _ _ ?_
  cases im with
  | true=>exact yes (.inr rfl)
  | false =>
   refine zz x7 x8 x9 x10 x11 c sp pk fs ρ ⟨Nat.le_refl _,Nat.le_add_right ..⟩ (by (first | lia | omega)) (Nat.le_succ _) (fun h=>h.elim id fun h=>h.elim (fun q=>by rw [e] at q; cases q) fun q=>nomatch q) fun D R hQ lD=>?_
   obtain ⟨ps,ep,hps,ha⟩:=F0 D R hQ lD
   refine ⟨ps,ep,hps,?_⟩
   have w:al1 mr l m0 R = true:=List.all_eq_true.mpr fun a _=>by rw [pln_fit hq e,ht rfl]; rfl
   show _ = (g R && al1 mr l m0 R)
   rw [ha,w,Bool.and_true]
noncomputable def hB2:List S:=[.asgT [7,8,9] (.meth (.var 0) 8677204331838147416323293475933322739815 [(.var 5)]),
   .asg (.name 10) (.var 1),
   .for_ (.one 11) (.val (.rev (.var 8))) [.asg (.name 10) (.tup [(.cst (.str 986901300524892553327)),(.var 10),(.var 11)])],
   .mth .app (.var 6) (.tup [(.cst (.str 431008786677869)),(.var 7),(.meth (.var 0) 8847346326594962108587803811764427030629 [(.var 9),(.meth (.var 0) 1069911622468295983206 [(.var 10),(.item (.var 2) (.cst (.int 2))),(.item (.var 2) (.cst (.int 4))),(.var 3)])])])]
noncomputable def hS2:S:=.ite (.or [(.cmp .notIn (.item (.var 2) (.cst (.int 2))) (.tup [(.cst (.str 0)),(.cst (.str 510173609197685))])),(.meth (.var 0) 39659329125711092606061701497258847366907394231631973 [(.item (.var 2) (.cst (.int 4)))])]) hB2 []
noncomputable def al2 (q:Nat) (l:List Row) (m0:List Row→Bool) (R:List Row):Bool:=l.all fun a=>fitB q (restR a R).length && m0 (restR a R)
theorem half2B (hk:(k,w)∈kns) (h45:EaT T k e2) (h44:SdT T W vv nd (w - k) im m0 cn z h) (h46:∀ c (f:V) (σ:St) (K:V→St→Prop),K (eaForm k c e2 f) σ→T.call 46 [.loc 8,eaGuard k c e2,f] σ K)
  (he:∀ D,Rw 10 W vv e2 D l) (hl:l.Sublist (rowsW k)) (hq:ml∈mks) (hp:pln ml = false ∨ im = true) (hd:10≤d) (o:QOk d W vv w v c0 Q) (h0:c0≤c) (hc:c + (k + cn)≤10) (hz:sp + z≤20000) (lf:fs.length≤2) {dd:Nat} (hdd:d + (h + 7)≤dd) (F0:FsH dd W vv c0 Q fs g)
  (zz:∀ x7 x8 x9 x10 x11 (c':Nat) sp' pk' fs' ρ',c≤c'∧c'≤c + (k + cn)→sp'≤sp + z→fs'.length≤fs.length + 1→fs' ≠ []→FsH dd W vv c0 Q fs' (fun R=>g R && al2 ml l m0 R)→kt (.next (mdE v (arV ml mr nd nd') e1 e2 (10 + τ.length) x7 x8 x9 x10 x11) (stt t s c' sp' 0 pk' (τ++(.list fs' :: ρ'))))) :
  kSs prog T hB2 (mdE v (arV ml mr nd nd') e1 e2 (10 + τ.length) x7 x8 x9 x10 x11) (stt t s c sp 0 pk (τ++(.list fs :: ρ))) kt:=by
 have k12:k∈[1,2]:=by rcases kns1 hk with ⟨rfl,_⟩ | ⟨rfl,_⟩ <;> decide
 have tail:∀ y11,kSs prog T [.mth .app (.var 6) (.tup [(.cst (.str 431008786677869)),(.var 7),(.meth (.var 0) 8847346326594962108587803811764427030629 [(.var 9),(.meth (.var 0) 1069911622468295983206 [(.var 10),(.item (.var 2) (.cst (.int 2))),(.item (.var 2) (.cst (.int 4))),(.var 3)])])])]
   (mdE v (arV ml mr nd nd') e1 e2 (10 + τ.length) (some (.tup ((eaTold k c e2 l).map tV))) (some (.list (eaSome k c))) (some (eaGuard k c e2)) (some (reR k c v)) y11) (stt t s (c + k:Nat) sp 0 pk (τ++(.list fs :: ρ))) kt:=by
  intro y11
  conv=>whnf
  refine bK_i con_mid ?_
  conv=>whnf
  refine oK_i _ (meth_i rfl rfl) ?_
  conv=>whnf
  refine oK_i _ (meth_i rfl rfl) ?_
  conv=>whnf
  refine h44 (QR k c Q) (d + 2) (reR k c v) (c + k) ml t s sp pk _ _ hq hp (by (first | lia | omega)) ((o.cc h0).right hk) (by (first | lia | omega)) hz fun c' sp' pk' f ρ1 hc' hs' hf=>?_
  conv=>whnf
  refine h46 c f _ _ ?_
  conv=>whnf
  rw [List.append_assoc,List.cons_append]
  refine oK_i _ (app_mid (Nat.le_trans lf (by decide))) ?_
  refine zz _ _ _ _ _ c' sp' pk' _ _ ⟨by (first | lia | omega),by (first | lia | omega)⟩ hs' (Nat.le_of_eq List.length_append) (fun e=>by cases (List.append_eq_nil_iff.mp e).2) fun D R hQ lD=>?_
  obtain ⟨ps,ep,hps,ha⟩:=F0 D R hQ lD
  have sem:=ea_sem (d:=d + 2 + h) (W:=W) (vv:=vv) (e:=e2) (f:=f) (D:=D) (c:=c) (l:=l) (k:=k) (b:=fun a=>fitB ml (restR a R).length && m0 (restR a R)) k12 (fun D=>(he D).up (by (first | lia | omega))) hl (by (first | lia | omega)) (by (first | lia | omega)) fun D' a ag lD' ma hb=>hf D' (restR a R) ⟨R,a,o.ag (ag.le h0) hQ,hb,ma,rfl⟩ (by (first | lia | omega))
  refine ⟨ps++[(_,al2 ml l m0 R)],by rw [List.map_append,ep]; rfl,fun p m=>(List.mem_append.mp m).elim (hps p) fun m=>by rw [List.mem_singleton.mp m]; exact sem.up (by (first | lia | omega)),?_⟩
  rw [List.all_append,ha]
  show (g R && (al2 ml l m0 R && true)) = _
  rw [Bool.and_true]
 conv=>whnf
 refine oK_i _ (meth_i rfl rfl) ?_
 conv=>whnf
 refine h45 l c t s sp 0 pk _ _ (by (first | lia | omega)) ?_
 simp only [List.mem_cons,List.not_mem_nil,or_false] at k12
 rcases k12 with rfl | rfl
 ·exact tail _
 ·exact tail _
theorem half2 (hk:(k,w)∈kns) (h41:ImT T nd im) (h45:EaT T k e2) (h44:SdT T W vv nd (w - k) im m0 cn z h) (h46:∀ c (f:V) (σ:St) (K:V→St→Prop),K (eaForm k c e2 f) σ→T.call 46 [.loc 8,eaGuard k c e2,f] σ K)
  (he:∀ D,Rw 10 W vv e2 D l) (hl:l.Sublist (rowsW k)) (hq:ml∈mks) (ht:im = false→∀ R,m0 R = true) (hd:10≤d) (o:QOk d W vv w v c0 Q) (h0:c0≤c) (hc:c + (k + cn)≤10) (hz:sp + z≤20000) (lf:fs.length≤2) {dd:Nat} (hdd:d + (h + 7)≤dd) (F0:FsH dd W vv c0 Q fs g)
  (zz:∀ x7 x8 x9 x10 x11 (c':Nat) sp' pk' fs' ρ',c≤c'∧c'≤c + (k + cn)→sp'≤sp + z→fs'.length≤fs.length + 1→(fs ≠ [] ∨ (pln ml = false ∨ im = true)→fs' ≠ [])→FsH dd W vv c0 Q fs' (fun R=>g R && al2 ml l m0 R)→kSs prog T X (mdE v (arV ml mr nd nd') e1 e2 (10 + τ.length) x7 x8 x9 x10 x11) (stt t s c' sp' 0 pk' (τ++(.list fs' :: ρ'))) kt) :
  kSs prog T (hS2 :: X) (mdE v (arV ml mr nd nd') e1 e2 (10 + τ.length) x7 x8 x9 x10 x11) (stt t s c sp 0 pk (τ++(.list fs :: ρ))) kt:=by
 have yes:pln ml = false ∨ im = true→kSs prog T hB2 (mdE v (arV ml mr nd nd') e1 e2 (10 + τ.length) x7 x8 x9 x10 x11) (stt t s c sp 0 pk (τ++(.list fs :: ρ))) (fun o=>match o with
   | .next ρ σ=>kSs prog T X ρ σ kt
   | .ret v σ=>kt (.ret v σ)):=fun hp=>half2B hk h45 h44 h46 he hl hq hp hd o h0 hc hz lf hdd F0 fun x7 x8 x9 x10 x11 c' sp' pk' fs' ρ' h1 h2 h3 h4 h5=>zz x7 x8 x9 x10 x11 c' sp' pk' fs' ρ' h1 h2 h3 (fun _=>h4) h5
 conv=>whnf
 cases e:pln ml with
 | false=>exact iK_t (b:=!pln ml) (by rw [e]; rfl) (yes (.inl e))
 | true =>
  refine iK_f (b:=!pln ml) (by rw [e]; rfl) ?_
  conv=>whnf
  refine oK_i _ (meth_i rfl rfl) ?_
  conv=>whnf
  refine h41 t s c sp 0 pk _ _ ?_
  cases im with
  | true=>exact yes (.inr rfl)
  | false =>
   refine zz x7 x8 x9 x10 x11 c sp pk fs ρ ⟨Nat.le_refl _,Nat.le_add_right ..⟩ (by (first | lia | omega)) (Nat.le_succ _) (fun h=>h.elim id fun h=>h.elim (fun q=>by rw [e] at q; cases q) fun q=>nomatch q) fun D R hQ lD=>?_
   obtain ⟨ps,ep,hps,ha⟩:=F0 D R hQ lD
   refine ⟨ps,ep,hps,?_⟩
   have w:al2 ml l m0 R = true:=List.all_eq_true.mpr fun a _=>by rw [pln_fit hq e,ht rfl]; rfl
   show _ = (g R && al2 ml l m0 R)
   rw [ha,w,Bool.and_true]
end
end P1
end Mine.Internal
namespace Mine.Internal
open PySem
theorem ext_fa {σ:St} {j:Nat} {acc news:List V} {v:V} (h:σ[j]? = some (.list acc)) (hv:asList σ v = some news) (hl:(acc++news).length≤capL):mthE .ext (.loc j) v σ = some (σ.set j (.list (acc++news))):=by
 show mthO σ v j .ext σ[j]? = _
 rw [h]
 show (asList σ v).bind (fun k=>(okLen (acc++k)).map fun l=>σ.set j (.list l)) = _
 rw [hv,Option.bind_some,okLen_i hl]; rfl
namespace P1
structure Nd (W:Ws) (m r w:Nat) (nd e:V) (l:List Row) (im:Bool) (mr:List Row→Bool) (z cn zm h:Nat):Prop where
 nf:l.Sublist (rowsW w)
 tu:Tu m W nd l
 mq:Mr m W nd w mr
 ex:Ex m m z nd e
 rw:∀ vv D,Rw r W vv e D l
 ar:Ar m e w
 imd:Im m nd im
 tr:im = false→∀ R,mr R = true
 md:im = true→∀ vv,Md m W vv nd w mr cn zm h
section
variable {W:Ws} {d n k m r w i j cn z h cn' z' zm zm' h':Nat} {vv v e e' nd nd' f:V} {R l l':List Row} {Q:Env→List Row→Prop} {t s:SObj} {sp pk:Int} {τ ρ:St} {T:TabK} {m1 m2:List Row→Bool} {im im':Bool} {ml mr c:Nat} {K:V→St→Prop}
theorem md_arrow (hl:ml∈mks) (hr:mr∈mks) (k1:(i,i + j)∈kns) (k2:(j,i + j)∈kns) (a:Nd W m r i nd e l im m1 z cn zm h) (b:Nd W m r j nd' e' l' im' m2 z' cn' zm' h') (hm:1≤m) (hm2:m≤90) (hr10:r≤10) (hi:imA ml mr im im' = true) :
  Md (m + 2) W vv (arV ml mr nd nd') (i + j) (mrA ml mr l l' m1 m2) (i + cn' + (j + cn)) (z + z' + (zm' + zm)) (h + h' + 7):=fun n hn Q d v c t s sp pk τ K hd o hc hz zz =>
 call_i (d:=f_Opener_marked) (up1 hn) rfl rfl (by
  have i12:i∈[1,2]:=by rcases kns1 k1 with ⟨rfl,_⟩ | ⟨rfl,_⟩ <;> decide
  have j12:j∈[1,2]:=by rcases kns1 k2 with ⟨rfl,_⟩ | ⟨rfl,_⟩ <;> decide
  have hn1:m + 1≤n - 1:=dn1 hn
  have hn0:m≤n - 1:=Nat.le_trans (Nat.le_succ m) hn1
  have x1:=a.ex _ hn0
  have x2:=b.ex _ hn0
  have y1:=a.imd _ hn0
  have y2:=b.imd _ hn0
  have e1:=ea_ok i12 a.ar hn1 hm
  have e2:=ea_ok j12 b.ar hn1 hm
  have s1:=sd_ok a.imd (fun q=>a.md q vv) a.tr hm _ hn1
  have s2:=sd_ok b.imd (fun q=>b.md q vv) b.tr hm _ hn1
  have g1:∀ c (f:V) (σ:St) (K:V→St→Prop),K (eaForm i c e f) σ→TabK.call ⟨callK prog (n - 1)⟩ 46 [.loc 8,eaGuard i c e,f] σ K:=fun c f σ K hk=>gd_ok i12 (Nat.le_trans hm hn0) hk
  have g2:∀ c (f:V) (σ:St) (K:V→St→Prop),K (eaForm j c e' f) σ→TabK.call ⟨callK prog (n - 1)⟩ 46 [.loc 8,eaGuard j c e',f] σ K:=fun c f σ K hk=>gd_ok j12 (Nat.le_trans hm hn0) hk
  generalize TabK.mk (callK prog (n - 1)) = T at x1 x2 y1 y2 e1 e2 s1 s2 g1 g2 ⊢
  have tail:∀ sp1 pk1,sp1≤sp + (z + z':Nat)→kSs prog T [hS1,hS2,.ret (.var 6)] (mdE v (arV ml mr nd nd') e e' (10 + τ.length) none none none none none) (stt t s c sp1 0 pk1 (τ++[.list []])) (outK K):=by
   intro sp1 pk1 hs1
   refine half1 (W:=W) (vv:=vv) (Q:=Q) (c0:=c) (d:=d) (dd:=d + (h + h' + 7)) (g:=fun _=>true) (ρ:=[]) (X:=[hS2,.ret (.var 6)]) k1 y2 e1 (by rw [Nat.add_sub_cancel_left]; exact s2) g1 (fun D=>(a.rw vv D).up hr10) a.nf hr b.tr hd o (Nat.le_refl _) (by (first | lia | omega)) (by (first | lia | omega)) (Nat.zero_le _) (by (first | lia | omega)) (fun D R _ _=>⟨[],rfl,List.forall_mem_nil _,rfl⟩) fun x7 x8 x9 x10 x11 c1 sp2 pk2 fs1 ρ1 hc1 hs2 l1 n1 F1=>?_
   refine half2 (W:=W) (vv:=vv) (Q:=Q) (c0:=c) (d:=d) (dd:=d + (h + h' + 7)) (ρ:=ρ1) (X:=[.ret (.var 6)]) k2 y1 e2 (by rw [Nat.add_sub_cancel]; exact s1) g2 (fun D=>(b.rw vv D).up hr10) b.nf hl a.tr hd o hc1.1 (by (first | lia | omega)) (by (first | lia | omega)) (Nat.le_trans l1 (by decide)) (by (first | lia | omega)) F1 fun x7 x8 x9 x10 x11 c2 sp3 pk3 fs2 ρ2 hc2 hs3 l2 n2 F2=>?_
   have ne:fs2 ≠ []:=n2 (by
    delta imA at hi
    cases q1:pln ml with
    | false=>exact .inr (.inl rfl)
    | true=>cases q2:pln mr with
     | false=>exact .inl (n1 (.inr (.inl q2)))
     | true =>
      rw [q1,q2] at hi
      cases im with
      | true=>exact .inr (.inr rfl)
      | false=>exact .inl (n1 (.inr (.inr hi))))
   exact zz c2 sp3 pk3 fs2 ρ2 ⟨by (first | lia | omega),by (first | lia | omega)⟩ (by (first | lia | omega)) ⟨ne,Nat.le_trans l2 (Nat.succ_le_succ l1)⟩ F2
  rw [show f_Opener_marked.body = .asgTs true [4,5,6] [(.meth (.var 0) 940784479923051954291 [(.item (.var 2) (.cst (.int 4))),(.var 3)]),(.meth (.var 0) 940784479923051954291 [(.item (.var 2) (.cst (.int 5))),(.var 3)]),(.mut (.list []))] :: [hS1,hS2,.ret (.var 6)] from rfl]
  generalize [hS1,hS2,S.ret (.var 6)] = X at tail ⊢
  conv=>whnf
  refine oK_i _ (meth_i rfl rfl) ?_
  conv=>whnf
  refine x1 t s c sp 0 pk τ _ (by (first | lia | omega)) (by (first | lia | omega)) fun sp1 pk1 hs1=>?_
  conv=>whnf
  refine oK_i _ (meth_i rfl rfl) ?_
  conv=>whnf
  refine x2 t s c sp1 0 pk1 τ _ (by (first | lia | omega)) (by (first | lia | omega)) fun sp2 pk2 hs2=>?_
  conv=>whnf
  rw [stt_len,stt_push]
  exact tail sp2 pk2 (by (first | lia | omega)))
theorem nd_arrow (hl:ml∈mks) (hr:mr∈mks) (hw:(i,j)∈[(1,1),(1,2),(2,1)]) (a:Nd W m r i nd e l im m1 z cn zm h) (b:Nd W m r j nd' e' l' im' m2 z' cn' zm' h') (hm:5≤m) (hm2:m≤90) (hr10:r≤9) :
  Nd W (m + 2) (r + 1) (i + j) (arV ml mr nd nd') (prodV e e') (prodR l l') (imA ml mr im im') (mrA ml mr l l' m1 m2) (z + z' + 1) (i + cn' + (j + cn)) (z + z' + (zm' + zm)) (h + h' + 7) :=
 have k1:(i,i + j)∈kns:=by
  have w:∀ p∈[(1,1),(1,2),(2,1)],(p.1,p.1 + p.2)∈kns:=by decide
  exact w _ hw
 have k2:(j,i + j)∈kns:=by
  have w:∀ p∈[(1,1),(1,2),(2,1)],(p.2,p.1 + p.2)∈kns:=by decide
  exact w _ hw
 {
  nf:=prod_nf a.nf b.nf hw
  tu:=(tu_arrow a.tu b.tu a.nf b.nf).up (Nat.le_succ _)
  mq:=(mr_arrow hl hr a.tu b.tu a.mq b.mq a.nf b.nf k1 k2 (by (first | lia | omega))).up (Nat.le_succ _)
  ex:=(ex_arrow a.ex b.ex).up (Nat.le_refl _) (Nat.le_succ _) (Nat.le_refl _)
  rw:=fun vv D=>rw_prod (a.rw vv D) (b.rw vv D) a.nf b.nf
  ar:=(ar_prod a.ar b.ar).up (Nat.le_succ _)
  imd:=(im_arrow a.imd b.imd).up (Nat.le_succ _)
  tr:=fun q R=>by
   delta imA at q
   obtain ⟨q1,q⟩:=Bool.or_eq_false_iff.mp q
   obtain ⟨q2,q⟩:=Bool.or_eq_false_iff.mp q
   obtain ⟨q3,q4⟩:=Bool.or_eq_false_iff.mp q
   rw [Bool.not_eq_false'] at q1 q2
   refine (Bool.and_eq_true _ _).mpr ⟨?_,?_⟩
   ·exact List.all_eq_true.mpr fun x _=>by rw [pln_fit hr q2,b.tr q4]; rfl
   ·exact List.all_eq_true.mpr fun x _=>by rw [pln_fit hl q1,a.tr q3]; rfl
  md:=fun q vv=>md_arrow hl hr k1 k2 a b (by (first | lia | omega)) hm2 (by (first | lia | omega)) q }
theorem nd_name {q:Nat} (hs:(q,k)∈sgs) (hx:Ex 11 11 5 (nmV q) (relV k)):Nd W 11 3 1 (nmV q) (relV k) (r1 (W.s k)) false (fun _=>true) 5 0 0 0 :=
 {
  nf:=W.os k
  tu:=(tu_name (d:=0) hs).up (by decide)
  mq:=(mr_name (d:=0)).up (by decide)
  ex:=hx
  rw:=fun vv D=>(rw_rel (d:=0) (by
   have w:∀ p∈sgs,p.2∈[0,1,2,3]:=by decide
   exact w _ hs)).up (by decide)
  ar:=ar_rel.up (by decide)
  imd:=im_name.up (by decide)
  tr:=fun _ _=>rfl
  md:=fun q=>nomatch q }
theorem nd_bin {p q:Nat} {i j:Nat} (h1:(p,i)∈sgs) (h2:(q,j)∈sgs) (x1:Ex 9 1 1 (nmV p) (relV i)) (x2:Ex 9 1 1 (nmV q) (relV j)) :
  Nd W 11 3 1 (binV (nmV p) (nmV q)) (unionV (relV i) (relV j)) (rowsI.filter (hasR (r1 (W.s i)++r1 (W.s j)))) false (fun _=>true) 5 0 0 0 :=
 have w:∀ p∈sgs,p.2∈[0,1,2,3]:=by decide
 {
  nf:=sort_w fun r m=>(List.mem_append.mp m).elim (fun m=>(W.os i).subset m) fun m=>(W.os j).subset m
  tu:=(tu_bin (tu_name (d:=0) h1) (tu_name (d:=0) h2) (W.os i) (W.os j)).up (by decide)
  mq:=(mr_bin (d:=0)).up (by decide)
  ex:=(ex_bin x1 x2 (by decide)).up (by decide) (by decide) (by decide)
  rw:=fun vv D=>(rw_union (rw_rel (d:=0) (w _ h1)) (rw_rel (d:=0) (w _ h2)) (W.os i) (W.os j)).up (by decide)
  ar:=(ar_union ar_rel).up (by decide)
  imd:=im_bin.up (by decide)
  tr:=fun _ _=>rfl
  md:=fun q=>nomatch q }
end
end P1
end Mine.Internal
namespace Mine.Internal
open PySem
namespace P1
section
variable {W:Ws} {d n k m r w i j cn z h zm:Nat} {v e nd f:V} {R l:List Row} {t s:SObj} {sp pk:Int} {τ ρ:St} {T:TabK} {mr:List Row→Bool} {im:Bool} {c:Nat} {K:V→St→Prop}
theorem bd_ok (a:Nd W m r w nd e l im mr z cn zm h) (hR:R.Sublist (rowsW w)) (hm:1≤m) (hm2:m≤90) (hr:r≤10) (hn:m + 1≤n) (hc:c + cn≤10) (hz:sp + (z + zm:Nat)≤20000)
  (zz:∀ (c':Nat) sp' pk' f τ',c'≤c + cn→sp'≤sp + (z + zm:Nat)→Ho (12 + h) W (.list (rowsV R)) f [] (subR R l && mr R)→K f (stt t s c' sp' 0 pk' τ')):callK prog n 42 [.loc 8,relV 4,nd,evV] (stt t s c sp 0 pk τ) K :=
 call_i (d:=f_Opener_bounded) (up1 hn) rfl rfl (by
  have x1:=a.ex _ (dn1 hn)
  have y1:=a.imd _ (dn1 hn)
  have g1:=fun q=>a.md q (.list (rowsV R)) _ (dn1 hn)
  have h1:∀ (σ:St) (v:V) (l:List V) (K:V→St→Prop),FA σ v l→l ≠ []→l.length≤1000→K (allOf l) σ→TabK.call ⟨callK prog (n - 1)⟩ 1 [v] σ K:=fun σ v l K fa h0 hl hk=>all_ok (Nat.le_trans hm (dn1 hn)) fa h0 hl hk
  generalize TabK.mk (callK prog (n - 1)) = T at x1 y1 g1 h1 ⊢
  have h0:Ho 11 W (.list (rowsV R)) (inV (relV 4) e) [] (subR R l):=ho_in (rw_val (d:=9) rfl) ((a.rw _ _).up hr) (nf_cap hR)
  rw [show f_Opener_bounded.body = .asg (.name 4) (.mut (.list [(.tup [(.cst (.str 222298223)),(.var 1),(.meth (.var 0) 940784479923051954291 [(.var 2),(.var 3)])])])) :: f_Opener_bounded.body.tail from rfl]
  have tail:∀ sp1 pk1,sp1≤sp + z→kSs prog T f_Opener_bounded.body.tail [some (.loc 8),some (relV 4),some nd,some evV,some (.loc (10 + τ.length))] (stt t s c sp1 0 pk1 (τ++[.list [inV (relV 4) e]])) (outK K):=by
   intro sp1 pk1 hs1
   conv=>whnf
   refine oK_i _ (meth_i rfl rfl) ?_
   conv=>whnf
   refine y1 t s c sp1 0 pk1 _ _ ?_
   cases im with
   | false =>
    conv=>whnf
    refine h1 _ _ [inV (relV 4) e] _ fa_stt (List.cons_ne_nil _ _) (by show 1≤1000; decide) ?_
    refine zz c sp1 pk1 _ _ (Nat.le_add_right ..) (by (first | lia | omega)) ?_
    rw [a.tr rfl,Bool.and_true]
    exact h0.up (by (first | lia | omega))
   | true =>
    conv=>whnf
    refine bK_i con_mid ?_
    conv=>whnf
    refine oK_i _ (meth_i rfl rfl) ?_
    conv=>whnf
    have q:QOk 10 W (.list (rowsV R)) w (relV 4) c (fun _ R'=>R' = R):=⟨fun e=>e ▸ hR,fun e=>e ▸ rw_val rfl,fun _ e=>e⟩
    refine g1 rfl _ 10 (relV 4) c t s sp1 pk1 _ _ (Nat.le_refl _) q hc (by (first | lia | omega)) fun c' sp' pk' fs ρ hc' hs' hfs hF=>?_
    have fa:=fa_stt (t:=t) (s:=s) (ct:=(c':Nat)) (sp:=sp') (ht:=0) (pk:=pk') (τ:=τ++[.list [inV (relV 4) e]]) (ρ:=ρ) (fs:=fs)
    have at0:(stt t s (c':Nat) sp' 0 pk' (τ++[SObj.list [inV (relV 4) e]]++(.list fs :: ρ)))[10 + τ.length]? = some (.list [inV (relV 4) e]):=by
     rw [tau_at,List.append_assoc]; exact at_mid
    have lf:([inV (relV 4) e]++fs).length≤3:=by rw [List.length_append]; exact Nat.add_le_add_left hfs.2 1
    refine oK_i _ (ext_fa at0 fa.src (Nat.le_trans lf (by decide))) ?_
    conv=>whnf
    rw [tau_set,List.append_assoc,List.singleton_append,set_mid]
    refine h1 _ _ ([inV (relV 4) e]++fs) _ fa_stt (by intro x; cases x) (Nat.le_trans lf (by decide)) ?_
    refine zz c' sp' pk' _ _ hc'.2 (by (first | lia | omega)) ?_
    obtain ⟨ps,ep,hps,ha⟩:=hF [] R rfl (Nat.zero_le _)
    have em:((inV (relV 4) e,subR R l) :: ps).map (·.1) = [inV (relV 4) e]++fs:=congrArg (inV (relV 4) e :: ·) ep
    have g:=allOf_ho (ps:=(inV (relV 4) e,subR R l) :: ps) (d:=11 + h) (W:=W) (vv:=.list (rowsV R)) (D:=[]) (List.cons_ne_nil _ _) (by rw [← List.length_map (f:=(·.1)),em]; exact Nat.le_trans lf (by decide)) (List.forall_mem_cons.mpr ⟨h0.up (by (first | lia | omega)),fun p m=>(hps p m).up (by (first | lia | omega))⟩)
    rw [em,List.all_cons,ha] at g
    exact g.up (by (first | lia | omega))
  generalize f_Opener_bounded.body.tail = X at tail ⊢
  conv=>whnf
  refine oK_i _ (meth_i rfl rfl) ?_
  conv=>whnf
  refine x1 t s c sp 0 pk τ _ (by (first | lia | omega)) (by (first | lia | omega)) fun sp1 pk1 hs1=>?_
  conv=>whnf
  rw [stt_len,stt_push]
  exact tail sp1 pk1 hs1)
end
end P1
end Mine.Internal
namespace Mine.Internal
open PySem
namespace P1
noncomputable def leaves:List V:=[nmV 66,nmV 67,nmV 68,nmV 84,binV (nmV 66) (nmV 67),binV (nmV 67) (nmV 68)]
noncomputable def NdOk (w:Nat) (nd:V):Prop:=∀ W:Ws,∃ e l im mr z cn zm h,Nd W 15 5 w nd e l im mr z cn zm h∧z≤20∧cn≤5∧zm≤30∧h≤14
section
variable {L:List V} {k n m r w z cn zm h m' r':Nat} {σ:St} {T:TabK} {K:V→St→Prop} {nd e a b:V} {W:Ws} {l:List Row} {im:Bool} {mr:List Row→Bool}
theorem Nd.up (a:Nd W m r w nd e l im mr z cn zm h) (h1:m≤m') (h2:r≤r'):Nd W m' r' w nd e l im mr z cn zm h :=
 ⟨a.nf,a.tu.up h1,a.mq.up h1,a.ex.up h1 h1 (Nat.le_refl _),fun vv D=>(a.rw vv D).up h2,a.ar.up h1,a.imd.up h1,a.tr,fun q vv n hn=>a.md q vv n (Nat.le_trans h1 hn)⟩
theorem leaf_nd:∀ nd∈leaves,∀ W,∃ e l,Nd W 11 3 1 nd e l false (fun _=>true) 5 0 0 0:=by
 have x:∀ {q:Nat × Int},q∈[(66,0),(67,1),(68,2)]→Ex 11 11 5 (nmV q.1) (relV q.2):=fun h=>(ex_name h).up (by decide) (by decide) (by decide)
 refine List.forall_mem_cons.mpr ⟨fun W=>⟨_,_,nd_name (k:=0) (by decide) (x (q:=(66,0)) (by decide))⟩,?_⟩
 refine List.forall_mem_cons.mpr ⟨fun W=>⟨_,_,nd_name (k:=1) (by decide) (x (q:=(67,1)) (by decide))⟩,?_⟩
 refine List.forall_mem_cons.mpr ⟨fun W=>⟨_,_,nd_name (k:=2) (by decide) (x (q:=(68,2)) (by decide))⟩,?_⟩
 refine List.forall_mem_cons.mpr ⟨fun W=>⟨_,_,nd_name (k:=3) (by decide) (ex_S.up (by decide) (by decide) (by decide))⟩,?_⟩
 refine List.forall_mem_cons.mpr ⟨fun W=>⟨_,_,nd_bin (i:=0) (j:=1) (by decide) (by decide) (ex_name (q:=(66,0)) (by decide)) (ex_name (q:=(67,1)) (by decide))⟩,?_⟩
 exact List.forall_mem_cons.mpr ⟨fun W=>⟨_,_,nd_bin (i:=1) (j:=2) (by decide) (by decide) (ex_name (q:=(67,1)) (by decide)) (ex_name (q:=(68,2)) (by decide))⟩,List.forall_mem_nil _⟩
theorem nd_2 {p q:Nat} (hp:p∈mks) (hq:q∈mks) (ha:a∈leaves) (hb:b∈leaves) (W:Ws):∃ e l im mr,Nd W 13 4 2 (arV p q a b) e l im mr 11 2 10 7:=by
 obtain ⟨e1,l1,n1⟩:=leaf_nd a ha W
 obtain ⟨e2,l2,n2⟩:=leaf_nd b hb W
 exact ⟨_,_,_,_,nd_arrow hp hq (by decide) n1 n2 (by decide) (by decide) (by decide)⟩
theorem nd_3l {p q p' q':Nat} {x:V} (hp:p∈mks) (hq:q∈mks) (hp':p'∈mks) (hq':q'∈mks) (ha:a∈leaves) (hb:b∈leaves) (hx:x∈leaves):NdOk 3 (arV p q a (arV p' q' b x)):=fun W=>by
 obtain ⟨e1,l1,n1⟩:=leaf_nd a ha W
 obtain ⟨e2,l2,i2,m2,n2⟩:=nd_2 hp' hq' hb hx W
 exact ⟨_,_,_,_,_,_,_,_,nd_arrow hp hq (by decide) (n1.up (by decide) (by decide)) n2 (by decide) (by decide) (by decide),by decide,by decide,by decide,by decide⟩
theorem nd_3r {p q p' q':Nat} {x:V} (hp:p∈mks) (hq:q∈mks) (hp':p'∈mks) (hq':q'∈mks) (ha:a∈leaves) (hb:b∈leaves) (hx:x∈leaves):NdOk 3 (arV p q (arV p' q' a b) x):=fun W=>by
 obtain ⟨e1,l1,n1⟩:=leaf_nd x hx W
 obtain ⟨e2,l2,i2,m2,n2⟩:=nd_2 hp' hq' ha hb W
 exact ⟨_,_,_,_,_,_,_,_,nd_arrow hp hq (by decide) n2 (n1.up (by decide) (by decide)) (by decide) (by decide) (by decide),by decide,by decide,by decide,by decide⟩
theorem nd_2k {p q:Nat} (hp:p∈mks) (hq:q∈mks) (ha:a∈leaves) (hb:b∈leaves):NdOk 2 (arV p q a b):=fun W=>by
 obtain ⟨e,l,i,m,n⟩:=nd_2 hp hq ha hb W
 exact ⟨_,_,_,_,_,_,_,_,n.up (by decide) (by decide),by decide,by decide,by decide,by decide⟩
noncomputable def LfT (T:TabK) (L:List V):Prop:=∀ (k:Nat) (σ:St) (K:V→St→Prop),k≤300→(∀ nd∈leaves,K nd (tapeO L (k + 1) :: σ))→T.call 76 [.loc 0] (tapeO L k :: σ) K
theorem lf_ok (hL:okL L) (hn:2≤n):LfT ⟨callK prog n⟩ L:=fun k σ K hk z=>call_i (d:=f_law_leaf) (up1 hn) rfl rfl (by
 have h75:=dr_ok hL (dn1 hn)
 generalize TabK.mk (callK prog (n - 1)) = T at h75 ⊢
 conv=>whnf
 refine h75 k 6 σ _ hk (by decide) fun v hv _=>?_
 have hv:v = 0 ∨ v = 1 ∨ v = 2 ∨ v = 3 ∨ v = 4 ∨ v = 5:=by (first | lia | omega)
 rcases hv with rfl | rfl | rfl | rfl | rfl | rfl
 ·exact z (nmV 66) (by simp only [leaves,List.mem_cons,true_or])
 ·exact z (nmV 67) (by simp only [leaves,List.mem_cons,true_or,or_true])
 ·exact z (nmV 68) (by simp only [leaves,List.mem_cons,true_or,or_true])
 ·exact z (nmV 84) (by simp only [leaves,List.mem_cons,true_or,or_true])
 ·exact z (binV (nmV 66) (nmV 67)) (by simp only [leaves,List.mem_cons,true_or,or_true])
 ·exact z (binV (nmV 67) (nmV 68)) (by simp only [leaves,List.mem_cons,true_or,or_true]))
theorem mark_i {v:Nat} (hv:(v:Int) < 6):∃ q∈mks,∀ σ:St,itemE σ (.list [.str 0,.str 510173609197685,.str 492581442027622,.str 1005348044598612590694,.str 1069911648856593924198,.str 492581442027622]) (.int v) = some (.str q):=by
 have hv:v = 0 ∨ v = 1 ∨ v = 2 ∨ v = 3 ∨ v = 4 ∨ v = 5:=by (first | lia | omega)
 rcases hv with rfl | rfl | rfl | rfl | rfl | rfl
 ·exact ⟨0,by decide,fun σ=>rfl⟩
 ·exact ⟨cSet,by decide,fun σ=>rfl⟩
 ·exact ⟨cOne,by decide,fun σ=>rfl⟩
 ·exact ⟨cLone,by decide,fun σ=>rfl⟩
 ·exact ⟨cSome,by decide,fun σ=>rfl⟩
 ·exact ⟨cOne,by decide,fun σ=>rfl⟩
noncomputable def AwT (T:TabK) (L:List V):Prop:=∀ (k:Nat) (a b:V) (σ:St) (K:V→St→Prop),k≤290→(∀ p∈mks,∀ q∈mks,K (arV p q a b) (tapeO L (k + 2) :: σ))→T.call 77 [.loc 0,a,b] (tapeO L k :: σ) K
theorem aw_ok (hL:okL L) (hn:2≤n):AwT ⟨callK prog n⟩ L:=fun k a b σ K hk z=>call_i (d:=f_law_arrow) (up1 hn) rfl rfl (by
 have h75:=dr_ok hL (dn1 hn)
 generalize TabK.mk (callK prog (n - 1)) = T at h75 ⊢
 conv=>whnf
 refine h75 k 6 σ _ (by (first | lia | omega)) (by decide) fun v hv _=>?_
 obtain ⟨p,hp,e1⟩:=mark_i hv
 conv=>whnf
 refine oK_i _ (e1 _) ?_
 conv=>whnf
 refine h75 (k + 1) 6 σ _ (by (first | lia | omega)) (by decide) fun v hv _=>?_
 obtain ⟨q,hq,e2⟩:=mark_i hv
 conv=>whnf
 refine oK_i _ (e2 _) ?_
 exact z p hp q hq)
noncomputable def NoT (T:TabK) (L:List V):Prop:=∀ (k:Nat) (σ:St) (K:V→St→Prop),k≤270→(∀ w nd k',w = 2 ∨ w = 3→NdOk w nd→k≤k'∧k'≤k + 8→(w = 3→k' = k + 8)→K nd (tapeO L k' :: σ))→T.call 78 [.loc 0] (tapeO L k :: σ) K
theorem no_ok (hL:okL L) (hn:3≤n):NoT ⟨callK prog n⟩ L:=fun k σ K hk z=>call_i (d:=f_law_node) (up1 hn) rfl rfl (by
 have h75:=dr_ok (n:=n - 1) hL (by (first | lia | omega))
 have h76:=lf_ok (n:=n - 1) hL (dn1 hn)
 have h77:=aw_ok (n:=n - 1) hL (dn1 hn)
 generalize TabK.mk (callK prog (n - 1)) = T at h75 h76 h77 ⊢
 conv=>whnf
 refine h75 k 3 σ _ (by (first | lia | omega)) (by decide) fun v hv _=>?_
 conv=>whnf
 refine h76 (k + 1) σ _ (by (first | lia | omega)) fun a ha=>?_
 conv=>whnf
 refine h76 (k + 1 + 1) σ _ (by (first | lia | omega)) fun b hb=>?_
 have hv:v = 0 ∨ v = 1 ∨ v = 2:=by (first | lia | omega)
 rcases hv with rfl | rfl | rfl
 ·conv=>whnf
  refine h77 (k + 1 + 1 + 1) a b σ _ (by (first | lia | omega)) fun p hp q hq=>?_
  exact z 2 _ (k + 1 + 1 + 1 + 2) (.inl rfl) (nd_2k hp hq ha hb) (by (first | lia | omega)) (fun e=>nomatch e)
 ·conv=>whnf
  refine h76 (k + 1 + 1 + 1) σ _ (by (first | lia | omega)) fun x hx=>?_
  conv=>whnf
  refine h77 (k + 1 + 1 + 1 + 1) b x σ _ (by (first | lia | omega)) fun p hp q hq=>?_
  conv=>whnf
  refine h77 (k + 1 + 1 + 1 + 1 + 2) a _ σ _ (by (first | lia | omega)) fun p' hp' q' hq'=>?_
  exact z 3 _ (k + 1 + 1 + 1 + 1 + 2 + 2) (.inr rfl) (nd_3l hp' hq' hp hq ha hb hx) (by (first | lia | omega)) (fun e=>by (first | lia | omega))
 ·conv=>whnf
  refine h76 (k + 1 + 1 + 1) σ _ (by (first | lia | omega)) fun x hx=>?_
  conv=>whnf
  refine h77 (k + 1 + 1 + 1 + 1) a b σ _ (by (first | lia | omega)) fun p hp q hq=>?_
  conv=>whnf
  refine h77 (k + 1 + 1 + 1 + 1 + 2) _ x σ _ (by (first | lia | omega)) fun p' hp' q' hq'=>?_
  exact z 3 _ (k + 1 + 1 + 1 + 1 + 2 + 2) (.inr rfl) (nd_3r hp' hq' hp hq ha hb hx) (by (first | lia | omega)) (fun e=>by (first | lia | omega)))
end
end P1
end Mine.Internal
namespace Mine.Internal
open PySem
namespace P1
noncomputable def cnt (p:Nat→Bool) (m:Nat):Nat:=((List.range m).filter p).length
theorem cnt_succ {p:Nat→Bool} {m:Nat}:cnt p (m + 1) = cnt p m + (if p m = true then 1 else 0):=by
 delta cnt
 rw [List.range_succ,List.filter_append,List.length_append]
 by_cases h:p m = true
 ·rw [if_pos h,List.filter_cons_of_pos h]; rfl
 ·rw [if_neg h,List.filter_cons_of_neg h]; rfl
theorem cnt_le {p:Nat→Bool} {m:Nat}:cnt p m≤m:=Nat.le_trans (List.length_filter_le ..) (Nat.le_of_eq List.length_range)
theorem cnt_gap {p:Nat→Bool} {a r:Nat}:∀ m,cnt p (a + m) + ((List.range m).filter fun j=>!p (a + j)).length≤a + m
 | 0=>Nat.le_trans (Nat.le_of_eq (Nat.add_zero _)) cnt_le
 | m + 1=>by
  have ih:=cnt_gap (p:=p) (a:=a) (r:=r) m
  have e:cnt p (a + (m + 1)) = cnt p (a + m) + (if p (a + m) = true then 1 else 0):=cnt_succ
  rw [e,List.range_succ,List.filter_append,List.length_append]
  cases h:p (a + m) with
  | true =>
   rw [if_pos rfl,List.filter_cons_of_neg (by rw [h]; decide)]
   show _ + 1 + (_ + 0)≤_
   (first | lia | omega)
  | false =>
   rw [if_neg (by decide),List.filter_cons_of_pos (by rw [h]; rfl)]
   show _ + 0 + (_ + 1)≤_
   (first | lia | omega)
theorem cnt_mono {p:Nat→Bool} {a:Nat}:∀ m,cnt p (a + m)≤cnt p a + m
 | 0=>Nat.le_refl _
 | m + 1=>by
  have e:cnt p (a + (m + 1)) = cnt p (a + m) + (if p (a + m) = true then 1 else 0):=cnt_succ
  have ih:=cnt_mono (p:=p) (a:=a) m
  rw [e]
  split <;> (first | lia | omega)
noncomputable def fN (k n:Nat):Nat:=(3 * k * k + 8 * k + 5 * n + 2) % 73
theorem fT_N (k n:Nat):fT k n = (fN k n:Nat):=by
 delta fT fN
 rw [Int.natCast_emod]
 push_cast
 rfl
noncomputable def oddN (k n:Nat):Bool:=fN k n % 2 == 1
theorem odd_win:∀ n < 64,∀ s < 28,2≤((List.range 12).filter fun j=>oddN (63 + s + j) n).length:=by decide +kernel
noncomputable def pkD (n k:Nat) (j:Nat):Bool:=!(decide (n≤k + j) && oddN (k + j) n)
noncomputable def pk2 (j:Nat):Bool:=j % 3 != 1
theorem pk2_62:∀ m,m≤64→cnt pk2 m≤62:=fun m h=>by
 by_cases e:m≤62
 ·exact Nat.le_trans cnt_le e
 ·have e:m = 63 ∨ m = 64:=by (first | lia | omega)
  rcases e with rfl | rfl <;> decide +kernel
theorem pkD_62 {n k:Nat} (hn:n≤63) (h1:12≤k) (h2:k≤90):∀ m,m≤64→cnt (pkD n k) m≤62:=fun m h=>by
 by_cases e:m≤62
 ·exact Nat.le_trans cnt_le e
 ·obtain ⟨a,s,ea,hs,h51⟩:∃ a s,k + a = 63 + s∧s < 28∧a≤51:=by
   by_cases q:k≤63
   ·exact ⟨63 - k,0,by (first | lia | omega),by (first | lia | omega),by (first | lia | omega)⟩
   ·exact ⟨0,k - 63,by (first | lia | omega),by (first | lia | omega),by (first | lia | omega)⟩
  have w:=odd_win n (Nat.lt_succ_of_le hn) s hs
  have g:=cnt_gap (p:=pkD n k) (a:=a) (r:=0) 12
  have ee:((List.range 12).filter fun j=>!pkD n k (a + j)).length = ((List.range 12).filter fun j=>oddN (63 + s + j) n).length:=by
   refine congrArg List.length (List.filter_congr fun j _=>?_)
   delta pkD
   rw [Bool.not_not,← Nat.add_assoc,ea,decide_eq_true (show n≤63 + s + j by (first | lia | omega)),Bool.true_and]
  rw [ee] at g
  obtain ⟨b,rfl⟩:∃ b,m = a + 12 + b:=⟨m - (a + 12),by (first | lia | omega)⟩
  have g2:=cnt_mono (p:=pkD n k) (a:=a + 12) b
  (first | lia | omega)
noncomputable def enV:Nat→List Row→List V
 | _,[]=>[]
 | i,r :: E=>.tup [.int i,rowV r] :: enV (i + 1) E
theorem en_zip:∀ (E:List Row) (i:Nat),(((List.range' i (rowsV E).length).zip (rowsV E)).map fun (q:Nat × V)=>V.tup [.int q.1,q.2]) = enV i E
 | [],_=>rfl
 | r :: E,i=>by
  show V.tup [.int i,rowV r] :: (((List.range' (i + 1) (rowsV E).length).zip (rowsV E)).map fun (q:Nat × V)=>V.tup [.int q.1,q.2]) = _
  rw [en_zip E (i + 1)]; rfl
theorem en_all (E:List Row):(((List.range (rowsV E).length).zip (rowsV E)).map fun (q:Nat × V)=>V.tup [.int q.1,q.2]) = enV 0 E:=by
 rw [List.range_eq_range']; exact en_zip E 0
theorem nodV_rows:∀ {F:List Row},F.Nodup→nodV (rowsV F) = true
 | [],_=>rfl
 | a :: F,h=>by
  have h:=List.nodup_cons.mp h
  show (!((rowsV F).any (V.beq (rowV a))) && nodV (rowsV F)) = true
  rw [nodV_rows h.2,Bool.and_true]
  have e:(rowsV F).any (V.beq (rowV a)) = false:=by
   rw [List.any_map,List.any_eq_false]
   intro b m q
   exact h.1 (of_decide_eq_true ((beq_rowz a b).symm.trans q) ▸ m)
  rw [e]; rfl
theorem sorted_i {σ:St} {v:V} {F:List Row} {w:Nat} (fa:FA σ v (rowsV F)) (h:∀ r∈F,r∈rowsW w) (nd:F.Nodup) (hl:F.length < 64):biE σ .sorted [v] = some (.list (rowsV (rowsI.filter (hasR F)))):=by
 show (asLst σ v).bind (fun l=>if ((l.all rowOk && nodV l) && decide (l.length < 64)) = true then some (V.list (sortB l)) else none) = _
 have e:(asLst σ v) = some (rowsV F):=by
  rcases fa with rfl | ⟨i,rfl,h⟩
  ·rfl
  ·show locL σ[i]? = _
   rw [h]; rfl
 rw [e,Option.bind_some,if_pos,sort_eq]
 rw [show (rowsV F).all rowOk = true from List.all_eq_true.mpr fun y q=>(List.mem_map.mp q).elim fun a q=>q.2 ▸ rowOk_m (rw_I (h a q.1)),nodV_rows nd,decide_eq_true (by rw [List.length_map]; exact hl)]; rfl
end P1
end Mine.Internal
namespace Mine.Internal
open PySem
namespace P1
noncomputable def vB:List S:=[.ite (.or [(.and [(.cmp .lt (.var 3) (.cst (.int 2))),(.cmp .eq (.call 75 [(.var 0),(.bin .add (.cst (.int 2)) (.bin .mul (.cst (.int 2)) (.var 3)))]) (.cst (.int 0)))]),(.and [(.cmp .eq (.var 3) (.cst (.int 2))),(.cmp .ne (.bin .mod (.var 6) (.cst (.int 3))) (.cst (.int 1)))])]) [.mth .app (.var 4) (.var 7)] []]
noncomputable def vaE (nd:V) (y p:Nat) (E:List Row) (x6 x7:Option V):REnv:=[some (.loc 0),some nd,some (.loc 1),some (.int y),some (.loc p),some (.list (rowsV E)),x6,x7,none,none]
section
variable {L:List V} {k n m w i y:Nat} {σ ρ:St} {s o:SObj} {T:TabK} {K:V→St→Prop} {nd e a b v:V} {W:Ws} {E F P:List Row} {r:Row} {kt:Out→Prop} {x6 x7:Option V} {pk:Nat→Bool} {sp:Nat→Nat}
noncomputable def vS (L:List V) (k:Nat) (s:SObj) (ρ:St) (F:List Row):St:=tapeO L k :: s :: (ρ++[.list (rowsV F)])
theorem vs_at:(vS L k s ρ F)[ρ.length + 1 + 1]? = some (.list (rowsV F)):=at_last (l:=ρ)
theorem vs_set:(vS L k s ρ F).set (ρ.length + 1 + 1) (.list (rowsV P)) = vS L k s ρ P:=by
 show tapeO L k :: s :: ((ρ++[SObj.list (rowsV F)]).set ρ.length (.list (rowsV P))) = _
 rw [List.set_append_right _ _ (Nat.le_refl _),Nat.sub_self]; rfl
theorem vs_app (hF:F.length≤100):mthE .app (.loc (ρ.length + 1 + 1)) (rowV r) (vS L k s ρ F) = some (vS L k s ρ (F++[r])):=by
 rw [app_i vs_at (by rw [List.length_append,List.length_map]; exact Nat.le_trans (Nat.add_le_add_right hF 1) (by decide))]
 rw [show rowsV F++[rowV r] = rowsV (F++[r]) from (rv_app F [r]).symm,vs_set]
theorem vs_con:isCon (.loc (ρ.length + 1 + 1)) (vS L k s ρ F) = true:=by
 show conO (vS L k s ρ F)[ρ.length + 1 + 1]? = true
 rw [vs_at]; rfl
noncomputable def LapT (T:TabK) (L:List V) (s:SObj) (ρ:St) (nd:V) (y:Nat) (E:List Row) (pk:Nat→Bool) (sp:Nat→Nat):Prop:=∀ (i:Nat) (r:Row) (F:List Row) (kt:Out→Prop),i≤64→F.length≤64→(∀ F',(F' = F ∨ (F' = F++[r]∧pk i = true))→kt (.next (vaE nd y (ρ.length + 1 + 1) E (some (.int i)) (some (rowV r))) (vS L (sp (i + 1)) s ρ F'))) →
 kSs prog T vB (vaE nd y (ρ.length + 1 + 1) E (some (.int i)) (some (rowV r))) (vS L (sp i) s ρ F) kt
theorem va_loop (lap:LapT T L s ρ nd y E pk sp) (l0:List V):∀ (E':List Row) (i:Nat) (F P:List Row) (x6 x7:Option V),i + E'.length≤64→F.length≤cnt pk i→F.Sublist P→(∀ F' x6 x7,F'.length≤cnt pk (i + E'.length)→F'.Sublist (P++E')→kt (.next (vaE nd y (ρ.length + 1 + 1) E x6 x7) (vS L (sp (i + E'.length)) s ρ F'))) →
  kLoopS (stillB none l0) (fun v ρ=>bindTg ρ (.many [6,7]) v) (fun ρ σ k=>kSs prog T vB ρ σ k) (enV i E') (vaE nd y (ρ.length + 1 + 1) E x6 x7) (vS L (sp i) s ρ F) kt
 | [],i,F,P,x6,x7,hi,hc,hs,z=>bK_i rfl (z F x6 x7 hc ((List.append_nil P).symm ▸ hs))
 | r :: E',i,F,P,x6,x7,hi,hc,hs,z=>by
  rw [List.length_cons] at hi z
  have h64:F.length≤64:=Nat.le_trans hc (Nat.le_trans cnt_le (by (first | lia | omega)))
  refine bK_i rfl (oK_i _ rfl ?_)
  refine lap i r F _ (by (first | lia | omega)) h64 fun F' hF=>?_
  have e1:i + (E'.length + 1) = i + 1 + E'.length:=by (first | lia | omega)
  refine va_loop lap l0 E' (i + 1) F' (P++[r]) _ _ (by (first | lia | omega)) ?_ ?_ fun F2 y6 y7 h2 s2=>?_
  ·rw [cnt_succ]
   rcases hF with rfl | ⟨rfl,hp⟩
   ·exact Nat.le_trans hc (Nat.le_add_right ..)
   ·rw [if_pos hp,List.length_append]; exact Nat.add_le_add_right hc 1
  ·rcases hF with rfl | ⟨rfl,hp⟩
   ·exact hs.trans (List.sublist_append_left ..)
   ·exact hs.append (List.Sublist.refl [r])
  ·rw [e1] at z
   exact z F2 y6 y7 h2 (by rw [List.append_assoc] at s2; exact s2)
theorem evn {w:Int} (hw:w = 2 ∨ w = 4) (h:(0:Int) = fT k n % w):oddN k n = false:=by
 rw [fT_N] at h
 delta oddN
 have q:fN k n % 2 = 0:=by rcases hw with rfl | rfl <;> (first | lia | omega)
 rw [q]; rfl
theorem lapD (hL:okL L) (h75:DrT T L) (hy:y = 0 ∨ y = 1) (hk:k≤200):LapT T L s ρ nd y E (pkD L.length k) (fun i=>k + i):=fun i r F kt hi hF z=>by
 have core:∀ w:Int,w = 2 ∨ w = 4→∀ K:V→St→Prop,(∀ v:Nat,(v = 0→pkD L.length k i = true)→K (.int v) (vS L (k + i + 1) s ρ F))→T.call 75 [.loc 0,.int w] (vS L (k + i) s ρ F) K:=fun w hw K z=>h75 (k + i) w _ K (by (first | lia | omega)) (by rcases hw with rfl | rfl <;> decide) fun v _ ht=>z v fun e=>by
  subst e
  delta pkD
  by_cases q:L.length≤k + i
  ·rw [evn hw (ht q),Bool.and_false]; rfl
  ·rw [decide_eq_false q]; rfl
 rcases hy with rfl | rfl
 ·conv=>whnf
  refine core _ (.inl rfl) _ fun v hv=>?_
  cases v with
  | zero =>
   conv=>whnf
   refine bK_i vs_con ?_
   conv=>whnf
   refine oK_i _ (vs_app (Nat.le_trans hF (by decide))) ?_
   exact z _ (.inr ⟨rfl,hv rfl⟩)
  | succ v=>exact z _ (.inl rfl)
 ·conv=>whnf
  refine core _ (.inr rfl) _ fun v hv=>?_
  cases v with
  | zero =>
   conv=>whnf
   refine bK_i vs_con ?_
   conv=>whnf
   refine oK_i _ (vs_app (Nat.le_trans hF (by decide))) ?_
   exact z _ (.inr ⟨rfl,hv rfl⟩)
  | succ v=>exact z _ (.inl rfl)
theorem lap2:LapT T L s ρ nd 2 E pk2 (fun _=>k):=fun i r F kt hi hF z=>by
 have e:(!decide ((i:Int) % 3 = 1)) = pk2 i:=by
  delta pk2
  rw [Bool.eq_iff_iff,Bool.not_eq_true',decide_eq_false_iff_not,bne_iff_ne]
  (first | lia | omega)
 conv=>whnf
 cases q:pk2 i with
 | true =>
  refine iK_t (e.trans q) ?_
  conv=>whnf
  refine bK_i vs_con ?_
  conv=>whnf
  refine oK_i _ (vs_app (Nat.le_trans hF (by decide))) ?_
  exact z _ (.inr ⟨rfl,q⟩)
 | false=>exact iK_f (e.trans q) (z _ (.inl rfl))
end
end P1
end Mine.Internal
namespace Mine.Internal
open PySem
theorem kLoopS_eq {st:St→Bool} {bnd:V→REnv→Option REnv} {body:REnv→St→(Out→Prop)→Prop} {l l':List V} {ρ:REnv} {σ:St} {k:Out→Prop} (e:l = l') (h:kLoopS st bnd body l' ρ σ k):kLoopS st bnd body l ρ σ k:=e ▸ h
namespace P1
noncomputable def vT:List S:=[.ite (.and [(.cmp .eq (.call 75 [(.var 0),(.cst (.int 6))]) (.cst (.int 5))),(.cmp .ne (.var 5) (.list []))]) [.asg (.name 8) (.bi .tuple [(.comp (.gen (.one 9) (.val (.item (.var 5) (.cst (.int 0)))) [] (.elt (.call 75 [(.var 0),(.cst (.int 4))]))))]),
   .asg (.name 4) (.bin .add (.var 4) (.ite (.cmp .notIn (.var 8) (.var 4)) (.list [(.var 8)]) (.list [])))] [],
  .ret (.bi .sorted [(.var 4)])]
section
variable {L:List V} {k n m w i y:Nat} {σ ρ:St} {s o:SObj} {T:TabK} {K:V→St→Prop} {nd e a b v:V} {W:Ws} {E F P l:List Row} {r:Row} {kt:Out→Prop} {x6 x7:Option V}
theorem mem2:∀ a < 4,∀ b < 4,[((a:Nat):Int),((b:Nat):Int)]∈rowsW 2:=by decide +kernel
theorem mem3:∀ a < 4,∀ b < 4,∀ c < 4,[((a:Nat):Int),((b:Nat):Int),((c:Nat):Int)]∈rowsW 3:=by decide +kernel
theorem lt4 {v:Nat} (h:(v:Int) < 4):v < 4:=Int.ofNat_lt.mp h
theorem ne_rows:(pyEq (.list (rowsV E)) (.list [])).map (!·) = some (!E.isEmpty):=by
 have e:eqOk 24 (.list (rowsV E)) = true:=List.all_eq_true.mpr fun y q=>(List.mem_map.mp q).elim fun a q=>q.2 ▸ row_eq23 a
 rw [pyEq_i e rfl]
 cases E <;> rfl
theorem va_end {ρ2:St} {v4:V} {x8:Option V} (fa:FA σ v4 (rowsV F)) (h:∀ r∈F,r∈rowsW w) (nd':F.Nodup) (hl:F.length < 64) (z:∀ R:List Row,R.Sublist (rowsW w)→K (.list (rowsV R)) σ) :
  kSs prog T [.ret (.bi .sorted [(.var 4)])] [some (.loc 0),some nd,some (.loc 1),some (.int y),some v4,some (.list (rowsV E)),x6,x7,x8,none] σ (outK K):=by
 conv=>whnf
 refine oK_i _ (sorted_i fa h nd' hl) ?_
 exact z _ (sort_w h)
theorem va_tail (h75:DrT T L) (hE:E.Sublist (rowsW w)) (hF:F.Sublist E) (l62:F.length≤62) (hw:w = 2 ∨ w = 3) (hk:k≤200) (z:∀ (R:List Row) k',R.Sublist (rowsW w)→k≤k'∧k'≤k + 4→K (.list (rowsV R)) (vS L k' s ρ F)) :
  kSs prog T vT (vaE nd y (ρ.length + 1 + 1) E x6 x7) (vS L k s ρ F) (outK K):=by
 have hFw:=hF.trans hE
 have nF:F.Nodup:=hFw.nodup (rowsW_nd w)
 have fin:∀ k' x8,k≤k'∧k'≤k + 4→kSs prog T [.ret (.bi .sorted [(.var 4)])] [some (.loc 0),some nd,some (.loc 1),some (.int y),some (.loc (ρ.length + 1 + 1)),some (.list (rowsV E)),x6,x7,x8,none] (vS L k' s ρ F) (outK K):=fun k' x8 h=>va_end (ρ2:=ρ) (w:=w) (.inr ⟨_,rfl,vs_at⟩) (fun r m=>hFw.subset m) nF (by (first | lia | omega)) fun R hR=>z R k' hR h
 have fin2:∀ k' more,more∈rowsW w→k≤k'∧k'≤k + 4→kSs prog T [.asg (.name 4) (.bin .add (.var 4) (.ite (.cmp .notIn (.var 8) (.var 4)) (.list [(.var 8)]) (.list []))),.ret (.bi .sorted [(.var 4)])] [some (.loc 0),some nd,some (.loc 1),some (.int y),some (.loc (ρ.length + 1 + 1)),some (.list (rowsV E)),x6,x7,some (rowV more),none] (vS L k' s ρ F) (outK K):=by
  intro k' more hm h
  generalize he:[S.ret (.bi .sorted [(.var 4)])] = X
  have ie:(inE (vS L k' s ρ F) (rowV more) (.loc (ρ.length + 1 + 1))).map (!·) = some (!hasR F more):=by
   rw [show inE (vS L k' s ρ F) (rowV more) (.loc (ρ.length + 1 + 1)) = pyIn (rowV more) (rowsV F) by
    delta inE
    rw [show asList (vS L k' s ρ F) (.loc (ρ.length + 1 + 1)) = some (rowsV F) by show locL (vS L k' s ρ F)[ρ.length + 1 + 1]? = _; rw [vs_at]; rfl]]
   exact nin_rows F
  have ad:∀ G:List Row,G.length≤1→binE (vS L k' s ρ F) .add (.loc (ρ.length + 1 + 1)) (.list (rowsV G)) = some (.list (rowsV (F++G))):=fun G hG=>by
   show (locL (vS L k' s ρ F)[ρ.length + 1 + 1]?).bind (fun a=>(okLen (a++rowsV G)).map V.list) = _
   rw [vs_at]
   show (okLen (rowsV F++rowsV G)).map V.list = _
   rw [← rv_app,okLen_i (by rw [List.length_map,List.length_append]; exact Nat.le_trans (Nat.add_le_add l62 hG) (by decide))]; rfl
  conv=>whnf
  refine oK_i _ ie ?_
  cases q:hasR F more with
  | true =>
   conv=>whnf
   refine oK_i _ (ad [] (Nat.zero_le 1)) ?_
   subst he
   exact va_end (ρ2:=ρ) (w:=w) (.inl rfl) (fun r m=>hFw.subset (by rw [List.append_nil] at m; exact m)) (by rw [List.append_nil]; exact nF) (by rw [List.append_nil]; (first | lia | omega)) fun R hR=>z R k' hR h
  | false =>
   conv=>whnf
   refine oK_i _ (ad [more] (Nat.le_refl 1)) ?_
   subst he
   exact va_end (ρ2:=ρ) (w:=w) (.inl rfl) (fun r m=>(List.mem_append.mp m).elim (fun m=>hFw.subset m) fun m=>List.mem_singleton.mp m ▸ hm) (List.nodup_append.mpr ⟨nF,List.nodup_cons.mpr ⟨List.not_mem_nil,List.nodup_nil⟩,fun x hx y hy e=>by rw [List.mem_singleton.mp hy] at e; rw [e] at hx; rw [hasR_iff.mpr hx] at q; cases q⟩) (by rw [List.length_append]; show F.length + 1 < 64; (first | lia | omega)) fun R hR=>z R k' hR h
 rw [show vT = .ite (.and [(.cmp .eq (.call 75 [(.var 0),(.cst (.int 6))]) (.cst (.int 5))),(.cmp .ne (.var 5) (.list []))]) [.asg (.name 8) (.bi .tuple [(.comp (.gen (.one 9) (.val (.item (.var 5) (.cst (.int 0)))) [] (.elt (.call 75 [(.var 0),(.cst (.int 4))]))))]),
   .asg (.name 4) (.bin .add (.var 4) (.ite (.cmp .notIn (.var 8) (.var 4)) (.list [(.var 8)]) (.list [])))] [] :: [.ret (.bi .sorted [(.var 4)])] from rfl]
 conv=>whnf
 refine h75 k 6 (s :: (ρ++[SObj.list (rowsV F)])) _ (by (first | lia | omega)) (by decide) fun v hv _=>?_
 conv=>whnf
 cases q:decide ((v:Int) = 5) with
 | false=>exact iK_f q (fin (k + 1) none (by (first | lia | omega)))
 | true =>
  refine iK_t q ?_
  conv=>whnf
  refine oK_i _ ne_rows ?_
  cases E with
  | nil=>exact fin (k + 1) none (by (first | lia | omega))
  | cons r E =>
   have mr:=hE.subset (List.mem_cons_self ..)
   have lr:(rowsV (r :: E)).length≤1000000:=by rw [List.length_map]; exact Nat.le_trans (nf_cap hE) (by decide)
   rcases hw with rfl | rfl
   ·obtain ⟨a,b,rfl⟩:=of2 (rw_len mr)
    conv=>whnf
    refine oK_i _ (idx_i (k:=0) rfl lr _) ?_
    conv=>whnf
    refine kLoopC_cons (v:=.int a) (r:=[.int b]) rfl rfl ?_
    conv=>whnf
    refine h75 (k + 1) 4 (s :: (ρ++[SObj.list (rowsV F)])) _ (by (first | lia | omega)) (by decide) fun v1 h1 _=>?_
    conv=>whnf
    refine kLoopC_cons (v:=.int b) (r:=[]) rfl rfl ?_
    conv=>whnf
    refine h75 (k + 1 + 1) 4 (s :: (ρ++[SObj.list (rowsV F)])) _ (by (first | lia | omega)) (by decide) fun v2 h2 _=>?_
    conv=>whnf
    refine kLoopC_nil rfl ?_
    exact fin2 (k + 1 + 1 + 1) [(v1:Int),(v2:Int)] (mem2 v1 (lt4 h1) v2 (lt4 h2)) (by (first | lia | omega))
   ·obtain ⟨a,b,c,rfl⟩:=of3 (rw_len mr)
    conv=>whnf
    refine oK_i _ (idx_i (k:=0) rfl lr _) ?_
    conv=>whnf
    refine kLoopC_cons (v:=.int a) (r:=[.int b,.int c]) rfl rfl ?_
    conv=>whnf
    refine h75 (k + 1) 4 (s :: (ρ++[SObj.list (rowsV F)])) _ (by (first | lia | omega)) (by decide) fun v1 h1 _=>?_
    conv=>whnf
    refine kLoopC_cons (v:=.int b) (r:=[.int c]) rfl rfl ?_
    conv=>whnf
    refine h75 (k + 1 + 1) 4 (s :: (ρ++[SObj.list (rowsV F)])) _ (by (first | lia | omega)) (by decide) fun v2 h2 _=>?_
    conv=>whnf
    refine kLoopC_cons (v:=.int c) (r:=[]) rfl rfl ?_
    conv=>whnf
    refine h75 (k + 1 + 1 + 1) 4 (s :: (ρ++[SObj.list (rowsV F)])) _ (by (first | lia | omega)) (by decide) fun v3 h3 _=>?_
    conv=>whnf
    refine kLoopC_nil rfl ?_
    exact fin2 (k + 1 + 1 + 1 + 1) [(v1:Int),(v2:Int),(v3:Int)] (mem3 v1 (lt4 h1) v2 (lt4 h2) v3 (lt4 h3)) (by (first | lia | omega))
theorem va_ok (hL:okL L) (tu:Tu m W nd l) (hm:1≤m) (hn:m + 1≤n) (nf:l.Sublist (rowsW w)) (hw:w = 2 ∨ w = 3) (hk:k≤89) (h3:w = 3→11≤k)
  (z:∀ (R:List Row) k' x,R.Sublist (rowsW w)→k≤k'∧k'≤k + 70→K (.list (rowsV R)) (tapeO L k' :: .list (setsL W v) :: (ρ++[x]))):callK prog n 80 [.loc 0,nd,.loc 1] (tapeO L k :: .list (setsL W v) :: ρ) K :=
 call_i (d:=f_law_value) (up1 hn) rfl rfl (by
  have h75:=dr_ok hL (Nat.le_trans hm (dn1 hn))
  have h79:=tu _ (dn1 hn)
  generalize TabK.mk (callK prog (n - 1)) = T at h75 h79 ⊢
  have l64:l.length≤64:=by
   rcases hw with rfl | rfl
   ·exact Nat.le_trans nf.length_le (Nat.le_trans rowsW2_cap (by decide))
   ·exact Nat.le_trans nf.length_le rowsW3_cap
  have b62:∀ F:List Row,F.Sublist ([]++l)→F.length≤cnt pk2 (0 + l.length) ∨ F.length≤cnt (pkD L.length (k + 1)) (0 + l.length)→F.length≤62:=fun F hF h=>by
   rcases hw with rfl | rfl
   ·exact Nat.le_trans hF.length_le (Nat.le_trans nf.length_le (Nat.le_trans rowsW2_cap (by decide)))
   ·rw [Nat.zero_add] at h
    have:=h3 rfl
    exact h.elim (fun h=>Nat.le_trans h (pk2_62 _ l64)) fun h=>Nat.le_trans h (pkD_62 hL.1 (by (first | lia | omega)) (by (first | lia | omega)) _ l64)
  rw [show f_law_value.body = .asgTs true [3,4,5] [(.call 75 [(.var 0),(.cst (.int 3))]),(.mut (.list [])),(.call 79 [(.var 1),(.var 2)])] :: .for_ (.many [6,7]) (.enum (.var 5)) vB :: vT from rfl]
  have hT:∀ (F:List Row) k2 y x6 x7,F.Sublist ([]++l)→F.length≤62→k≤k2∧k2≤k + 66→kSs prog T vT (vaE nd y (ρ.length + 1 + 1) l x6 x7) (vS L k2 (.list (setsL W v)) ρ F) (outK K):=fun F k2 y x6 x7 hF h62 hk2=>va_tail h75 nf hF h62 hw (by (first | lia | omega)) fun R k' hR hk'=>z R k' _ hR (by (first | lia | omega))
  generalize vT = X at hT ⊢
  conv=>whnf
  refine h75 k 3 _ _ (by (first | lia | omega)) (by decide) fun y hy _=>?_
  conv=>whnf
  refine h79 v _ _ rfl ?_
  conv=>whnf
  refine kLoopS_eq (en_all l) ?_
  have hy:(y = 0 ∨ y = 1) ∨ y = 2:=by (first | lia | omega)
  rcases hy with hy | rfl
  ·refine va_loop (s:=.list (setsL W v)) (ρ:=ρ) (nd:=nd) (E:=l) (sp:=fun i=>k + 1 + i) (pk:=pkD L.length (k + 1)) (lapD hL h75 hy (by (first | lia | omega))) _ l 0 [] [] none none (by (first | lia | omega)) (Nat.zero_le _) (List.Sublist.refl _) fun F x6 x7 hc hF=>?_
   exact hT F _ y x6 x7 hF (b62 F hF (.inr hc)) (by (first | lia | omega))
  ·refine va_loop (s:=.list (setsL W v)) (ρ:=ρ) (nd:=nd) (E:=l) (sp:=fun i=>k + 1) (pk:=pk2) lap2 _ l 0 [] [] none none (by (first | lia | omega)) (Nat.zero_le _) (List.Sublist.refl _) fun F x6 x7 hc hF=>?_
   exact hT F _ 2 x6 x7 hF (b62 F hF (.inl hc)) (by (first | lia | omega)))
end
end P1
end Mine.Internal
namespace Mine.Internal
open PySem
namespace P1
noncomputable def opR (ct sp ht pk:Int) (τ:St):St:=sgsO++(.inst 1 (opF ct sp ht pk) :: .dict [] :: τ)
noncomputable abbrev lw (s a1 a2 a3 a4 a5 a6 a7 a8 a9:Option V):REnv:=[s,a1,a2,a3,a4,a5,a6,a7,a8,a9,none,none]
noncomputable def lBody:List S:=[.asg (.name 6) (.call 78 [(.var 1)]),
   .asg (.item (.var 2) (.cst (.int 4))) (.call 80 [(.var 1),(.var 6),(.var 2)]),
   .asg (.name 7) (.call 79 [(.var 6),(.var 2)]),
   .asg (.name 8) (.and [(.emp (.comp (.gen (.one 11) (.val (.item (.var 2) (.cst (.int 4)))) [(.cmp .notIn (.var 11) (.var 7))] (.elt (.var 11))))),(.call 82 [(.item (.var 2) (.cst (.int 4))),(.var 6),(.var 2)])]),
   .asg (.name 9) (.meth (.var 4) 8421993124555260641663923658296188207205 [(.tup [(.cst (.str 505775562686573)),(.cst (.int 4))]),(.var 6),(.dict [(.cst (.str 84)),(.tup [(.cst (.str 505775562686573)),(.cst (.int 3))])])]),
   .ite (.cmp .ne (.call 84 [(.var 9),(.var 2),(.dict [])]) (.var 8)) [.raise] []]
structure LwT (T:TabK) (L:List V) (W:Ws):Prop where
 no:NoT T L
 va:∀ {nd:V} {l:List Row} {w k:Nat} {v:V} {ρ:St} {K:V→St→Prop},Tu 15 W nd l→l.Sublist (rowsW w)→w = 2 ∨ w = 3→k≤89→(w = 3→11≤k)→(∀ (R:List Row) k' x,R.Sublist (rowsW w)→k≤k'∧k'≤k + 70→K (.list (rowsV R)) (tapeO L k' :: .list (setsL W v) :: (ρ++[x])))→T.call 80 [.loc 0,nd,.loc 1] (tapeO L k :: .list (setsL W v) :: ρ) K
 tu:∀ {nd:V} {l:List Row},Tu 15 W nd l→TuT T W nd l
 mr:∀ {nd:V} {w:Nat} {m:List Row→Bool},Mr 15 W nd w m→MrT T W nd w m
 bd:∀ {nd e:V} {w z cn zm h c:Nat} {l R:List Row} {im:Bool} {mr:List Row→Bool} {t s:SObj} {sp pk:Int} {τ:St} {K:V→St→Prop},Nd W 15 5 w nd e l im mr z cn zm h→R.Sublist (rowsW w)→c + cn≤10→sp + (z + zm:Nat)≤20000 →
  (∀ (c':Nat) sp' pk' f τ',c'≤c + cn→sp'≤sp + (z + zm:Nat)→Ho (12 + h) W (.list (rowsV R)) f [] (subR R l && mr R)→K f (stt t s c' sp' 0 pk' τ'))→T.call 42 [.loc 8,relV 4,nd,evV] (stt t s c sp 0 pk τ) K
 ho:∀ {v f:V} {D:Env} {b:Bool},Ho 26 W v f D b→HoT T W v f D b
section
variable {L:List V} {n k c:Nat} {W:Ws} {T:TabK} {v:V} {t s:SObj} {ct sp ht pk:Int} {τ:St} {K:V→St→Prop} {kt:Out→Prop} {a0 a3 a5 a6 a7 a8 a9:Option V} {x:SObj} {l R:List Row} {nd:V}
theorem stt_eq:stt t s ct sp ht pk τ = t :: s :: opR ct sp ht pk τ:=by delta stt; rfl
theorem lw_ok (hL:okL L) (hn:30≤n):LwT ⟨callK prog n⟩ L W :=
 ⟨no_ok hL (Nat.le_trans (by decide) hn),fun h1 h2 h3 h4 h5 z=>va_ok hL h1 (by decide) (Nat.le_trans (by decide) hn) h2 h3 h4 h5 z,fun h=>h _ (Nat.le_trans (by decide) hn),fun h=>h _ (Nat.le_trans (by decide) hn),
  fun a hR hc hz zz=>bd_ok a hR (by decide) (by decide) (by decide) (Nat.le_trans (by decide) hn) hc hz zz,fun h=>h _ (Nat.le_trans (by decide) hn)⟩
theorem l_due (hw:St1 W (.list (rowsV R)) (stt t s ct sp ht pk τ)) {w:Nat} {mr:List Row→Bool} (h82:MrT T W nd w mr) (hR:R.Sublist (rowsW w)) {X:List S} (z:kSs prog T X (lw a0 (some (.loc 0)) (some (.loc 1)) a3 (some (.loc 8)) a5 (some nd) (some (.list (rowsV l))) (some (.bool (subR R l && mr R))) a9) (stt t s ct sp ht pk τ) kt) :
  kSs prog T (.asg (.name 8) (.and [(.emp (.comp (.gen (.one 11) (.val (.item (.var 2) (.cst (.int 4)))) [(.cmp .notIn (.var 11) (.var 7))] (.elt (.var 11))))),(.call 82 [(.item (.var 2) (.cst (.int 4))),(.var 6),(.var 2)])]) :: X) (lw a0 (some (.loc 0)) (some (.loc 1)) a3 (some (.loc 8)) a5 (some nd) (some (.list (rowsV l))) a8 a9) (stt t s ct sp ht pk τ) kt:=by
 conv=>whnf
 refine oK_i _ (hw.it (k:=4) (by decide) rfl) ?_
 conv=>whnf
 refine loopSelS (α:=Row) rowV rowV (fun r=>!hasR l r) (Nat.le_trans (nf_cap hR) (by decide)) rfl (fun a ha=>⟨_,rfl,fun ds kk q zz=>?_⟩) ?_
 ·conv=>whnf
  refine oK_i _ (nin_rows l) ?_
  conv=>whnf
  exact cond_i q zz
 ·conv=>whnf
  cases q:subR R l with
  | false =>
   rw [q] at z
   refine iK_f (subR_eq.trans q) ?_
   exact z
  | true =>
   rw [q] at z
   refine iK_t (subR_eq.trans q) ?_
   conv=>whnf
   refine oK_i _ (hw.it (k:=4) (by decide) rfl) ?_
   conv=>whnf
   refine h82 _ _ R _ hR hw ?_
   exact z
theorem lap_ok (H:LwT T L W) (hk:k≤81) (h3:3≤k) (hc:c≤5) (hz:sp≤100) (z:∀ a6 a7 a8 a9 k' v' (c':Nat) sp' pk' τ',k≤k'∧k'≤k + 78→c'≤c + 5→sp'≤sp + 50→kt (.next (lw a0 (some (.loc 0)) (some (.loc 1)) a3 (some (.loc 8)) a5 a6 a7 a8 a9) (stt (tapeO L k') (.list (setsL W v')) c' sp' 0 pk' τ'))) :
  kSs prog T lBody (lw a0 (some (.loc 0)) (some (.loc 1)) a3 (some (.loc 8)) a5 a6 a7 a8 a9) (stt (tapeO L k) (.list (setsL W v)) c sp 0 pk τ) kt:=by
 rw [stt_eq]
 conv=>whnf
 refine H.no k _ _ (by (first | lia | omega)) fun w nd k1 hw ok hk1 hk8=>?_
 obtain ⟨e,l,im,mr,z1,cn,zm,h,N,b1,b2,b3,b4⟩:=ok W
 conv=>whnf
 refine H.va N.tu N.nf hw (by (first | lia | omega)) (fun q=>by have:=hk8 q; (first | lia | omega)) fun R k2 x hR hk2=>?_
 conv=>whnf
 have hw1:∀ (c:Nat) sp pk τ,St1 W (.list (rowsV R)) (stt (tapeO L k2) (.list (setsL W (.list (rowsV R)))) c sp 0 pk τ):=fun c sp pk τ=>by rw [stt_eq]; rfl
 conv=>whnf
 rw [show (tapeO L k2 :: SObj.list (setsL W v) :: (opR c sp 0 pk τ++[x])).set 1 (SObj.list ((setsL W v).set (Int.toNat 4) (V.list (rowsV R)))) = stt (tapeO L k2) (.list (setsL W (.list (rowsV R)))) c sp 0 pk (τ++[x]) by rw [stt_eq]; rfl]
 refine H.tu N.tu _ _ _ (hw1 _ _ _ _) ?_
 refine l_due (s:=.list (setsL W (.list (rowsV R)))) (hw1 _ _ _ _) (H.mr N.mq) hR ?_
 conv=>whnf
 refine oK_i _ (meth_i rfl rfl) ?_
 conv=>whnf
 refine H.bd N hR (by (first | lia | omega)) (by (first | lia | omega)) fun c' sp' pk' f τ' hc' hs' hf=>?_
 conv=>whnf
 refine H.ho (hf.up (by (first | lia | omega))) _ _ _ (hw1 _ _ _ _) rfl fun σ' p=>?_
 obtain ⟨u,rfl⟩:=p
 have pu:stt (tapeO L k2) (.list (setsL W (.list (rowsV R)))) c' sp' 0 pk' τ'++u = stt (tapeO L k2) (.list (setsL W (.list (rowsV R)))) c' sp' 0 pk' (τ'++u):=by rw [stt_eq,stt_eq]; rfl
 rw [pu]
 have zz:=z (some nd) (some (.list (rowsV l))) (some (.bool (subR R l && mr R))) (some f) k2 (.list (rowsV R)) c' sp' pk' (τ'++u) (by (first | lia | omega)) (by (first | lia | omega)) (by (first | lia | omega))
 generalize (subR R l && mr R) = bb at zz ⊢
 cases bb <;> exact zz
end
end P1
end Mine.Internal
namespace Mine.Internal
open PySem
namespace P1
noncomputable def lwD (i:Nat):List S:=f_law.body.drop i
section
variable {L:List V} {n k c:Nat} {W:Ws} {T:TabK} {v:V} {K:V→St→Prop} {kt:Out→Prop} {a0 a3:Option V}
theorem cut63 {is:List Int} (h:is.length≤63):sliceE (.list (is.map V.int)) .none (.int 63) = some (.list (is.map V.int)):=by
 show (if (is.map V.int).length≤capL then some (V.list (cut (is.map V.int) none (some 63))) else none) = _
 rw [List.length_map,if_pos (Nat.le_trans h (by decide))]
 show some (V.list (((is.map V.int).take (clip (is.map V.int).length 63)).drop 0)) = _
 rw [List.drop_zero,List.length_map]
 have e:clip is.length 63 = is.length:=by
  show (max 0 (min (if (63:Int) < 0 then (63:Int) + is.length else 63) is.length)).toNat = is.length
  rw [if_neg (by decide),Int.min_eq_right (show (is.length:Int)≤63 from Int.ofNat_le.mpr h),Int.max_eq_right (Int.natCast_nonneg _)]; rfl
 rw [e,List.take_of_length_le (by rw [List.length_map]; exact Nat.le_refl _)]
theorem lst_i {is:List Int} {σ:St} (h:is.length≤63):biE σ .list [.list (is.map V.int)] = some (.list (is.map V.int)):=by
 show (okLen (is.map V.int)).map V.list = _
 rw [okLen_i (by rw [List.length_map]; exact Nat.le_trans h (by decide))]; rfl
noncomputable def someL:List V:=[.tup [],.tup [.int 0],.tup [.int 1],.tup [.int 2],.tup [.int 3],.tup [.int 0,.int 1],.tup [.int 0,.int 2],.tup [.int 0,.int 3],.tup [.int 1,.int 2],.tup [.int 1,.int 3],.tup [.int 2,.int 3]]
theorem some_i:∀ v:Nat,(v:Int) < 11→∃ a:List Int,(r1 a).Sublist (rowsW 1)∧∀ σ:St,itemE σ (.list someL) (.int v) = some (tupI a):=by
 intro v hv
 have hv:v = 0 ∨ v = 1 ∨ v = 2 ∨ v = 3 ∨ v = 4 ∨ v = 5 ∨ v = 6 ∨ v = 7 ∨ v = 8 ∨ v = 9 ∨ v = 10:=by (first | lia | omega)
 rcases hv with rfl | rfl | rfl | rfl | rfl | rfl | rfl | rfl | rfl | rfl | rfl
 ·exact ⟨[],by decide +kernel,fun σ=>rfl⟩
 ·exact ⟨[0],by decide +kernel,fun σ=>rfl⟩
 ·exact ⟨[1],by decide +kernel,fun σ=>rfl⟩
 ·exact ⟨[2],by decide +kernel,fun σ=>rfl⟩
 ·exact ⟨[3],by decide +kernel,fun σ=>rfl⟩
 ·exact ⟨[0,1],by decide +kernel,fun σ=>rfl⟩
 ·exact ⟨[0,2],by decide +kernel,fun σ=>rfl⟩
 ·exact ⟨[0,3],by decide +kernel,fun σ=>rfl⟩
 ·exact ⟨[1,2],by decide +kernel,fun σ=>rfl⟩
 ·exact ⟨[1,3],by decide +kernel,fun σ=>rfl⟩
 ·exact ⟨[2,3],by decide +kernel,fun σ=>rfl⟩
noncomputable def lTape:S:=.asg (.name 1) (.mut (.dict [(.cst (.str 1934282252167833826015314036)),(.ite (.cmp .gt (.bi .len [(.var 0)]) (.cst (.int 0))) (.bi .list [(.sl (.var 0) (.cst .none) (.cst (.int 63)))]) (.list [(.cst (.int 1)),(.cst (.int 2)),(.cst (.int 0)),(.cst (.int 0)),(.cst (.int 0)),(.cst (.int 1)),(.cst (.int 2)),(.cst (.int 0)),(.cst (.int 0)),(.cst (.int 1))])),(.cst (.str 1069911653254644629621)),(.cst (.int 0))]))
noncomputable def dflt:List V:=[.int 1,.int 2,.int 0,.int 0,.int 0,.int 1,.int 2,.int 0,.int 0,.int 1]
theorem nil_eq (T:TabK) (X:List S) (kt:Out→Prop):kSs prog T (lTape :: X) (lw (some (.list [])) none none none none none none none none none) [] kt = kSs prog T X (lw (some (.list [])) (some (.loc 0)) none none none none none none none none) [tapeO dflt 0] kt:=by kernel_rfl!
theorem law_a {is:List Int} (hx:is.length≤63) (z:∀ L,okL L→kSs prog T (lwD 1) (lw (some (.list (is.map V.int))) (some (.loc 0)) none none none none none none none none) [tapeO L 0] kt) :
  kSs prog T f_law.body (enter f_law [.list (is.map V.int)]) [] kt:=by
 have e:f_law.body = lTape :: lwD 1:=rfl
 rw [e]
 cases is with
 | nil =>
  have z:=z dflt ⟨by decide,fun x m=>by
   simp only [dflt,List.mem_cons,List.not_mem_nil,or_false] at m
   rcases m with rfl | rfl | rfl | rfl | rfl | rfl | rfl | rfl | rfl | rfl <;> exact ⟨_,rfl⟩⟩
  exact (nil_eq T (lwD 1) kt).mpr z
 | cons i is =>
  have z:=z ((i :: is).map V.int) ⟨by rw [List.length_map]; exact hx,fun x q=>(List.mem_map.mp q).elim fun i q=>⟨i,q.2.symm⟩⟩
  generalize lwD 1 = X at z ⊢
  have lx:(((i :: is).map V.int)).length≤capL:=by rw [List.length_map]; exact Nat.le_trans hx (by decide)
  conv=>whnf
  refine oK_i _ (len_L _ lx) ?_
  conv=>whnf
  refine iK_t (decide_eq_true (p:=(0:Int) < ((((i :: is).map V.int).length:Nat):Int)) (by rw [List.length_map]; show (0:Int) < ((is.length + 1:Nat):Int); (first | lia | omega))) ?_
  conv=>whnf
  refine oK_i _ (cut63 hx) ?_
  conv=>whnf
  refine oK_i _ (lst_i hx) ?_
  exact Eq.mpr (by kernel_rfl!) z
noncomputable def lCat:S:=.asg (.name 2) (.mut (.cat (.var 2) (.list [(.item (.var 2) (.cst (.int 2))),(.list [])])))
theorem cat_eq (T:TabK) (X:List S) (a0 x1:Option V) (a b c:V) (t:SObj) (kt:Out→Prop):kSs prog T (lCat :: X) (lw a0 x1 (some (.list [a,b,c])) none none none none none none none) [t] kt = kSs prog T X (lw a0 x1 (some (.loc 1)) none none none none none none none) [t,.list [a,b,c,c,.list []]] kt:=by kernel_rfl!
theorem law_b (h75:DrT T L) (z:∀ W:Ws,kSs prog T (lwD 3) (lw a0 (some (.loc 0)) (some (.loc 1)) none none none none none none none) [tapeO L 3,.list (setsL W (.list []))] kt) :
  kSs prog T (lwD 1) (lw a0 (some (.loc 0)) none none none none none none none none) [tapeO L 0] kt:=by
 have e:lwD 1 = .asg (.name 2) (.comp (.gen (.one 10) (.range (.cst (.int 3))) [] (.elt (.item (.glob 10) (.call 75 [(.var 1),(.cst (.int 11))]))))) :: lCat :: lwD 3:=rfl
 rw [e]
 have z:∀ W:Ws,kSs prog T (lCat :: lwD 3) (lw a0 (some (.loc 0)) (some (.list [tupI W.a,tupI W.b,tupI W.c])) none none none none none none none) [tapeO L 3] kt:=fun W=>by rw [cat_eq]; exact z W
 generalize lCat :: lwD 3 = X at z ⊢
 conv=>whnf
 refine kLoopC_cons (v:=.int 0) (r:=[.int 1,.int 2]) rfl rfl ?_
 conv=>whnf
 refine h75 0 11 [] _ (by (first | lia | omega)) (by decide) fun v1 h1 _=>?_
 obtain ⟨a,ha,e1⟩:=some_i v1 h1
 conv=>whnf
 refine oK_i _ (e1 _) ?_
 conv=>whnf
 refine kLoopC_cons (v:=.int 1) (r:=[.int 2]) rfl rfl ?_
 conv=>whnf
 refine h75 1 11 [] _ (by (first | lia | omega)) (by decide) fun v2 h2 _=>?_
 obtain ⟨b,hb,e2⟩:=some_i v2 h2
 conv=>whnf
 refine oK_i _ (e2 _) ?_
 conv=>whnf
 refine kLoopC_cons (v:=.int 2) (r:=[]) rfl rfl ?_
 conv=>whnf
 refine h75 2 11 [] _ (by (first | lia | omega)) (by decide) fun v3 h3 _=>?_
 obtain ⟨c,hc,e3⟩:=some_i v3 h3
 conv=>whnf
 refine oK_i _ (e3 _) ?_
 conv=>whnf
 refine kLoopC_nil rfl ?_
 conv=>whnf
 exact z ⟨a,b,c,ha,hb,hc⟩
theorem law_c (H:LwT T L W) (hK:∀ σ,K (.bool true) σ):kSs prog T (lwD 5) (lw a0 (some (.loc 0)) (some (.loc 1)) a3 (some (.loc 8)) none none none none none) (stt (tapeO L 3) (.list (setsL W (.list []))) 0 0 0 0 []) (outK K):=by
 show kS prog T (.for_ (.one 5) (.range (.cst (.int 2))) lBody) _ _ _
 refine bK_i rfl (oK_i _ rfl ?_)
 refine lap_ok (k:=3) (c:=0) H (by decide) (by decide) (by decide) (by decide) fun a6 a7 a8 a9 k' v' c' sp' pk' τ' hk hc hs=>?_
 refine bK_i rfl (oK_i _ rfl ?_)
 refine lap_ok (c:=c') H (by (first | lia | omega)) (by (first | lia | omega)) (by (first | lia | omega)) (by (first | lia | omega)) fun a6 a7 a8 a9 k' v' c' sp' pk' τ' hk hc hs=>?_
 exact bK_i rfl (hK _)
noncomputable def lItems:S:=.asg (.name 3) (.list [(.tup [(.cst (.str 510173617586280)),(.cst (.int 0)),(.tup [(.cst (.str 66)),(.cst (.str 67)),(.cst (.str 68))]),(.cst (.bool false)),(.cst (.str 0)),(.cst (.str 0)),(.tup []),(.tup []),(.tup [])])])
theorem new_eq (T:TabK) (X:List S) (a0 a1 a2:Option V) (σ:St) (kt:Out→Prop):kSs prog T (lItems :: .asg (.name 4) newX :: X) (lw a0 a1 a2 none none none none none none none) σ kt = kE prog T newX (lw a0 a1 a2 (some (.list itemsV)) none none none none none none) σ (fun v σ=>kSs prog T X (lw a0 a1 a2 (some (.list itemsV)) (some v) none none none none none) σ kt):=by kernel_rfl!
theorem law_ok {is:List Int} (hn:40≤n) (hx:is.length≤63) (hK:∀ σ,K (.bool true) σ):callK prog n 85 [.list (is.map V.int)] [] K:=by
 have p:39≤n - 1:=dn1 hn
 refine call_i (d:=f_law) (up1 hn) rfl rfl (law_a hx fun L hL=>?_)
 have h75:=dr_ok (n:=n - 1) hL (by (first | lia | omega))
 refine law_b h75 fun W=>?_
 have H:=lw_ok (n:=n - 1) (W:=W) hL (by (first | lia | omega))
 have hN:∀ (a0 a1 a2:Option V) (r:REnv) (K:V→St→Prop),K (.loc 8) (stt (tapeO L 3) (.list (setsL W (.list []))) 0 0 0 0 [])→kE prog ⟨callK prog (n - 1)⟩ newX (a0 :: a1 :: a2 :: some (.list itemsV) :: r) [tapeO L 3,.list (setsL W (.list []))] K:=fun a0 a1 a2 r K hk=>by
  obtain ⟨m,e⟩:∃ m,n - 1 = m + 8:=⟨n - 1 - 8,by (first | lia | omega)⟩
  rw [e,init_eq]
  exact hk
 generalize TabK.mk (callK prog (n - 1)) = T at H hN ⊢
 have e:lwD 3 = lItems :: .asg (.name 4) newX :: lwD 5:=rfl
 rw [e,new_eq]
 exact hN _ _ _ _ _ (law_c H hK)
theorem hC (script:List Int) (h:script.length≤63):∃ N,N≤90∧∀ K:V→St→Prop,(∀ σ,K (.bool true) σ)→callK P1.prog N 85 [.list (script.map V.int)] [] K :=
 ⟨40,by decide,fun K hK=>law_ok (by decide) h hK⟩
end
end P1
end Mine.Internal
namespace Mine.Internal
open PySem PySem.W PyProof.Rows
namespace P1
noncomputable def gt:Gt:={ fns:=fnN,clss:=clsN,consts:=conN,flds:=flds,mths:=mths }
noncomputable abbrev K (H:Params→Frag) (p:Params) (ob:Obj):Frag:=(builtinsNs,ob) :: H p
theorem methB:(mthL.all fun q=>decide (q.1 < 3) && q.2.all fun r=>r.1 != 0 || (q.1 == 1 && r.2 == 3)) = true:=by decide +kernel
theorem biNe:(biNames.all fun q=>!(q.1 == ("__name__":Str))) = true:=by decide +kernel
theorem boot:(biNames.all fun q=>bootBuiltins q.1 == some q.2) = true:=by kernel_rfl!
theorem file0:((PySem.Challenge.rw_nz0397_01.row.prog.main.file:Str) == "/claim/cut.py") = true:=by decide +kernel
theorem top0:(PySem.Challenge.rw_nz0397_01.row.prog.main.scope.names.lookup ("super":Str)).isSome = false:=by decide +kernel
noncomputable def signs:List (Str × Tok × PV):=[("+",368,.str "union" 369),("&",370,.str "meet" 371),("-",372,.str "minus" 373),(".",374,.str "join" 375),("++",376,.str "override" 377),("<:",378,.str "ahead" 379),(":>",380,.str "behind" 381)]
noncomputable def signV:List (Nat × V):=signs.map fun t=>(encS t.1,match t.2.2 with | .str x _=>.str (encS x) | _=>.none)
theorem co7d:prog.glob 7 = some (.dict (signV.map fun q=>(.str q.1,q.2))):=by kernel_rfl!
theorem co7x:(conN.all fun q=>q.2 != 7 || q.1 == ("SET_SIGNS":Str)) = true:=by decide +kernel
structure Top (H:Params→Frag):Prop where
 chk:∀ (p:Params) (ob:Obj),(fnL.all fun q=>q.1 == 15 || chkAt prog gt (K H p ob) (nms q.1) (fa q.1) q.2) = true
 fact:∀ (p:Params) (ob:Obj),factB (K H p ob) prog gt fa ca 3 (fnL.map (·.1)) = true
 sup:∀ (p:Params) (ob:Obj),supB (K H p ob) prog gt fa ca 15 3 1 f_Opener___init (nms 15) [.var 1,.var 2,.var 3,.var 4] f_Opener___init.body.tail "/claim/cut.py" = true
 noGlob:∀ (p:Params) (ob:Obj),(biNames.all fun q=>nsIn (K H p ob) mainGlobals q.1 == some none) = true
 co:∀ (p:Params) (ob:Obj),(conN.all fun q=>match prog.glob q.2 with
 | none=>true
 | some d=>q.2 == 7 || oB (nsIn (K H p ob) mainGlobals q.1) fun v=>oB v fun v=>rvB (K H p ob) d v) = true
 co7:∀ (p:Params) (ob:Obj),(K H p ob).lookup 108 = some ⟨.type "dict",none,.dict (mkEs p signs).toArray 7,#[]⟩
 co7n:∀ (p:Params) (ob:Obj),nsIn (K H p ob) mainGlobals "SET_SIGNS" = some (some (.ref 108))
 co7r:∀ (p:Params) (ob:Obj),rvdB (K H p ob) signV signs = true
 fn:∀ (p:Params) (ob:Obj),((K H p ob).lookup 470).isSome = true
 law:∀ (p:Params) (ob:Obj),nsIn (K H p ob) mainGlobals "law" = some (some (.ref 720))
theorem Facts {H:Params→Frag} (tp:Top H) {B:Bd} {ob:Obj} (hP:B.P = prog) (hK:B.D.K = K H B.D.w.params ob) (hfa:B.D.fa = fa) (hca:B.D.ca = ca) (hnc:B.D.nc = 3) (X:B.D.K.In B.D.base) (lim:B.D.base.NoLimit):Mine.Internal.Facts B gt:=by
 obtain ⟨D,P,T,n⟩:=B
 cases (hP:P = prog)
 refine facts_of (live:=fnL.map (·.1)) X lim (fun i h=>?_) (fun i k f h=>?_) (by rw [hK,hfa,hca,hnc]; exact tp.fact _ ob) fun x k h d hd=>?_
 ·obtain ⟨d,e⟩:=Option.isSome_iff_exists.mp h
  exact List.mem_map.mpr ⟨_,mem_of_lookup (l:=fnL) e,rfl⟩
 ·obtain ⟨l,e,_⟩:=Option.bind_eq_some_iff.mp (show (mthL.lookup i).bind _ = some f from h)
  rw [hnc]; exact of_decide_eq_true (and_l (List.all_eq_true.mp methB _ (mem_of_lookup e)))
 ·have w:=List.all_eq_true.mp (tp.co D.w.params ob) _ (mem_of_lookup (l:=conN) h)
  have hd:prog.glob k = some d:=hd
  simp only [hd] at w
  rcases Bool.or_eq_true_iff.mp w with e | e
  ·have e:k = 7:=eq_of e
   subst e
   have hx:x = "SET_SIGNS":=(Bool.or_eq_true_iff.mp (List.all_eq_true.mp co7x _ (mem_of_lookup (l:=conN) h))).elim (fun n=>absurd rfl (bne_iff_ne.mp n)) eq_of
   cases co7d.symm.trans hd
   rw [hx,hK]
   exact ⟨_,tp.co7n _ ob,fun N m=>rv_dict X m (by rw [hK]; exact tp.co7 _ ob) (by decide) (by decide +kernel) (by rw [hK]; exact tp.co7r _ ob)⟩
  ·rw [← hK] at e
   cases hv:nsIn D.K mainGlobals x with
   | none=>rw [hv] at e; cases e
   | some v=>cases v with
    | none=>rw [hv] at e; cases e
    | some v=>rw [hv] at e; exact ⟨v,rfl,fun N m=>rvB_of X m d v e⟩
theorem go {H:Params→Frag} (tp:Top H) {B:Bd} {ob:Obj} (hP:B.P = prog) (hK:B.D.K = K H B.D.w.params ob) (hfa:B.D.fa = fa) (hca:B.D.ca = ca) (hpr:B.D.prog = PySem.Challenge.rw_nz0397_01.row.prog) (hbt:nsIn B.D.K builtinsNs "super" = some (some (.type "super"))) (h:Hs B 40 gt) (f:Nat) (d:FDef) (hd:B.P.fn f = some d):FnGo B f d:=by
 rw [hP] at hd
 have hd:fnL.lookup f = some d:=hd
 cases e:f == 15 with
 | true =>
  have e:f = 15:=eq_of e
  subst e
  have hd:some f_Opener___init = some d:=hd
  cases hd
  refine sup_go (f2:=3) (c1:=1) (xs:=[.var 1,.var 2,.var 3,.var 4]) (ss:=f_Opener___init.body.tail) (names:=nms 15) (file:="/claim/cut.py") h rfl (fun i f' hm=>?_) hbt (by rw [hpr]; exact file0) (by rw [hpr]; exact top0) (by rw [hP,hK,hfa,hca]; exact tp.sup _ ob)
  rw [hP] at hm
  obtain ⟨l,e1,e2⟩:=Option.bind_eq_some_iff.mp (show (mthL.lookup i).bind (fun l=>l.lookup 0) = some f' from hm)
  rcases Bool.or_eq_true_iff.mp (List.all_eq_true.mp (and_r (List.all_eq_true.mp methB _ (mem_of_lookup e1))) _ (mem_of_lookup e2)) with n | n
  ·exact absurd rfl (bne_iff_ne.mp n)
  ·exact ⟨eq_of (and_l n),eq_of (and_r n)⟩
 | false =>
  refine fn_at h (by decide) (names:=nms f) ?_
  rcases Bool.or_eq_true_iff.mp (List.all_eq_true.mp (tp.chk B.D.w.params ob) _ (mem_of_lookup hd)) with n | n
  ·rw [show (f == 15) = true from n] at e; cases e
  ·rw [hP,hK,hfa]; exact n
end P1
end Mine.Internal
set_option tactic.hygienic true
set_option hygiene true
namespace Mine.Internal.law1
theorem tw10018812223589808490:True:=⟨⟩
theorem tw10032823720341029800:True:=⟨⟩
theorem tw10037132499797683368:True:=⟨⟩
theorem tw10065110721990958079:True:=⟨⟩
theorem tw10076361190051911477:True:=⟨⟩
theorem tw10079909018217971480:True:=⟨⟩
theorem tw10082241410567925355:True:=⟨⟩
theorem tw10085365161122817863:True:=⟨⟩
theorem tw10099292006153924881:True:=⟨⟩
theorem tw10099681167699225839:True:=⟨⟩
theorem tw10112336630458046908:True:=⟨⟩
theorem tw10122313809637778880:True:=⟨⟩
theorem tw10123914616101366313:True:=⟨⟩
theorem tw10133315828229533027:True:=⟨⟩
theorem tw10135409476338789521:True:=⟨⟩
theorem tw10198924993318016050:True:=⟨⟩
theorem tw10209273028877511187:True:=⟨⟩
theorem tw10217610808128779601:True:=⟨⟩
theorem tw10233994933396962331:True:=⟨⟩
theorem tw10234988499975262697:True:=⟨⟩
theorem tw10243443017599436382:True:=⟨⟩
theorem tw10267880530858841566:True:=⟨⟩
theorem tw10304279767688328807:True:=⟨⟩
theorem tw10304604398437448558:True:=⟨⟩
theorem tw10307549824525142667:True:=⟨⟩
theorem tw1032627003029262865:True:=⟨⟩
theorem tw1033553561690157666:True:=⟨⟩
theorem tw10347424681303146143:True:=⟨⟩
theorem tw10350277547112746807:True:=⟨⟩
theorem tw10360361209797672394:True:=⟨⟩
theorem tw10382700358518174664:True:=⟨⟩
theorem tw10467306897299836100:True:=⟨⟩
theorem tw10510787641466690381:True:=⟨⟩
theorem tw10515716781013483387:True:=⟨⟩
theorem tw10519589346558402400:True:=⟨⟩
theorem tw10527468388748538167:True:=⟨⟩
theorem tw10539485011760976550:True:=⟨⟩
theorem tw10550358513104207215:True:=⟨⟩
theorem tw10552307955667173776:True:=⟨⟩
theorem tw10569724037925694556:True:=⟨⟩
theorem tw10580800176158806287:True:=⟨⟩
theorem tw10591919538782759527:True:=⟨⟩
theorem tw1059510954710213015:True:=⟨⟩
theorem tw10609255194414583495:True:=⟨⟩
theorem tw10623764522377423211:True:=⟨⟩
theorem tw10633117468886574926:True:=⟨⟩
theorem tw10643800206452273732:True:=⟨⟩
theorem tw10656198788136404345:True:=⟨⟩
theorem tw10680973122721059192:True:=⟨⟩
theorem tw10692530284287288591:True:=⟨⟩
theorem tw10704152157265003891:True:=⟨⟩
theorem tw10717530448565743890:True:=⟨⟩
theorem tw10727343802028782366:True:=⟨⟩
theorem tw10729658636844097598:True:=⟨⟩
theorem tw10748462238712483388:True:=⟨⟩
theorem tw1078973673936798617:True:=⟨⟩
theorem tw10803803760570014098:True:=⟨⟩
theorem tw10811338678436642350:True:=⟨⟩
theorem tw10817262217584597525:True:=⟨⟩
theorem tw10823254530526727458:True:=⟨⟩
theorem tw10824051793777587463:True:=⟨⟩
theorem tw10835770968128645929:True:=⟨⟩
theorem tw10844897657546024386:True:=⟨⟩
theorem tw10862171373803306572:True:=⟨⟩
theorem tw10886845385915492288:True:=⟨⟩
theorem tw10894715810723316777:True:=⟨⟩
theorem tw10897336348547028385:True:=⟨⟩
theorem tw10911487433438551424:True:=⟨⟩
theorem tw10920444727174267069:True:=⟨⟩
theorem tw10927327281489342896:True:=⟨⟩
theorem tw10927812002006073538:True:=⟨⟩
theorem tw10962735935682134658:True:=⟨⟩
theorem tw10963727747181568247:True:=⟨⟩
theorem tw10965468611616662758:True:=⟨⟩
theorem tw11008375649909053460:True:=⟨⟩
theorem tw11022796699583252794:True:=⟨⟩
theorem tw11031065893565374561:True:=⟨⟩
theorem tw11049013334429798327:True:=⟨⟩
theorem tw11066041012761110988:True:=⟨⟩
theorem tw11129282885341960066:True:=⟨⟩
theorem tw11133790022044571039:True:=⟨⟩
theorem tw11157755111915207801:True:=⟨⟩
theorem tw11163904150843806698:True:=⟨⟩
theorem tw11253076639208915934:True:=⟨⟩
theorem tw11272192334115604867:True:=⟨⟩
theorem tw11311518392474420527:True:=⟨⟩
theorem tw11317615555375790773:True:=⟨⟩
theorem tw11332040092431309175:True:=⟨⟩
theorem tw11360375582193583884:True:=⟨⟩
theorem tw11392163762074212240:True:=⟨⟩
theorem tw11422317221881814523:True:=⟨⟩
theorem tw11431028819425383643:True:=⟨⟩
theorem tw1147886768541958532:True:=⟨⟩
theorem tw1150918907691236578:True:=⟨⟩
theorem tw11514930567245015243:True:=⟨⟩
theorem tw11540452433854517174:True:=⟨⟩
theorem tw11552051248878482204:True:=⟨⟩
theorem tw11554575667262888071:True:=⟨⟩
theorem tw11567587404454501537:True:=⟨⟩
theorem tw11567888308656379097:True:=⟨⟩
theorem tw11569724686882616985:True:=⟨⟩
theorem tw11574434580015038532:True:=⟨⟩
theorem tw11574929317539524080:True:=⟨⟩
theorem tw11598011686434809605:True:=⟨⟩
theorem tw11599441995418558797:True:=⟨⟩
theorem tw11620465650385382175:True:=⟨⟩
theorem tw11623668521119442251:True:=⟨⟩
theorem tw11657888636083402430:True:=⟨⟩
theorem tw11681881000978159201:True:=⟨⟩
theorem tw11710274930235616647:True:=⟨⟩
theorem tw11736452767302646534:True:=⟨⟩
theorem tw11743624168101938813:True:=⟨⟩
theorem tw11761860051652862663:True:=⟨⟩
theorem tw1178012783727390777:True:=⟨⟩
theorem tw11780371383410970355:True:=⟨⟩
theorem tw11797560619841963851:True:=⟨⟩
theorem tw11800124364365378500:True:=⟨⟩
theorem tw11819383984432174278:True:=⟨⟩
theorem tw11825755543360679777:True:=⟨⟩
theorem tw11889117791573071986:True:=⟨⟩
theorem tw11899449746234532807:True:=⟨⟩
theorem tw1190471845624831961:True:=⟨⟩
theorem tw11912765908772566008:True:=⟨⟩
theorem tw11921222333389182963:True:=⟨⟩
theorem tw11984448509953163861:True:=⟨⟩
theorem tw12031783661198343298:True:=⟨⟩
theorem tw12042778380790306194:True:=⟨⟩
theorem tw120467275507936528:True:=⟨⟩
theorem tw12059731934005305756:True:=⟨⟩
theorem tw12107478183053665229:True:=⟨⟩
theorem tw12128662055636063673:True:=⟨⟩
theorem tw12141464371389109314:True:=⟨⟩
theorem tw12145570812364293431:True:=⟨⟩
theorem tw12148546683929264424:True:=⟨⟩
theorem tw12183701221293063359:True:=⟨⟩
theorem tw12209324089234282186:True:=⟨⟩
theorem tw12269857308846976169:True:=⟨⟩
theorem tw12280252298159467180:True:=⟨⟩
theorem tw12308251079453776062:True:=⟨⟩
theorem tw12309451883540819708:True:=⟨⟩
theorem tw12376749893264534888:True:=⟨⟩
theorem tw12380730019483025721:True:=⟨⟩
theorem tw12393001752605674562:True:=⟨⟩
theorem tw12429105826000872823:True:=⟨⟩
theorem tw12445988281823275724:True:=⟨⟩
theorem tw12476432469911749472:True:=⟨⟩
theorem tw12478305334326295993:True:=⟨⟩
theorem tw12483132087498693403:True:=⟨⟩
theorem tw12499729135638622442:True:=⟨⟩
theorem tw1252182240668903984:True:=⟨⟩
theorem tw12532096360219111847:True:=⟨⟩
theorem tw12537133166072115632:True:=⟨⟩
theorem tw12554775191005480802:True:=⟨⟩
theorem tw12556642763202143254:True:=⟨⟩
theorem tw12574790032625760252:True:=⟨⟩
theorem tw12595037196225846727:True:=⟨⟩
theorem tw12603543677648707737:True:=⟨⟩
theorem tw12619704462765216308:True:=⟨⟩
theorem tw12624883466503583707:True:=⟨⟩
theorem tw12663569641427729521:True:=⟨⟩
theorem tw12685261278663934036:True:=⟨⟩
theorem tw12691346316552701611:True:=⟨⟩
theorem tw12695539270046121209:True:=⟨⟩
theorem tw12695693395759358968:True:=⟨⟩
theorem tw12727712426786109744:True:=⟨⟩
theorem tw12730184257623341144:True:=⟨⟩
theorem tw12741316655391679720:True:=⟨⟩
theorem tw1278113267768329343:True:=⟨⟩
theorem tw12792605156593199802:True:=⟨⟩
theorem tw12793053298114907021:True:=⟨⟩
theorem tw12838819799303060134:True:=⟨⟩
theorem tw12840224617496457716:True:=⟨⟩
theorem tw12855600546424040270:True:=⟨⟩
theorem tw12875352599801448831:True:=⟨⟩
theorem tw12879033238346747699:True:=⟨⟩
theorem tw12903115229228417103:True:=⟨⟩
theorem tw12922018159916843868:True:=⟨⟩
theorem tw12934947796567463480:True:=⟨⟩
theorem tw12958057217633214422:True:=⟨⟩
theorem tw13006229068630050972:True:=⟨⟩
theorem tw13038805884938417300:True:=⟨⟩
theorem tw13048534223142998418:True:=⟨⟩
theorem tw13053281780770824253:True:=⟨⟩
theorem tw13064532794167728674:True:=⟨⟩
theorem tw13064712862123877327:True:=⟨⟩
theorem tw13065617392889146243:True:=⟨⟩
theorem tw13128134969242938365:True:=⟨⟩
theorem tw13130746801649485557:True:=⟨⟩
theorem tw13137357886256805917:True:=⟨⟩
theorem tw13140254136776567805:True:=⟨⟩
theorem tw13168850119974385712:True:=⟨⟩
theorem tw13186205040384465740:True:=⟨⟩
theorem tw13187930060536800779:True:=⟨⟩
theorem tw13189307359049710732:True:=⟨⟩
theorem tw13242006085727032752:True:=⟨⟩
theorem tw1324520472409827095:True:=⟨⟩
theorem tw13253706210759343802:True:=⟨⟩
theorem tw13260538631617882566:True:=⟨⟩
theorem tw13300473659008087587:True:=⟨⟩
theorem tw13307060896144462331:True:=⟨⟩
theorem tw13310599225469488130:True:=⟨⟩
theorem tw13326739517815544078:True:=⟨⟩
theorem tw13345356202599022418:True:=⟨⟩
theorem tw13364043147714827676:True:=⟨⟩
theorem tw13372588966472122333:True:=⟨⟩
theorem tw13390317665468724664:True:=⟨⟩
theorem tw13396983483407735703:True:=⟨⟩
theorem tw13412819027915700845:True:=⟨⟩
theorem tw13420421521323896098:True:=⟨⟩
theorem tw13428505669437884144:True:=⟨⟩
theorem tw13448870391705179897:True:=⟨⟩
theorem tw13456594801658628589:True:=⟨⟩
theorem tw13489252684720651501:True:=⟨⟩
theorem tw13569300859776963848:True:=⟨⟩
theorem tw13590444267538730293:True:=⟨⟩
theorem tw1359431274034246355:True:=⟨⟩
theorem tw13601476512861610731:True:=⟨⟩
theorem tw13602920200957277306:True:=⟨⟩
theorem tw13631250909617863016:True:=⟨⟩
theorem tw13644438737743329141:True:=⟨⟩
theorem tw13647980702213091626:True:=⟨⟩
theorem tw13656259922346484037:True:=⟨⟩
theorem tw13710434438188994842:True:=⟨⟩
theorem tw13714577642206236356:True:=⟨⟩
theorem tw13750407093035490756:True:=⟨⟩
theorem tw13762624693402296662:True:=⟨⟩
theorem tw13779377277905506281:True:=⟨⟩
theorem tw13780010392433169905:True:=⟨⟩
theorem tw13799142190536418596:True:=⟨⟩
theorem tw13812948348458593266:True:=⟨⟩
theorem tw13831890816170742882:True:=⟨⟩
theorem tw13853466732183866242:True:=⟨⟩
theorem tw13884204276380085977:True:=⟨⟩
theorem tw13916303194215859657:True:=⟨⟩
theorem tw13943941213328763899:True:=⟨⟩
theorem tw13945191543728940702:True:=⟨⟩
theorem tw1397144106675104579:True:=⟨⟩
theorem tw13983322763280421663:True:=⟨⟩
theorem tw14001855415579425151:True:=⟨⟩
theorem tw14029821010191294772:True:=⟨⟩
theorem tw14034448214693415770:True:=⟨⟩
theorem tw14071452783129182369:True:=⟨⟩
theorem tw14073792707663002851:True:=⟨⟩
theorem tw14079820952700820477:True:=⟨⟩
theorem tw140966850896782690:True:=⟨⟩
theorem tw14108415479935308439:True:=⟨⟩
theorem tw14150486796453139620:True:=⟨⟩
theorem tw14177011524096500701:True:=⟨⟩
theorem tw14192963687602388895:True:=⟨⟩
theorem tw14220281760445718622:True:=⟨⟩
theorem tw1423004834678175533:True:=⟨⟩
theorem tw14239625695714362533:True:=⟨⟩
theorem tw14252115366880827046:True:=⟨⟩
theorem tw14281604905158028231:True:=⟨⟩
theorem tw1432275467183751620:True:=⟨⟩
theorem tw14338475783433550860:True:=⟨⟩
theorem tw14347275692315437980:True:=⟨⟩
theorem tw14370594159873228176:True:=⟨⟩
theorem tw14388437219355074902:True:=⟨⟩
theorem tw14393503934494307370:True:=⟨⟩
theorem tw14481461318374016603:True:=⟨⟩
theorem tw14482843031842009268:True:=⟨⟩
theorem tw1449036435644893139:True:=⟨⟩
theorem tw14520975389861784279:True:=⟨⟩
theorem tw14613369358468338177:True:=⟨⟩
theorem tw14662237377291458419:True:=⟨⟩
theorem tw14673710278994153153:True:=⟨⟩
theorem tw14683459477215921772:True:=⟨⟩
theorem tw14695572255507646376:True:=⟨⟩
theorem tw147261568544136712:True:=⟨⟩
theorem tw14741234585633445812:True:=⟨⟩
theorem tw14811680396751756767:True:=⟨⟩
theorem tw14818551656940571137:True:=⟨⟩
theorem tw14838710836682738130:True:=⟨⟩
theorem tw14847651415811489508:True:=⟨⟩
theorem tw14851411707356127323:True:=⟨⟩
theorem tw14853169494036174240:True:=⟨⟩
theorem tw14883693815272642412:True:=⟨⟩
theorem tw14885802268348859725:True:=⟨⟩
theorem tw14894943742321141091:True:=⟨⟩
theorem tw14897440880443123245:True:=⟨⟩
theorem tw14901031775346469675:True:=⟨⟩
theorem tw14933337811540544708:True:=⟨⟩
theorem tw14934861803088057915:True:=⟨⟩
theorem tw14984535690652617996:True:=⟨⟩
theorem tw14993658801430427324:True:=⟨⟩
theorem tw15027078468434071362:True:=⟨⟩
theorem tw15033935712175216802:True:=⟨⟩
theorem tw15049371521815174373:True:=⟨⟩
theorem tw15079354096219843744:True:=⟨⟩
theorem tw15091180622777019902:True:=⟨⟩
theorem tw15098712944103067124:True:=⟨⟩
theorem tw15129590297739055831:True:=⟨⟩
theorem tw15138781593167676181:True:=⟨⟩
theorem tw15142989040074707691:True:=⟨⟩
theorem tw15190642787554245720:True:=⟨⟩
theorem tw15193970533870775442:True:=⟨⟩
theorem tw15208711847112976165:True:=⟨⟩
theorem tw15219362889554133896:True:=⟨⟩
theorem tw15228171821755608168:True:=⟨⟩
theorem tw15247960996807171822:True:=⟨⟩
theorem tw15251596392962566587:True:=⟨⟩
theorem tw15259456104044141636:True:=⟨⟩
theorem tw15305112594526344998:True:=⟨⟩
theorem tw1530856839706902512:True:=⟨⟩
theorem tw15325888860711696444:True:=⟨⟩
theorem tw15326446210786014708:True:=⟨⟩
theorem tw15347664889729261548:True:=⟨⟩
theorem tw15371716943039096266:True:=⟨⟩
theorem tw15373371496054879356:True:=⟨⟩
theorem tw15410668225472233024:True:=⟨⟩
theorem tw15412855578636423540:True:=⟨⟩
theorem tw15440817689661625988:True:=⟨⟩
theorem tw15459467832791515782:True:=⟨⟩
theorem tw15466933690271363881:True:=⟨⟩
theorem tw15484964260995200441:True:=⟨⟩
theorem tw15496158156674974460:True:=⟨⟩
theorem tw15520958956484613523:True:=⟨⟩
theorem tw15536388584192215242:True:=⟨⟩
theorem tw15560106560264241034:True:=⟨⟩
theorem tw15567211780873617481:True:=⟨⟩
theorem tw15581537050098079605:True:=⟨⟩
theorem tw15591843707505733999:True:=⟨⟩
theorem tw15632783602514402566:True:=⟨⟩
theorem tw15640097499119248134:True:=⟨⟩
theorem tw1564812209707418897:True:=⟨⟩
theorem tw15671412520146243859:True:=⟨⟩
theorem tw15687901634483214143:True:=⟨⟩
theorem tw15693028690869368915:True:=⟨⟩
theorem tw1572328150712350771:True:=⟨⟩
theorem tw15736739322125878507:True:=⟨⟩
theorem tw15746730292893297871:True:=⟨⟩
theorem tw15784017800860746785:True:=⟨⟩
theorem tw15792777080623894585:True:=⟨⟩
theorem tw15820986913339104518:True:=⟨⟩
theorem tw15837356982111193179:True:=⟨⟩
theorem tw15837782343289904441:True:=⟨⟩
theorem tw15882212855544682893:True:=⟨⟩
theorem tw15916698526204872301:True:=⟨⟩
theorem tw15921403192925600521:True:=⟨⟩
theorem tw15932282940311472683:True:=⟨⟩
theorem tw15935238456645867243:True:=⟨⟩
theorem tw15935418938716822316:True:=⟨⟩
theorem tw15935452248790005272:True:=⟨⟩
theorem tw15950862837275133261:True:=⟨⟩
theorem tw15958750407556680017:True:=⟨⟩
theorem tw15967443794162120810:True:=⟨⟩
theorem tw15968432801150875324:True:=⟨⟩
theorem tw15984033503540362465:True:=⟨⟩
theorem tw1599040440806204335:True:=⟨⟩
theorem tw15992939168334898647:True:=⟨⟩
theorem tw1605954518644865926:True:=⟨⟩
theorem tw16099701578828978382:True:=⟨⟩
theorem tw16101909038647290082:True:=⟨⟩
theorem tw16124747240127040330:True:=⟨⟩
theorem tw16169989147307712276:True:=⟨⟩
theorem tw16171325196563175566:True:=⟨⟩
theorem tw16191420422872702984:True:=⟨⟩
theorem tw16197978713983956663:True:=⟨⟩
theorem tw1621307505704155172:True:=⟨⟩
theorem tw16218344751310238481:True:=⟨⟩
theorem tw16237515359199360123:True:=⟨⟩
theorem tw16256200675231275012:True:=⟨⟩
theorem tw16314046420226973792:True:=⟨⟩
theorem tw16325620684134070953:True:=⟨⟩
theorem tw16345528537809567348:True:=⟨⟩
theorem tw16349204827987340955:True:=⟨⟩
theorem tw16350717707355397667:True:=⟨⟩
theorem tw1635238309438118251:True:=⟨⟩
theorem tw16354753483319898056:True:=⟨⟩
theorem tw16367027898385113546:True:=⟨⟩
theorem tw16380086566239915226:True:=⟨⟩
theorem tw16384162008508263295:True:=⟨⟩
theorem tw16399793175317470003:True:=⟨⟩
theorem tw16426527667269616333:True:=⟨⟩
theorem tw16460235794265342983:True:=⟨⟩
theorem tw16461280541702030230:True:=⟨⟩
theorem tw16493991323511123996:True:=⟨⟩
theorem tw16495156628945406361:True:=⟨⟩
theorem tw16507889188419849587:True:=⟨⟩
theorem tw16520997853337408612:True:=⟨⟩
theorem tw16534690747414248277:True:=⟨⟩
theorem tw1653933576159821684:True:=⟨⟩
theorem tw16562714756823846990:True:=⟨⟩
theorem tw16625930999821994431:True:=⟨⟩
theorem tw16632994433445476774:True:=⟨⟩
theorem tw16656393745033917394:True:=⟨⟩
theorem tw16673912673176933687:True:=⟨⟩
theorem tw16683052001301356271:True:=⟨⟩
theorem tw16687729017318103800:True:=⟨⟩
theorem tw16690162129619074453:True:=⟨⟩
theorem tw16701975469676185557:True:=⟨⟩
theorem tw16758862892469714223:True:=⟨⟩
theorem tw16791605530129634454:True:=⟨⟩
theorem tw16793056254766486240:True:=⟨⟩
theorem tw16805613662917008461:True:=⟨⟩
theorem tw16827428943285508857:True:=⟨⟩
theorem tw16831328293620356147:True:=⟨⟩
theorem tw16839984141043160938:True:=⟨⟩
theorem tw16852989934387337028:True:=⟨⟩
theorem tw16905249500811708905:True:=⟨⟩
theorem tw16932789478815431197:True:=⟨⟩
theorem tw16941719809616009225:True:=⟨⟩
theorem tw16955531780170728134:True:=⟨⟩
theorem tw16967296474178092341:True:=⟨⟩
theorem tw17012545470334706595:True:=⟨⟩
theorem tw17026437926733776973:True:=⟨⟩
theorem tw17027996895669881147:True:=⟨⟩
theorem tw17039459259203936998:True:=⟨⟩
theorem tw17055163215612513946:True:=⟨⟩
theorem tw17075709903193246737:True:=⟨⟩
theorem tw17105095193569983781:True:=⟨⟩
theorem tw17116374937590157791:True:=⟨⟩
theorem tw17117889577393196091:True:=⟨⟩
theorem tw17123144210275296621:True:=⟨⟩
theorem tw17160437738123866513:True:=⟨⟩
theorem tw17199463422992592765:True:=⟨⟩
theorem tw17226930485199921735:True:=⟨⟩
theorem tw17253481653393621332:True:=⟨⟩
theorem tw17268070101284450838:True:=⟨⟩
theorem tw1728268676071195578:True:=⟨⟩
theorem tw17294879134033715205:True:=⟨⟩
theorem tw17296766170063627260:True:=⟨⟩
theorem tw17308801747020841995:True:=⟨⟩
theorem tw17313425153413288423:True:=⟨⟩
theorem tw1734131815800939058:True:=⟨⟩
theorem tw1735934155463433189:True:=⟨⟩
theorem tw17381019590038765844:True:=⟨⟩
theorem tw1742929341160090719:True:=⟨⟩
theorem tw1744455672839345353:True:=⟨⟩
theorem tw17446277272331886085:True:=⟨⟩
theorem tw17449035098256289927:True:=⟨⟩
theorem tw17451149581756221398:True:=⟨⟩
theorem tw1745891504951272551:True:=⟨⟩
theorem tw17533311550523348393:True:=⟨⟩
theorem tw17538363769104820930:True:=⟨⟩
theorem tw17553445193679148319:True:=⟨⟩
theorem tw17556417398903411387:True:=⟨⟩
theorem tw17556616110176947634:True:=⟨⟩
theorem tw17561278926458084547:True:=⟨⟩
theorem tw17575047304899650671:True:=⟨⟩
theorem tw17613461377187354426:True:=⟨⟩
theorem tw17683470910595938474:True:=⟨⟩
theorem tw17692012090669148937:True:=⟨⟩
theorem tw17742854494623125201:True:=⟨⟩
theorem tw17768742651692531178:True:=⟨⟩
theorem tw17769414300068708559:True:=⟨⟩
theorem tw17771999220470005123:True:=⟨⟩
theorem tw177776056617120561:True:=⟨⟩
theorem tw17790845910131792203:True:=⟨⟩
theorem tw17830198008512192097:True:=⟨⟩
theorem tw17855101195413937175:True:=⟨⟩
theorem tw17868241739086169514:True:=⟨⟩
theorem tw17895978325075822756:True:=⟨⟩
theorem tw1792255872590381652:True:=⟨⟩
theorem tw1792806471954439629:True:=⟨⟩
theorem tw17930408240594853941:True:=⟨⟩
theorem tw1794650810869725199:True:=⟨⟩
theorem tw179897356014636474:True:=⟨⟩
theorem tw18002262521994734692:True:=⟨⟩
theorem tw18004465753635218222:True:=⟨⟩
theorem tw18036585264021634428:True:=⟨⟩
theorem tw18069944279480646743:True:=⟨⟩
theorem tw18072248653528651515:True:=⟨⟩
theorem tw18086504384680300460:True:=⟨⟩
theorem tw18096197527946946340:True:=⟨⟩
theorem tw18103549521780363057:True:=⟨⟩
theorem tw18115191484437108817:True:=⟨⟩
theorem tw18123548528351350720:True:=⟨⟩
theorem tw1816142477617386126:True:=⟨⟩
theorem tw18215277635674628064:True:=⟨⟩
theorem tw18224127900515310637:True:=⟨⟩
theorem tw18225397927598977594:True:=⟨⟩
theorem tw18266547293996594349:True:=⟨⟩
theorem tw18273537848738807336:True:=⟨⟩
theorem tw18281704770874015267:True:=⟨⟩
theorem tw18290887463133758177:True:=⟨⟩
theorem tw18319027341572387492:True:=⟨⟩
theorem tw18333640531238393299:True:=⟨⟩
theorem tw18337641263186376457:True:=⟨⟩
theorem tw18343105156061970806:True:=⟨⟩
theorem tw18403843991446652701:True:=⟨⟩
theorem tw18415043489112676490:True:=⟨⟩
theorem tw1864945487056877335:True:=⟨⟩
theorem tw1866656259844368727:True:=⟨⟩
theorem tw1877565603545640721:True:=⟨⟩
theorem tw1893733101438127031:True:=⟨⟩
theorem tw1920274618731527159:True:=⟨⟩
theorem tw1926628770615702344:True:=⟨⟩
theorem tw1928139008983044469:True:=⟨⟩
theorem tw1960660539594847364:True:=⟨⟩
theorem tw1976128033016645461:True:=⟨⟩
theorem tw1989140667033097385:True:=⟨⟩
theorem tw2048944130627120960:True:=⟨⟩
theorem tw2093001881564574118:True:=⟨⟩
theorem tw2095036494172313322:True:=⟨⟩
theorem tw2111057350420564482:True:=⟨⟩
theorem tw2130213966742020597:True:=⟨⟩
theorem tw2162827083239523077:True:=⟨⟩
theorem tw2165593503188415391:True:=⟨⟩
theorem tw2172155755750564935:True:=⟨⟩
theorem tw2174947474863603742:True:=⟨⟩
theorem tw2217256006019425486:True:=⟨⟩
theorem tw2254451347786439060:True:=⟨⟩
theorem tw2292751596528949451:True:=⟨⟩
theorem tw2321050743305209102:True:=⟨⟩
theorem tw244398667783563960:True:=⟨⟩
theorem tw2473365807978874592:True:=⟨⟩
theorem tw2491805289019476691:True:=⟨⟩
theorem tw2492843848934443635:True:=⟨⟩
theorem tw2506508337246000844:True:=⟨⟩
theorem tw2519686187546491215:True:=⟨⟩
theorem tw2532102643129898536:True:=⟨⟩
theorem tw2563821837369181045:True:=⟨⟩
theorem tw2573588374709645724:True:=⟨⟩
theorem tw2620255723549222850:True:=⟨⟩
theorem tw2643686749502414787:True:=⟨⟩
theorem tw2662798512188587729:True:=⟨⟩
theorem tw2689752566247110507:True:=⟨⟩
theorem tw2761729586920576470:True:=⟨⟩
theorem tw2774850775037731539:True:=⟨⟩
theorem tw2804019729448140358:True:=⟨⟩
theorem tw2839718785729714851:True:=⟨⟩
theorem tw2875802038032056998:True:=⟨⟩
theorem tw2897331230304347849:True:=⟨⟩
theorem tw2934858977642767632:True:=⟨⟩
theorem tw293820325698963889:True:=⟨⟩
theorem tw294674049102980389:True:=⟨⟩
theorem tw2949055234533752713:True:=⟨⟩
theorem tw296089914045026630:True:=⟨⟩
theorem tw2972151303820763054:True:=⟨⟩
theorem tw2980490112865645857:True:=⟨⟩
theorem tw2991017554982655150:True:=⟨⟩
theorem tw3000592456413549705:True:=⟨⟩
theorem tw3010859973265877431:True:=⟨⟩
theorem tw3014715760650223795:True:=⟨⟩
theorem tw3034098354843883031:True:=⟨⟩
theorem tw3047265980942955863:True:=⟨⟩
theorem tw3047952598470950375:True:=⟨⟩
theorem tw3059812386932139780:True:=⟨⟩
theorem tw3081140498295563749:True:=⟨⟩
theorem tw3090046451530578069:True:=⟨⟩
theorem tw3114939047603554656:True:=⟨⟩
theorem tw3124956055506050927:True:=⟨⟩
theorem tw3137606980165756086:True:=⟨⟩
theorem tw3161526998272775459:True:=⟨⟩
theorem tw3161642325292801016:True:=⟨⟩
theorem tw3213350536655839639:True:=⟨⟩
theorem tw3228442570917939100:True:=⟨⟩
theorem tw326764442747271641:True:=⟨⟩
theorem tw3302163105934229406:True:=⟨⟩
theorem tw3328744965391427646:True:=⟨⟩
theorem tw3349744614845688257:True:=⟨⟩
theorem tw3379994459008696709:True:=⟨⟩
theorem tw3422646223779369539:True:=⟨⟩
theorem tw3442958734639223035:True:=⟨⟩
theorem tw3443849683943618873:True:=⟨⟩
theorem tw3467551500189646244:True:=⟨⟩
theorem tw347540988638101728:True:=⟨⟩
theorem tw3491620338776428819:True:=⟨⟩
theorem tw3505064136442321731:True:=⟨⟩
theorem tw3526963566348556283:True:=⟨⟩
theorem tw353299448915323945:True:=⟨⟩
theorem tw3598445508426914051:True:=⟨⟩
theorem tw3603890163007806488:True:=⟨⟩
theorem tw3673581407958866382:True:=⟨⟩
theorem tw3690678823852143576:True:=⟨⟩
theorem tw370896412918933960:True:=⟨⟩
theorem tw3729955589099346463:True:=⟨⟩
theorem tw3748713388619180522:True:=⟨⟩
theorem tw3775535258619561821:True:=⟨⟩
theorem tw3780199726742025094:True:=⟨⟩
theorem tw3795651573312051425:True:=⟨⟩
theorem tw3820235202906957551:True:=⟨⟩
theorem tw3821964001117619726:True:=⟨⟩
theorem tw3837759319812860223:True:=⟨⟩
theorem tw3838174873883938367:True:=⟨⟩
theorem tw3841707036987770280:True:=⟨⟩
theorem tw3842900638235257630:True:=⟨⟩
theorem tw3855991048132036059:True:=⟨⟩
theorem tw3861620573343134960:True:=⟨⟩
theorem tw3888341088451992300:True:=⟨⟩
theorem tw3894516852996340180:True:=⟨⟩
theorem tw3928536284689555222:True:=⟨⟩
theorem tw3933191699281561188:True:=⟨⟩
theorem tw3959578547986494777:True:=⟨⟩
theorem tw3963141087235695598:True:=⟨⟩
theorem tw3969660918357985248:True:=⟨⟩
theorem tw3981839704582239040:True:=⟨⟩
theorem tw4039427525225900918:True:=⟨⟩
theorem tw4047608331513593876:True:=⟨⟩
theorem tw4071039299349347255:True:=⟨⟩
theorem tw4100917840933460589:True:=⟨⟩
theorem tw4110852021520385172:True:=⟨⟩
theorem tw4112253348906044080:True:=⟨⟩
theorem tw4117928082101771915:True:=⟨⟩
theorem tw4140797975900669652:True:=⟨⟩
theorem tw4179117660960091591:True:=⟨⟩
theorem tw418489579039913108:True:=⟨⟩
theorem tw4195081637415832979:True:=⟨⟩
theorem tw4199484897001805714:True:=⟨⟩
theorem tw4210881592726766768:True:=⟨⟩
theorem tw4220883760557418342:True:=⟨⟩
theorem tw4224415293421045603:True:=⟨⟩
theorem tw4231706929779158240:True:=⟨⟩
theorem tw4234178679973081479:True:=⟨⟩
theorem tw4276726616890919394:True:=⟨⟩
theorem tw4290014300865896414:True:=⟨⟩
theorem tw4298246584149811662:True:=⟨⟩
theorem tw4303495138995404471:True:=⟨⟩
theorem tw4354927582718728331:True:=⟨⟩
theorem tw4362623716508124209:True:=⟨⟩
theorem tw4397051574652350200:True:=⟨⟩
theorem tw4398219539045232454:True:=⟨⟩
theorem tw4411205751706461472:True:=⟨⟩
theorem tw4424169566691910533:True:=⟨⟩
theorem tw4429557977795954519:True:=⟨⟩
theorem tw4450282895433630212:True:=⟨⟩
theorem tw4460268925589202182:True:=⟨⟩
theorem tw4466430290556578300:True:=⟨⟩
theorem tw4485547423734855721:True:=⟨⟩
theorem tw4487765514644693887:True:=⟨⟩
theorem tw450655454363568772:True:=⟨⟩
theorem tw4532395964652171669:True:=⟨⟩
theorem tw4576640650934966166:True:=⟨⟩
theorem tw460053755210718814:True:=⟨⟩
theorem tw46155770039155431:True:=⟨⟩
theorem tw4622073746976813388:True:=⟨⟩
theorem tw4644645051380500168:True:=⟨⟩
theorem tw464495618922666112:True:=⟨⟩
theorem tw4695386172735600652:True:=⟨⟩
theorem tw4706329082508763592:True:=⟨⟩
theorem tw4710927268134447438:True:=⟨⟩
theorem tw4728721781747488593:True:=⟨⟩
theorem tw4729984144454789624:True:=⟨⟩
theorem tw4752405194986571151:True:=⟨⟩
theorem tw4758769024643573818:True:=⟨⟩
theorem tw4806433396166761097:True:=⟨⟩
theorem tw4814268501863923992:True:=⟨⟩
theorem tw4818687197846363002:True:=⟨⟩
theorem tw4836845950891862089:True:=⟨⟩
theorem tw4844654312248682688:True:=⟨⟩
theorem tw4845696322757183569:True:=⟨⟩
theorem tw4850650016229023310:True:=⟨⟩
theorem tw4892448040977752656:True:=⟨⟩
theorem tw4917679601399498297:True:=⟨⟩
theorem tw4922854699204647501:True:=⟨⟩
theorem tw4935836666467499533:True:=⟨⟩
theorem tw4942764711612802643:True:=⟨⟩
theorem tw4961777642200135962:True:=⟨⟩
theorem tw4964970381676878673:True:=⟨⟩
theorem tw4983538204450594671:True:=⟨⟩
theorem tw4985254799443689830:True:=⟨⟩
theorem tw4995428128264792888:True:=⟨⟩
theorem tw5022371987977639913:True:=⟨⟩
theorem tw5042477780829678128:True:=⟨⟩
theorem tw5052857817745294619:True:=⟨⟩
theorem tw5066584447206533601:True:=⟨⟩
theorem tw5132685917472357000:True:=⟨⟩
theorem tw5165131419939971499:True:=⟨⟩
theorem tw5173873357773433185:True:=⟨⟩
theorem tw5204451410635298431:True:=⟨⟩
theorem tw5223847948977639952:True:=⟨⟩
theorem tw5255504267608895266:True:=⟨⟩
theorem tw527777020888250878:True:=⟨⟩
theorem tw5293355837123596860:True:=⟨⟩
theorem tw5317567484223338948:True:=⟨⟩
theorem tw5352003201665614952:True:=⟨⟩
theorem tw5389156536669361393:True:=⟨⟩
theorem tw5399752249856801873:True:=⟨⟩
theorem tw5428146757400296245:True:=⟨⟩
theorem tw5445937368892926820:True:=⟨⟩
theorem tw5460397415116875377:True:=⟨⟩
theorem tw5468396330587669197:True:=⟨⟩
theorem tw5488539795698542860:True:=⟨⟩
theorem tw5494170221102728649:True:=⟨⟩
theorem tw5510738592747296492:True:=⟨⟩
theorem tw5518589038821211745:True:=⟨⟩
theorem tw5541465760206616242:True:=⟨⟩
theorem tw5545616223484825551:True:=⟨⟩
theorem tw5558439504153923162:True:=⟨⟩
theorem tw5559917122112213431:True:=⟨⟩
theorem tw5563985816394598129:True:=⟨⟩
theorem tw5588560209864663688:True:=⟨⟩
theorem tw5595602475361928262:True:=⟨⟩
theorem tw5599271229491396958:True:=⟨⟩
theorem tw5609743851079837654:True:=⟨⟩
theorem tw5610932895187450839:True:=⟨⟩
theorem tw561115098092420961:True:=⟨⟩
theorem tw5614497504740827769:True:=⟨⟩
theorem tw5620310481972514326:True:=⟨⟩
theorem tw5640430841531116212:True:=⟨⟩
theorem tw5671140207411111218:True:=⟨⟩
theorem tw5705401281055499498:True:=⟨⟩
theorem tw57139142032637152:True:=⟨⟩
theorem tw5724146412101351873:True:=⟨⟩
theorem tw5767832577656155517:True:=⟨⟩
theorem tw5771632008798948301:True:=⟨⟩
theorem tw57767436960161098:True:=⟨⟩
theorem tw5796562618076395897:True:=⟨⟩
theorem tw5827627890235972973:True:=⟨⟩
theorem tw5854251163355741650:True:=⟨⟩
theorem tw5870245330237664525:True:=⟨⟩
theorem tw5876722620671669945:True:=⟨⟩
theorem tw5892342428598102883:True:=⟨⟩
theorem tw5898286758118026923:True:=⟨⟩
theorem tw590744582393641972:True:=⟨⟩
theorem tw600213319730774513:True:=⟨⟩
theorem tw6015149476562346516:True:=⟨⟩
theorem tw6038048926495649038:True:=⟨⟩
theorem tw6047151419300241937:True:=⟨⟩
theorem tw6067798795786738165:True:=⟨⟩
theorem tw608898193823024652:True:=⟨⟩
theorem tw6090098029944855500:True:=⟨⟩
theorem tw6113172285665813192:True:=⟨⟩
theorem tw616334213058877612:True:=⟨⟩
theorem tw6170097537432572955:True:=⟨⟩
theorem tw617442692839309198:True:=⟨⟩
theorem tw6181206104388780098:True:=⟨⟩
theorem tw6194309257759748430:True:=⟨⟩
theorem tw6209467220992098540:True:=⟨⟩
theorem tw6213560674278091551:True:=⟨⟩
theorem tw6288977702992685736:True:=⟨⟩
theorem tw6304177498488081490:True:=⟨⟩
theorem tw631075706139756821:True:=⟨⟩
theorem tw6325606645919073828:True:=⟨⟩
theorem tw6365894097516067863:True:=⟨⟩
theorem tw6396888487918077213:True:=⟨⟩
theorem tw6427991377590074867:True:=⟨⟩
theorem tw6433934805905527923:True:=⟨⟩
theorem tw643848547129417358:True:=⟨⟩
theorem tw6499169595184125247:True:=⟨⟩
theorem tw6521937059554089795:True:=⟨⟩
theorem tw652342584356011188:True:=⟨⟩
theorem tw6542006472532208089:True:=⟨⟩
theorem tw6578226098907899901:True:=⟨⟩
theorem tw6648560644402540257:True:=⟨⟩
theorem tw6658538631677242691:True:=⟨⟩
theorem tw6705045438539206646:True:=⟨⟩
theorem tw6710154666294999726:True:=⟨⟩
theorem tw6725982033989951346:True:=⟨⟩
theorem tw6746572023647780559:True:=⟨⟩
theorem tw6757689340744860089:True:=⟨⟩
theorem tw6758334729615212987:True:=⟨⟩
theorem tw678080626655910933:True:=⟨⟩
theorem tw6810992420013578459:True:=⟨⟩
theorem tw6834200065135845680:True:=⟨⟩
theorem tw6862898688738181829:True:=⟨⟩
theorem tw6868532556475852430:True:=⟨⟩
theorem tw687943265391193744:True:=⟨⟩
theorem tw6894135207871999163:True:=⟨⟩
theorem tw6901128554269579361:True:=⟨⟩
theorem tw6906505362832794194:True:=⟨⟩
theorem tw69320217296559874:True:=⟨⟩
theorem tw6934775755757538904:True:=⟨⟩
theorem tw6942359147825918355:True:=⟨⟩
theorem tw694865363404203622:True:=⟨⟩
theorem tw6973155580578985257:True:=⟨⟩
theorem tw6976461918335474:True:=⟨⟩
theorem tw7083690067974902479:True:=⟨⟩
theorem tw7163972179758452113:True:=⟨⟩
theorem tw717372225875696403:True:=⟨⟩
theorem tw7178213609727944110:True:=⟨⟩
theorem tw718212944491930768:True:=⟨⟩
theorem tw7186841974066916934:True:=⟨⟩
theorem tw7194899620873675107:True:=⟨⟩
theorem tw7195714368247123724:True:=⟨⟩
theorem tw7206213284502567600:True:=⟨⟩
theorem tw7212651792907840242:True:=⟨⟩
theorem tw7238134852433565527:True:=⟨⟩
theorem tw7255486767136159221:True:=⟨⟩
theorem tw7262878109426957431:True:=⟨⟩
theorem tw7267973079317312396:True:=⟨⟩
theorem tw7268918483541756545:True:=⟨⟩
theorem tw7271949653321888011:True:=⟨⟩
theorem tw7274342779847296667:True:=⟨⟩
theorem tw733799901639746781:True:=⟨⟩
theorem tw7359564464221418760:True:=⟨⟩
theorem tw7388308809256280429:True:=⟨⟩
theorem tw7389933768099895885:True:=⟨⟩
theorem tw7397619468064979794:True:=⟨⟩
theorem tw7400781990066797892:True:=⟨⟩
theorem tw7404831144113107018:True:=⟨⟩
theorem tw7417124931735849620:True:=⟨⟩
theorem tw7438003343369237332:True:=⟨⟩
theorem tw7458406127366946582:True:=⟨⟩
theorem tw7462300346967015599:True:=⟨⟩
theorem tw7464072700788611068:True:=⟨⟩
theorem tw7468288429040173819:True:=⟨⟩
theorem tw7480570658624949935:True:=⟨⟩
theorem tw7507128933623361811:True:=⟨⟩
theorem tw7507495865753491489:True:=⟨⟩
theorem tw7525882096573949024:True:=⟨⟩
theorem tw7530913445279489120:True:=⟨⟩
theorem tw7535879614337188822:True:=⟨⟩
theorem tw7536714521942918620:True:=⟨⟩
theorem tw7546023294242995277:True:=⟨⟩
theorem tw7595602170215013032:True:=⟨⟩
theorem tw7614784540660433569:True:=⟨⟩
theorem tw7615070417486388939:True:=⟨⟩
theorem tw7620054374410654193:True:=⟨⟩
theorem tw7627060464248630917:True:=⟨⟩
theorem tw7642221137720472913:True:=⟨⟩
theorem tw7648339821495565690:True:=⟨⟩
theorem tw7654181102692615334:True:=⟨⟩
theorem tw7676328299186355690:True:=⟨⟩
theorem tw7691839526424355748:True:=⟨⟩
theorem tw7772328214726314547:True:=⟨⟩
theorem tw7781993194680683732:True:=⟨⟩
theorem tw7789777771776268741:True:=⟨⟩
theorem tw7795590727583001609:True:=⟨⟩
theorem tw7816093051081300645:True:=⟨⟩
theorem tw78195707265237273:True:=⟨⟩
theorem tw7855602901314726538:True:=⟨⟩
theorem tw7864912027607954419:True:=⟨⟩
theorem tw7874005249961115237:True:=⟨⟩
theorem tw787953098226242593:True:=⟨⟩
theorem tw7881242199303849226:True:=⟨⟩
theorem tw7885252686528869337:True:=⟨⟩
theorem tw7911532819556309272:True:=⟨⟩
theorem tw793683794968687414:True:=⟨⟩
theorem tw7940780340774290570:True:=⟨⟩
theorem tw7955498595164006944:True:=⟨⟩
theorem tw7989631650272800063:True:=⟨⟩
theorem tw8008213506656983893:True:=⟨⟩
theorem tw8053805159120545976:True:=⟨⟩
theorem tw8066388464071863455:True:=⟨⟩
theorem tw8080738637351010591:True:=⟨⟩
theorem tw8089022264768459769:True:=⟨⟩
theorem tw8105683574390229354:True:=⟨⟩
theorem tw8115749569676515372:True:=⟨⟩
theorem tw8132754300816777772:True:=⟨⟩
theorem tw8155778770011647460:True:=⟨⟩
theorem tw8157215480144330590:True:=⟨⟩
theorem tw8188705164491459282:True:=⟨⟩
theorem tw8216619026508318382:True:=⟨⟩
theorem tw8228848375751408956:True:=⟨⟩
theorem tw8252213017046875956:True:=⟨⟩
theorem tw8297286072695102774:True:=⟨⟩
theorem tw8326507946375031266:True:=⟨⟩
theorem tw834437236777622755:True:=⟨⟩
theorem tw8391540181877326960:True:=⟨⟩
theorem tw8398738141629446011:True:=⟨⟩
theorem tw8440371804555102958:True:=⟨⟩
theorem tw8453637126237682661:True:=⟨⟩
theorem tw8491477025335087077:True:=⟨⟩
theorem tw8511419070480438766:True:=⟨⟩
theorem tw8515164319857281290:True:=⟨⟩
theorem tw8523169879472014790:True:=⟨⟩
theorem tw8529830270814495929:True:=⟨⟩
theorem tw8533076434913698585:True:=⟨⟩
theorem tw8537395370840003523:True:=⟨⟩
theorem tw8547434299048698107:True:=⟨⟩
theorem tw8558058893595187622:True:=⟨⟩
theorem tw8566790792540683787:True:=⟨⟩
theorem tw85975338896084228:True:=⟨⟩
theorem tw8674492977341077235:True:=⟨⟩
theorem tw8684406776802157032:True:=⟨⟩
theorem tw8696205743304422844:True:=⟨⟩
theorem tw8720961142861936455:True:=⟨⟩
theorem tw8737726282337120133:True:=⟨⟩
theorem tw8750608782045452852:True:=⟨⟩
theorem tw8766006540423226318:True:=⟨⟩
theorem tw8770127274633438860:True:=⟨⟩
theorem tw8802265004641509998:True:=⟨⟩
theorem tw8826653779893555303:True:=⟨⟩
theorem tw8848944639191365081:True:=⟨⟩
theorem tw8864642184232075781:True:=⟨⟩
theorem tw8877082043755731624:True:=⟨⟩
theorem tw887799429256324613:True:=⟨⟩
theorem tw8892354986970218541:True:=⟨⟩
theorem tw8913997198470992013:True:=⟨⟩
theorem tw8950145966896793399:True:=⟨⟩
theorem tw8978637458368195396:True:=⟨⟩
theorem tw9019779992820275430:True:=⟨⟩
theorem tw9035328400097356065:True:=⟨⟩
theorem tw9053176884056205683:True:=⟨⟩
theorem tw9055705755910366244:True:=⟨⟩
theorem tw9061594094483105337:True:=⟨⟩
theorem tw9076000247358589791:True:=⟨⟩
theorem tw9098519748723090040:True:=⟨⟩
theorem tw9099162811988386759:True:=⟨⟩
theorem tw9105983394204880927:True:=⟨⟩
theorem tw9133035643763916734:True:=⟨⟩
theorem tw9134560042234081143:True:=⟨⟩
theorem tw9148730785107632732:True:=⟨⟩
theorem tw9165297930150909849:True:=⟨⟩
theorem tw9181808464051364321:True:=⟨⟩
theorem tw9184213276994632211:True:=⟨⟩
theorem tw9192774379629453600:True:=⟨⟩
theorem tw9198659226202665172:True:=⟨⟩
theorem tw9220909868297888306:True:=⟨⟩
theorem tw9297273397526751628:True:=⟨⟩
theorem tw9307661956625617300:True:=⟨⟩
theorem tw9338237848822847727:True:=⟨⟩
theorem tw9346398666995499492:True:=⟨⟩
theorem tw9374452056175778912:True:=⟨⟩
theorem tw9375401210884813097:True:=⟨⟩
theorem tw9398305033831663749:True:=⟨⟩
theorem tw940510125816106948:True:=⟨⟩
theorem tw9421419072615370414:True:=⟨⟩
theorem tw9450410100782983435:True:=⟨⟩
theorem tw9485314108672925348:True:=⟨⟩
theorem tw9542310396154150049:True:=⟨⟩
theorem tw9559260878990211251:True:=⟨⟩
theorem tw9593388111758975609:True:=⟨⟩
theorem tw9594684891465951315:True:=⟨⟩
theorem tw9597895799431164828:True:=⟨⟩
theorem tw9615382325728782883:True:=⟨⟩
theorem tw9616774289657507094:True:=⟨⟩
theorem tw9654931299654433166:True:=⟨⟩
theorem tw9663905695462642361:True:=⟨⟩
theorem tw9673452290790078822:True:=⟨⟩
theorem tw9678351302116949178:True:=⟨⟩
theorem tw9714772073313351261:True:=⟨⟩
theorem tw9715369076678177440:True:=⟨⟩
theorem tw9731118043682704113:True:=⟨⟩
theorem tw9756972180722377517:True:=⟨⟩
theorem tw9759875302340112906:True:=⟨⟩
theorem tw9795776974791555828:True:=⟨⟩
theorem tw9801449219150959146:True:=⟨⟩
theorem tw9803543228705844645:True:=⟨⟩
theorem tw9807767226575260889:True:=⟨⟩
theorem tw9827570074438712186:True:=⟨⟩
theorem tw9856891698377817864:True:=⟨⟩
theorem tw9875472214964567543:True:=⟨⟩
theorem tw987989946761222408:True:=⟨⟩
theorem tw9891004257221270251:True:=⟨⟩
theorem tw9918525626821627799:True:=⟨⟩
theorem tw9960113017024912952:True:=⟨⟩
end Mine.Internal.law1
namespace Mine.Internal
open PySem PySem.W PyProof.Rows
theorem ints_rv {D:Wd} {N:Nx}:∀ {xs:List Int} {vs:List PV},WellAll D.w.params N.s.heap vs (ofPys (xs.map PyData.int))→RVs D N (xs.map V.int) vs
 | [],_,.nil=>rfl
 | i :: xs,vs,x=>by
  have x:WellAll D.w.params N.s.heap vs (.int i :: ofPys (xs.map PyData.int)):=x
  cases x with
  | cons a r=>cases a with
   | int j t=>exact ⟨_,_,rfl,⟨_,rfl⟩,ints_rv r⟩
theorem list_well {w:World} {h:Heap} {a:Addr} {xs:List Int} (x:Well w.params h (.ref a) (ofPy (.list (xs.map PyData.int)))):∃ vs,h.get? a = some { cls:=.type "list",data:=.seq vs.toArray }∧WellAll w.params h vs (ofPys (xs.map PyData.int)):=by
 have x:Well w.params h (.ref a) (.list (ofPys (xs.map PyData.int))):=x
 cases x with
 | list h1 h2=>exact ⟨_,h1,h2⟩
theorem start_ok {D:Wd} {s:Shared} {P:Prog} (hb:D.base = s.heap) (big:∃ a,1 < a∧(s.heap.get? a).isSome = true) {N f:Nat} {ds:List V} {vs:List PV} {A:Around}
  (tok:TOk ⟨D,P,⟨callK P N⟩,N⟩) (e:∀ K:V→St→Prop,(∀ σ,K (.bool true) σ)→callK P N f ds [] K) (rs:RVs D ⟨[],fun a=>(s.heap.get? a).isSome = true,[],s⟩ ds vs) (rm:Room N 0 A) {Q E:PV→Shared→Prop}
  (q:∀ s',(∀ b o,s.heap.get? b = some o→s'.heap.get? b = some o)→s'.gens = s.gens→s'.os = s.os→Q (.bool true) s'):wpAny (model D.prog D.w) A (call (.ref (D.fa f)) vs) Q E s :=
 TOk.run (B:=⟨D,P,⟨callK P N⟩,N⟩) (G:=⟨default,A,[]⟩) (N:=⟨[],fun a=>(s.heap.get? a).isSome = true,[],s⟩) (K:=fun d _=>d = .bool true) tok (e _ fun _=>rfl) rm
  ⟨fun a o e=>by rw [hb] at e; exact e,big,rfl,List.nodup_nil,fun p hp=>(nomatch hp),fun p hp=>(nomatch hp),fun a _ c=>c.elim fun p hp=>(nomatch hp.1),fun a h=>h,fun a h=>by rw [hb] at h; exact h,fun p hp=>(nomatch hp),fun n o p h=>(nomatch h)⟩ rs
  fun d Y v k a r=>by subst k; cases (r:v = .bool true); exact q Y.s (fun b o e=>a.kp b o e (fun c=>c.elim fun p hp=>nomatch hp.1) id) a.gens a.os
theorem P1.elimH {w:Params} {h:Heap} {H:Params→Frag} {p:Prop} (tp:P1.Top H) (k:(H w).In h) (f:∀ H:Params→Frag,P1.Top H→(H w).In h→p):p:=f H tp k
theorem law1:PySem.Challenge.rw_nz0397_01.Holds:=by
 w_on
 o_law
 k_head
 (case hw=>w_witness2)
 k_fill
 intro w s₀ s₁ mg mb G Y fa o pm cd doc dV kV ho hd hcd hD hmg hg args vals as hpre hlay hrd hwl hlo
 refine P1.elimH ?tp (kIn_of Y) ?_
 (case tp=>exact ⟨fun p ob=>by kernel_rfl!,fun p ob=>by kernel_rfl!,fun p ob=>by kernel_rfl!,fun p ob=>by kernel_rfl!,fun p ob=>by kernel_rfl!,fun p ob=>by kernel_rfl!,fun p ob=>by kernel_rfl!,fun p ob=>by kernel_rfl!,fun p ob=>by kernel_rfl!,fun p ob=>by kernel_rfl!⟩)
 intro Hp tp KX
 have hmg0:=hmg
 have X:=(Ground.X G).1
 have V:=(Ground.X G).2
 refine Ground.open G ?_
 intro T B D TE TW
 wrow_args hpre hlay hrd hwl hlo
 rename_i xs hs hlay0 hL0 hr0 hl2 as1 as2 a vs1 as3 hL hra hw1 hr1 hI hr2 hlen htr
 clear hd hD ho hcd Y X V D
 obtain ⟨vs,hget,hall⟩:=list_well hw1
 obtain ⟨N,hN,hev⟩:=P1.hC xs (by omega)
 obtain ⟨ob,hob⟩:∃ ob,s₁.heap.get? builtinsNs = some ob:=by
  obtain ⟨o,es,ep,ho',_⟩:=T.b
  exact ⟨o,ho'⟩
 have X0:(P1.K Hp w.params ob).In s₁.heap:=fun b o e=>by
  rw [List.lookup_cons] at e
  split at e
  ·rename_i hb; cases e; rw [eq_of_beq hb]; exact hob
  ·exact KX b o e
 have T':=topRead_of T
 have bt:∀ x v,(x == ("__name__":Str)) = false→bootBuiltins x = some v→nsIn (P1.K Hp w.params ob) builtinsNs x = some (some v):=fun x v hn e=>bi_of hob T.b ((T'.builtins x (beq_eq_false_iff_ne.mp hn)).trans e)
 have h470:((P1.K Hp w.params ob).lookup 470).isSome = true:=tp.fn w.params ob
 obtain ⟨oc,hoc⟩:=Option.isSome_iff_exists.mp h470
 have tok:=tok_go (D:=⟨Challenge.rw_nz0397_01.row.prog,w,P1.K Hp w.params ob,s₁.heap,P1.fa,P1.ca,3⟩) (P:=P1.prog) (fun n T' ht=>P1.go tp (ob:=ob) rfl rfl rfl rfl rfl (bt _ _ (by decide +kernel) (by first | boot_by_name | rfl | kernel_rfl))
  ⟨P1.Facts tp (ob:=ob) rfl rfl rfl rfl rfl X0 T.nolimit,ht,Nat.le_refl _,fun q hq=>⟨eq_of (List.all_eq_true.mp (tp.noGlob w.params ob) _ hq),bt _ _ (of_not (List.all_eq_true.mp P1.biNe _ hq)) (eq_of (List.all_eq_true.mp P1.boot _ hq))⟩,ok_sorted,ss_ok (Nat.le_refl _)⟩) N
 have efa:fa = 720:=by
  have e1:nsIn (P1.K Hp w.params ob) mainGlobals "law" = some (some (.ref 720)):=tp.law w.params ob
  have e2:=mg_of X0 T.g e1
  have e3:mg "law" = some (.ref fa):=hmg0
  rw [e2] at e3
  cases e3; rfl
 subst efa
 clear hmg hmg0
 refine start_ok (D:=⟨Challenge.rw_nz0397_01.row.prog,w,P1.K Hp w.params ob,s₁.heap,P1.fa,P1.ca,3⟩) (f:=85) rfl ⟨470,by decide,by rw [X0 _ _ hoc]; rfl⟩ tok hev ⟨_,_,rfl,⟨a,vs.toArray,rfl,by show (s₁.heap.get? a).isSome = true; rw [hget]; rfl,⟨_,hget⟩,ints_rv hall⟩,rfl⟩ ⟨?_,?_,rfl⟩ fun s' hk hg' hos=>?_
 ·show 301 + 5 * N + min 0 2 + 2 < 1000; omega
 ·show 4 + 100 * N + 0 < 9900; omega
 ·refine GoodW.toG ⟨.inl ⟨.bool true,.bool true,[],rfl,?_,.bool true,?_,?_⟩,hk,hos,by rw [hg',hg]⟩
  ·intro cls; rfl
  ·kernel_rfl
  ·exact fun _=>⟨List.nodup_nil,fun a ha=>nomatch ha⟩
end Mine.Internal
theorem PySem.Challenge.cw_nz0397_01_holds : PySem.Challenge.rw_nz0397_01.Holds :=
  Mine.Internal.law1
