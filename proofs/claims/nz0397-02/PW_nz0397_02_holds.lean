import PyProof.Rows.All
import Wide.All
import OpenK.AllK
import Wide.FinOn
import Lean
import PySem.Challenge.RW_nz0397_02
set_option autoImplicit false
set_option linter.unusedVariables false
set_option genSizeOf false
set_option bootstrap.genMatcherCode false
set_option genInjectivity false
set_option maxRecDepth 100000
set_option maxHeartbeats 8000000
set_option Elab.async true
set_option tactic.hygienic false
set_option hygiene false
namespace Mine.Internal
theorem nos{α:Type}{x:α}{p:Prop}(e:none=some x):p:=absurd e.symm (Option.some_ne_none x)
theorem aXq{α:Type}{x:α}{p:Prop}(e:some x=none):p:=absurd e (Option.some_ne_none x)
theorem nob{p:Prop}(e:false=true):p:=absurd e Bool.false_ne_true
theorem aMl{p:Prop}(e:true=false):p:=absurd e.symm Bool.false_ne_true
theorem fK{α:Type}{a:α}{p:Prop}(h:a∈([]:List α)):p:=absurd h List.not_mem_nil
@[elab_as_elim] theorem rwS.{u} {α:Sort u} {a b:α} {motive:α→Prop} (e:a=b) (h:motive b):motive a:=by rw[e]; exact h
@[elab_as_elim] theorem rwT.{u} {α:Sort u} {a b:α} {motive:α→Prop} (e:a=b) (h:motive a):motive b:=e▸h
theorem e1{α:Type}{p:α→Prop}{P:Prop}(h:∃x,p x)(k:∀x,p x→P):P:=h.elim k
theorem e12{α:Type}{p q:α→Prop}{P:Prop}(h:∃x,p x∧q x)(k:∀x,p x→q x→P):P:=h.elim fun x w=>k x w.1 w.2
theorem e13{α:Type}{p q r:α→Prop}{P:Prop}(h:∃x,p x∧q x∧r x)(k:∀x,p x→q x→r x→P):P:=h.elim fun x w=>k x w.1 w.2.1 w.2.2
theorem e14{α:Type}{p q r s:α→Prop}{P:Prop}(h:∃x,p x∧q x∧r x∧s x)(k:∀x,p x→q x→r x→s x→P):P:=h.elim fun x w=>k x w.1 w.2.1 w.2.2.1 w.2.2.2
theorem e15{α:Type}{p q r s t:α→Prop}{P:Prop}(h:∃x,p x∧q x∧r x∧s x∧t x)(k:∀x,p x→q x→r x→s x→t x→P):P:=h.elim fun x w=>k x w.1 w.2.1 w.2.2.1 w.2.2.2.1 w.2.2.2.2
theorem e21{α β:Type}{p:α→β→Prop}{P:Prop}(h:∃x y,p x y)(k:∀x y,p x y→P):P:=h.elim fun x w=>w.elim fun y w=>k x y w
theorem e22{α β:Type}{p q:α→β→Prop}{P:Prop}(h:∃x y,p x y∧q x y)(k:∀x y,p x y→q x y→P):P:=h.elim fun x w=>w.elim fun y w=>k x y w.1 w.2
theorem e23{α β:Type}{p q r:α→β→Prop}{P:Prop}(h:∃x y,p x y∧q x y∧r x y)(k:∀x y,p x y→q x y→r x y→P):P:=h.elim fun x w=>w.elim fun y w=>k x y w.1 w.2.1 w.2.2
theorem e24{α β:Type}{p q r s:α→β→Prop}{P:Prop}(h:∃x y,p x y∧q x y∧r x y∧s x y)(k:∀x y,p x y→q x y→r x y→s x y→P):P:=h.elim fun x w=>w.elim fun y w=>k x y w.1 w.2.1 w.2.2.1 w.2.2.2
theorem e25{α β:Type}{p q r s t:α→β→Prop}{P:Prop}(h:∃x y,p x y∧q x y∧r x y∧s x y∧t x y)(k:∀x y,p x y→q x y→r x y→s x y→t x y→P):P:=h.elim fun x w=>w.elim fun y w=>k x y w.1 w.2.1 w.2.2.1 w.2.2.2.1 w.2.2.2.2
theorem e32{α β γ:Type}{p q:α→β→γ→Prop}{P:Prop}(h:∃x y z,p x y z∧q x y z)(k:∀x y z,p x y z→q x y z→P):P:=h.elim fun x w=>w.elim fun y w=>w.elim fun z w=>k x y z w.1 w.2
theorem e33{α β γ:Type}{p q r:α→β→γ→Prop}{P:Prop}(h:∃x y z,p x y z∧q x y z∧r x y z)(k:∀x y z,p x y z→q x y z→r x y z→P):P:=h.elim fun x w=>w.elim fun y w=>w.elim fun z w=>k x y z w.1 w.2.1 w.2.2
theorem e34{α β γ:Type}{p q r s:α→β→γ→Prop}{P:Prop}(h:∃x y z,p x y z∧q x y z∧r x y z∧s x y z)(k:∀x y z,p x y z→q x y z→r x y z→s x y z→P):P:=h.elim fun x w=>w.elim fun y w=>w.elim fun z w=>k x y z w.1 w.2.1 w.2.2.1 w.2.2.2
theorem e02{p q P:Prop}(h:p∧q)(k:p→q→P):P:=k h.1 h.2
theorem e03{p q r P:Prop}(h:p∧q∧r)(k:p→q→r→P):P:=k h.1 h.2.1 h.2.2
theorem e04{p q r s P:Prop}(h:p∧q∧r∧s)(k:p→q→r→s→P):P:=k h.1 h.2.1 h.2.2.1 h.2.2.2
theorem e05{p q r s t P:Prop}(h:p∧q∧r∧s∧t)(k:p→q→r→s→t→P):P:=k h.1 h.2.1 h.2.2.1 h.2.2.2.1 h.2.2.2.2
theorem nnG{p:Prop}(h:(p→False)→False):p:=Classical.byContradiction h
inductive V where
 | none | bool (b:Bool) | int (i:Int) | str (s:Nat)
 | tup (l:List V) | list (l:List V) | dict (l:List (V × V)) | loc (n:Nat)
noncomputable def fU(l:List Nat):Nat:=l.foldl (fun a c=>a*2097152+(c+1)) 0
noncomputable def zT:Nat→Nat→List Nat
 | 0,_=>[]
 | k+1,n=>if n=0 then [] else zT k (n / 2097152)++[n % 2097152 - 1]
noncomputable def eU(s:Nat):Bool:=decide ((zT 1001 s).length≤1000)
noncomputable def zV(a b:Nat):Nat:=(zT 1001 b).foldl (fun a c=>a*2097152+(c+1)) a
noncomputable def aCt(n:Nat):List Nat:=(Nat.toDigits 10 n).map Char.toNat
mutual
noncomputable def V.beq:V→V→Bool
 | .none,.none=>true
 | .bool a,.bool b=>a==b
 | .int a,.int b=>decide (a=b)
 | .str a,.str b=>decide (a=b)
 | .tup a,.tup b=>jQ a b
 | .list a,.list b=>jQ a b
 | .dict a,.dict b=>aGj a b
 | .loc a,.loc b=>decide (a=b)
 | _,_=>false
noncomputable def jQ:List V→List V→Bool
 | [],[]=>true
 | a::r,b::t=>V.beq a b&&jQ r t
 | _,_=>false
noncomputable def aGj:List (V × V)→List (V × V)→Bool
 | [],[]=>true
 | (a,c)::r,(b,d)::t=>V.beq a b&&(V.beq c d&&aGj r t)
 | _,_=>false
end
noncomputable def cF:Nat→V→Bool
 | _,.none=>true
 | _,.int _=>true
 | _,.str _=>true
 | n+1,.tup l=>l.all (cF n)
 | n+1,.list l=>l.all (cF n)
 | _,_=>false
noncomputable def gZ:V→Bool
 | .bool _=>true
 | _=>false
noncomputable def nU(a b:V):Option Bool :=
 if (cF 24 a&&cF 24 b) || (gZ a&&gZ b) then some (V.beq a b) else none
noncomputable def zP(x:V)(l:List V):Option Bool:=if l.all (fun y=>(nU y x).isSome) then some (l.any fun y=>V.beq y x) else none
noncomputable def V.truthy:V→Option Bool
 | .bool b=>some b
 | _=>Option.none
inductive SObj where
 | inst (c:Nat) (fs:List (Nat × V))
 | dict (es:List (V × V))
 | list (l:List V)
 | dead
noncomputable abbrev St:=List SObj
inductive Bop where | add | sub | mul | mod | band | shr
inductive Cop where | eq | ne | lt | gt | ge | in_ | notIn | le
inductive Mth where | app | ext | upd | rem
inductive Bi where
 | len | list | tuple | dict | sorted | sortedSet | max | sum | abs | sortedK | items
set_option genCtorIdx false in
inductive Tg where
 | one (i:Nat)
 | many (is:List Nat)
mutual
inductive X where
 | cst (v:V)
 | var (i:Nat)
 | glob (k:Nat)
 | tup (es:List X)
 | list (es:List X)
 | dict (kvs:List X)
 | mut (e:X)
 | attr (e:X) (f:Nat)
 | item (e i:X)
 | sidx (cs:List V) (i:X)
 | sl (e lo hi:X)
 | bin (o:Bop) (a b:X)
 | and (es:List X)
 | or (es:List X)
 | cmp (o:Cop) (a b:X)
 | ite (c a b:X)
 | call (f:Nat) (args:List X)
 | meth (o:X) (m:Nat) (args:List X)
 | new (c:Nat) (args:List X)
 | bi (b:Bi) (args:List X)
 | get (e:X) (args:List X)
 | comp (c:C)
 | fstr (es:List X)
 | not (e:X)
 | sfind (e:X)
 | dkw (e:X) (ks:List (Nat × Nat))
inductive C where
 | elt (e:X)
 | gen (t:Tg) (s:Src) (ifs:List X) (r:C)
inductive Src where
 | val (e:X)
 | range (e:X)
 | enum (e:X)
 | zip (a b:X)
 | items (e:X)
end
set_option genCtorIdx false in
inductive Tgt where
 | name (i:Nat)
 | attr (o:X) (f:Nat)
 | item (o k:X)
inductive S where
 | asg (t:Tgt) (e:X)
 | asgT (is:List Nat) (e:X)
 | asgTs (w:Bool) (is:List Nat) (es:List X)
 | mth (m:Mth) (o e:X)
 | expr (e:X)
 | ite (c:X) (a b:List S)
 | for_ (t:Tg) (s:Src) (body:List S)
 | while_ (c:X) (body:List S)
 | ret (e:X)
 | raise
 | asgM (ts:List Tgt) (e:X)
 | letE (i:Nat) (e g nm m:X)
structure FDef where
 params:Nat
 slots:Nat
 body:List S
structure Prog where
 fn:Nat→Option FDef
 meth:Nat→Nat→Option Nat
 init:Nat→Option Nat
 glob:Nat→Option V
noncomputable abbrev aP:=List (Option V)
noncomputable def aU:Nat:=1000000
noncomputable def gD(fs:List (Nat × V))(f:Nat):Option V:=fs.lookup f
noncomputable def mD:List (Nat × V)→Nat→V→List (Nat × V)
 | [],f,v=>[(f,v)]
 | (g,w)::r,f,v=>if g=f then (g,v)::r else (g,w)::mD r f v
noncomputable def lA:V→Bool
 | .str _=>true
 | _=>false
noncomputable def zC:V→Bool
 | .tup l=>l.all fun | .str _=>true | _=>false
 | _=>false
noncomputable def aK(k:V):List (V × V)→Option V
 | []=>none
 | (a,b)::r=>if V.beq a k then some b else aK k r
noncomputable def aS(k v:V):List (V × V)→List (V × V)
 | []=>[(k,v)]
 | (a,b)::r=>if V.beq a k then (a,v)::r else (a,b)::aS k v r
noncomputable def uC:List V→List (V × V)→Option (List (V × V))
 | [],d=>some d
 | k::v::r,d=>if lA k then uC r (aS k v d) else none
 | _,_=>none
noncomputable def idx(n:Nat)(i:Int):Option Nat :=
 if 0≤i then (if i<n∧i≤1000000 then some i.toNat else none) else (if 0≤n+i∧-1000000≤i then some (n+i).toNat else none)
noncomputable def iQ(n:Nat)(i:Int):Nat :=
 (max 0 (min (if i<0 then i+n else i) n)).toNat
noncomputable def bX:List (List Int):=[[0],[1],[2]]
noncomputable def jY(k:List Int):V:=.tup (k.map .int)
noncomputable def aPg:List V:=bX.map jY
noncomputable def iH(r:V):Bool:=aPg.any (V.beq r)
noncomputable def iY(l:List V):List V:=aPg.filter fun r=>l.any fun x=>V.beq x r
noncomputable def fX:List Nat→List V→aP→aP
 | i::is,v::vs,ρ=>fX is vs (ρ.set i (some v))
 | _,_,ρ=>ρ
noncomputable def dQ(ρ:aP):Tg→V→Option aP
 | .one i,v=>some (ρ.set i (some v))
 | .many is,.tup l=>if is.length=l.length then some (fX is l ρ) else none
 | .many _,_=>none
noncomputable def Tg.slots:Tg→List Nat
 | .one i=>[i]
 | .many is=>is
noncomputable def C.slots:C→List Nat
 | .elt _=>[]
 | .gen t _ _ r=>t.slots++r.slots
noncomputable def clr(is:List Nat)(ρ:aP):aP:=is.foldl (fun ρ i=>ρ.set i none) ρ
noncomputable def rP:Option SObj→Option (List V)
 | some (.list l)=>some l
 | _=>none
noncomputable def tW:Option SObj→Option (List (V × V))
 | some (.dict l)=>some l
 | _=>none
noncomputable def cH(σ:St):V→Option (List V)
 | .tup l=>some l
 | .list l=>some l
 | .loc n=>rP σ[n]?
 | _=>none
noncomputable def fW:V→Option (List V)
 | .list l=>some l
 | _=>none
noncomputable def tJ:V→Option (List V)
 | .tup l=>some l
 | _=>none
noncomputable def jM:V→Option (List (V × V))
 | .dict l=>some l
 | _=>none
noncomputable def aXp:V→Option Nat
 | .loc n=>some n
 | _=>none
noncomputable def aO(σ:St):V→Option (List (V × V))
 | .dict l=>some l
 | .loc n=>tW σ[n]?
 | _=>none
noncomputable def rB(g:Option Nat)(l:List V)(σ:St):Prop:=match g with
 | none=>True
 | some n=>σ[n]?=some (.list l)
noncomputable def stO(l:List V):Option SObj→Bool
 | some (.list k)=>jQ k l
 | _=>false
noncomputable def dZ(g:Option Nat)(l:List V)(σ:St):Bool:=match g with
 | none=>true
 | some n=>stO l σ[n]?
noncomputable def rU(σ:St):V→Option (List V)
 | .list l=>some l
 | .loc n=>rP σ[n]?
 | _=>none
noncomputable def yW(n:Nat):Option SObj→V
 | some (.list l)=>.list l
 | _=>.loc n
noncomputable def iE(σ:St):V→V
 | .loc n=>yW n σ[n]?
 | v=>v
noncomputable def cR(l:List V):Option (List V):=if l.length≤aU then some l else none
noncomputable def kvS(k v:V):Option (Nat × V):=match k with
 | .str s=>some (s,v)
 | _=>none
noncomputable def kvL(l:List V):Option (Nat × V):=match l with
 | [k,v]=>kvS k v
 | _=>none
noncomputable def aWq(x:V):Option (Nat × V):=match x with
 | .tup l=>kvL l
 | _=>none
noncomputable def oT(d:List (V × V)):List V→Option (List (V × V))
 | []=>some d
 | x::r=>(aWq x).bind fun p=>oT (aS (.str p.1) p.2 d) r
noncomputable def cY:V→Option Int
 | .int i=>some i
 | _=>none
noncomputable def aPk:V→Option (List V)
 | .tup l=>some l
 | _=>none
noncomputable def one(l:List V)(f:V→Option V):Option V:=match l with
 | [v]=>f v
 | _=>none
noncomputable def bAo(σ:St)(v:V):Option V:=match v with
 | .dict l=>if l.length≤aU then some (.int l.length) else none
 | v=>((cH σ v).bind cR).map fun l=>.int l.length
noncomputable def aVt(σ:St)(v:V):Option V:=match v with
 | .list l=>((cR l).bind (oT [])).map .dict
 | v=>(aO σ v).bind fun l=>if l.length≤aU then some (.dict l) else none
noncomputable def aZs(l:List (V × V))(k v:V):Option V:=match k with
 | .str s=>some ((aK (.str s) l).getD v)
 | _=>none
noncomputable def aXt(l:List (V × V))(a:List V):Option V:=match a with
 | [k,v]=>aZs l k v
 | _=>none
noncomputable def yF:Int→List V→Option V
 | a,[]=>some (.int a)
 | a,x::r=>(cY x).bind fun i=>yF (a+i) r
noncomputable def aM:List Nat:=[111,121,122]
noncomputable def kOk(D:List (V × V)):Bool:=D.all fun q=>aM.any fun n=>V.beq q.1 (.str n)
noncomputable def vB(D:List (V × V)):List V:=(aM.filter fun n=>(aK (.str n) D).isSome).map .str
noncomputable def aFn(D:List (V × V))(ks:List (Nat × Nat)):List (V × V):=ks.foldl (fun d q=>aS (.str q.1) (.str q.2) d) D
noncomputable def zD(s:Nat):Option V:=if s=66 then some (.int 0) else if s=67 then some (.int 1) else if s=103 then some (.int 2) else none
noncomputable def yC:V→Option V
 | .str s=>zD s
 | _=>none
noncomputable def biE(σ:St)(b:Bi)(l:List V):Option V:=match b with
 | .len=>one l (bAo σ)
 | .list=>one l fun v=>((cH σ v).bind cR).map .list
 | .tuple=>one l fun v=>((cH σ v).bind cR).map .tup
 | .dict=>one l (aVt σ)
 | .sorted=>none
 | .sortedSet=>one l fun v=>(fW v).bind fun l=>if l.all iH=true∧l.length≤aU then some (.list (iY l)) else none
 | .max=>match l with
  | [a,b]=>(cY a).bind fun a=>(cY b).map fun b=>.int (if a<b then b else a)
  | _=>none
 | .sum=>one l fun v=>(fW v).bind (yF 0)
 | .abs=>one l fun v=>(cY v).map fun i=>.int (if i<0 then -i else i)
 | .sortedK=>one l fun v=>(aO σ v).bind fun D=>if kOk D&&decide (D.length≤3) then some (.list (vB D)) else none
 | .items=>one l fun v=>(aO σ v).bind fun l=>if l.length≤aU then some (.list (l.map fun (q:V × V)=>V.tup [q.1,q.2])) else none
noncomputable def bBr(σ:St)(a b:V):Option V:=match a with
 | .int a=>(cY b).map fun b=>.int (a+b)
 | .tup a=>(aPk b).bind fun b=>(cR (a++b)).map .tup
 | a=>(rU σ a).bind fun a=>(rU σ b).bind fun b=>(cR (a++b)).map .list
noncomputable def uM(σ:St)(o:Bop)(a b:V):Option V:=match o with
 | .add=>bBr σ a b
 | .sub=>(cY a).bind fun a=>(cY b).map fun b=>.int (a - b)
 | .mul=>(cY a).bind fun a=>(cY b).bind fun b=>if a.natAbs≤1000000∧b.natAbs≤1000000 then some (.int (a*b)) else none
 | .mod=>(cY a).bind fun a=>(cY b).bind fun b=>if 0<b then some (.int (a % b)) else none
 | .band=>(cY a).bind fun a=>(cY b).bind fun b=>if 0≤a∧0≤b then some (.int ((a.toNat &&& b.toNat:Nat):Int)) else none
 | .shr=>(cY a).bind fun a=>(cY b).bind fun b=>if 0≤b then some (.int (a.fdiv (2 ^ b.toNat))) else none
noncomputable def inD(k:V)(l:List (V × V)):Option Bool:=if lA k then some (aK k l).isSome else if zC k&&l.isEmpty then some false else none
noncomputable def inE(σ:St)(k d:V):Option Bool:=match cH σ d with
 | some l=>zP k l
 | none=>(aO σ d).bind (inD k)
noncomputable def aEh(a b:V)(f:Int→Int→Bool):Option Bool:=(cY a).bind fun a=>(cY b).map fun b=>f a b
noncomputable def wE(σ:St)(o:Cop)(a b:V):Option Bool:=match o with
 | .eq=>nU (iE σ a) (iE σ b)
 | .ne=>(nU (iE σ a) (iE σ b)).map (!·)
 | .lt=>aEh a b fun a b=>decide (a<b)
 | .gt=>aEh a b fun a b=>decide (b<a)
 | .ge=>aEh a b fun a b=>decide (b≤a)
 | .in_=>inE σ a b
 | .notIn=>(inE σ a b).map (!·)
 | .le=>aEh a b fun a b=>decide (a≤b)
noncomputable def gJ(σ:St)(o i:V):Option V:=match i with
 | .int k=>(cH σ o).bind fun l=>(idx l.length k).bind fun j=>l[j]?
 | .str s=>(aO σ o).bind fun d=>aK (.str s) d
 | _=>none
noncomputable def aOi:V→Option Nat
 | .str s=>if eU s then some s else none
 | .int i=>if (0≤i∧i≤1000000)∧eU (fU (aCt i.toNat))=true then some (fU (aCt i.toNat)) else none
 | _=>none
noncomputable def mY(P:Prog)(k n:Nat):Option SObj→Option (Nat × Nat)
 | some (.inst c fs)=>if (gD fs n).isSome then none else (P.meth c n).map fun f=>(k,f)
 | _=>none
noncomputable def oV(P:Prog)(v:V)(n:Nat)(σ:St):Option (Nat × Nat):=match v with
 | .loc k=>mY P k n σ[k]?
 | _=>none
noncomputable def aPc:V→Option (V × V)
 | .tup [a,b]=>some (a,b)
 | _=>none
noncomputable def aRm:V→Option Nat
 | .str s=>some s
 | _=>none
noncomputable def bBm(D C:List (V × V)):Bool:=decide (D.length≤1000)&&decide (C.length≤1000)
noncomputable def tE(D C:List (V × V))(s1 s2:Nat)(p:V × V):List (V × V):=aS (.str s1) p.1 (aS (.str 0) (.dict (aS (.str s2) p.2 C)) D)
set_option genCtorIdx false in
inductive Out where
 | next (ρ:aP) (σ:St)
 | ret (v:V) (σ:St)
noncomputable def lV(k v:V)(n:Nat)(σ:St):Option SObj→Option St
 | some (.dict d)=>if lA k&&decide (d.length≤aU) then some (σ.set n (.dict (aS k v d))) else if zC k&&d.isEmpty then some (σ.set n .dead) else none
 | _=>none
noncomputable def lZ(o:V)(k v:V)(σ:St):Option St:=match o with
 | .loc n=>lV k v n σ σ[n]?
 | _=>none
noncomputable def nZ(f:Nat)(v:V)(n:Nat)(σ:St):Option SObj→Option St
 | some (.inst c fs)=>if decide (fs.length≤1000) then some (σ.set n (.inst c (mD fs f v))) else none
 | _=>none
noncomputable def yJ(o:V)(f:Nat)(v:V)(σ:St):Option St:=match o with
 | .loc n=>nZ f v n σ σ[n]?
 | _=>none
noncomputable def isS:V→Bool
 | .str _=>true
 | _=>false
noncomputable def aNh(v:V)(l:List V):Option (List V):=if l.all isS&&isS v&&decide (l.length≤aU) then (l.findIdx? fun y=>V.beq y v).map fun j=>l.eraseIdx j else none
noncomputable def rK(σ:St)(v:V)(n:Nat)(m:Mth):Option SObj→Option St
 | some (.list l)=>match m with
  | .app=>(cR (l++[v])).map fun l=>σ.set n (.list l)
  | .ext=>(cH σ v).bind fun k=>(cR (l++k)).map fun l=>σ.set n (.list l)
  | .rem=>(aNh v l).map fun l=>σ.set n (.list l)
  | .upd=>none
 | some (.dict d)=>match m with
  | .upd=>(fW v).bind fun l=>if d.length+l.length≤aU then (oT d l).map fun d=>σ.set n (.dict d) else none
  | _=>none
 | _=>none
noncomputable def aFu(m:Mth):Option SObj→Bool
 | some (.list _)=>match m with
  | .upd=>false
  | _=>true
 | some (.dict _)=>match m with
  | .upd=>true
  | _=>false
 | _=>false
noncomputable def sV(m:Mth)(w:V)(σ:St):Bool:=match w with
 | .loc n=>aFu m σ[n]?
 | _=>false
noncomputable def yK(m:Mth)(w v:V)(σ:St):Option St:=match w with
 | .loc n=>rK σ v n m σ[n]?
 | _=>none
noncomputable def aOh:V→Option SObj
 | .list l=>some (.list l)
 | .dict l=>some (.dict l)
 | _=>none
noncomputable def bH(d:FDef)(args:List V):aP:=args.map some++List.replicate (d.slots - args.length) none
noncomputable def oK{α:Type}:Option α→(α→Prop)→Prop
 | some a,k=>k a
 | none,_=>False
noncomputable def bK(b:Bool)(p:Prop):Prop:=match b with
 | true=>p
 | false=>False
noncomputable def iK(b:Bool)(p q:Prop):Prop:=match b with
 | true=>p
 | false=>q
noncomputable def aVi(f:Nat):Option SObj→Option V
 | some (.inst _ fs)=>gD fs f
 | _=>none
noncomputable def aPd(v:V)(f:Nat)(σ:St):Option V:=match v with
 | .loc n=>aVi f σ[n]?
 | _=>none
noncomputable def aVo(cs:List V)(v:V):Option V:=(cY v).bind fun k=>(idx cs.length k).bind fun j=>cs[j]?
noncomputable def cut{α:Type}(l:List α)(lo hi:Option Int):List α:=(l.take (hi.elim l.length (iQ l.length))).drop (lo.elim 0 (iQ l.length))
noncomputable def aWn(v:V)(lo hi:Option Int):Option V:=match v with
 | .list l=>if l.length≤aU then some (.list (cut l lo hi)) else none
 | .tup l=>if l.length≤aU then some (.tup (cut l lo hi)) else none
 | .str s=>if s=71303230∧(lo=some 1∧hi=none) then some (.str 62) else none
 | _=>none
noncomputable def aUe:V→Option (Option Int)
 | .none=>some none
 | .int i=>some (some i)
 | _=>none
noncomputable def xS(v a h:V):Option V:=(aUe a).bind fun a=>(aUe h).bind fun h=>aWn v a h
noncomputable def aGl(v:V):Option (List V):=(cY v).bind fun n=>if -1000000≤n∧n≤1000000 then some ((List.range n.toNat).map fun (k:Nat)=>V.int k) else none
structure TabK where
 call:Nat→List V→St→(V→St→Prop)→Prop
noncomputable def eJ(st:St→Bool)(bnd:V→Option aP)(ifs:aP→St→(Bool→St→Prop)→Prop)(body:List V→aP→St→(List V→St→Prop)→Prop):List V→List V→St→(List V→St→Prop)→Prop
 | [],ds,σ,k=>bK (st σ) (k ds σ)
 | v::r,ds,σ,k=>bK (st σ) (oK (bnd v) fun ρ=>ifs ρ σ fun t σ=>iK t (body ds ρ σ fun ds σ=>eJ st bnd ifs body r ds σ k) (eJ st bnd ifs body r ds σ k))
@[irreducible] noncomputable def kLoopC (st:St→Bool) (bnd:V→Option aP) (ifs:aP→St→(Bool→St→Prop)→Prop) (body:List V→aP→St→(List V→St→Prop)→Prop) (l ds:List V) (σ:St) (k:List V→St→Prop):Prop:=eJ st bnd ifs body l ds σ k
section
variable(P:Prog)(T:TabK)
mutual
noncomputable def kE:X→aP→St→(V→St→Prop)→Prop
 | .cst v,_,σ,k=>k v σ
 | .var i,ρ,σ,k=>oK ((ρ[i]?).bind id) fun v=>k v σ
 | .glob g,_,σ,k=>oK (P.glob g) fun v=>k v σ
 | .tup es,ρ,σ,k=>kEs es ρ σ fun l σ=>k (.tup l) σ
 | .list es,ρ,σ,k=>kEs es ρ σ fun l σ=>k (.list l) σ
 | .dict es,ρ,σ,k=>kEs es ρ σ fun l σ=>oK (uC l []) fun d=>k (.dict d) σ
 | .mut e,ρ,σ,k=>kE e ρ σ fun v σ=>oK (aOh v) fun o=>k (.loc σ.length) (σ++[o])
 | .attr e f,ρ,σ,k=>kE e ρ σ fun v σ=>oK (aPd v f σ) fun w=>k w σ
 | .item e i,ρ,σ,k=>kE e ρ σ fun a σ=>kE i ρ σ fun b σ=>oK (gJ σ a b) fun w=>k w σ
 | .sidx cs i,ρ,σ,k=>kE i ρ σ fun b σ=>oK (aVo cs b) fun w=>k w σ
 | .sl e l h,ρ,σ,k=>kE e ρ σ fun a σ=>kE l ρ σ fun b σ=>kE h ρ σ fun c σ=>oK (xS a b c) fun w=>k w σ
 | .bin o a b,ρ,σ,k=>kE a ρ σ fun x σ=>kE b ρ σ fun y σ=>oK (uM σ o x y) fun w=>k w σ
 | .and es,ρ,σ,k=>aUo es ρ σ k
 | .or es,ρ,σ,k=>kOr es ρ σ k
 | .cmp o a b,ρ,σ,k=>kE a ρ σ fun x σ=>kE b ρ σ fun y σ=>oK (wE σ o x y) fun t=>k (.bool t) σ
 | .ite c a b,ρ,σ,k=>kE c ρ σ fun t σ=>oK t.truthy fun t=>iK t (kE a ρ σ k) (kE b ρ σ k)
 | .call f as,ρ,σ,k=>kEs as ρ σ fun l σ=>T.call f l σ k
 | .meth o n as,ρ,σ,k=>kE o ρ σ fun v σ=>oK (oV P v n σ) fun kf=>kEs as ρ σ fun l σ=>T.call kf.2 (.loc kf.1::l) σ k
 | .new c as,ρ,σ,k=>kEs as ρ σ fun l σ=>oK (P.init c) fun f=>T.call f (.loc σ.length::l) (σ++[.inst c []]) fun r σ'=>bK (V.beq r .none) (k (.loc σ.length) σ')
 | .bi b as,ρ,σ,k=>kEs as ρ σ fun l σ=>oK (biE σ b l) fun w=>k w σ
 | .get e as,ρ,σ,k=>kE e ρ σ fun d σ=>bK (aO σ d).isSome (kEs as ρ σ fun l σ=>oK (aO σ d) fun d=>oK (aXt d l) fun w=>k w σ)
 | .comp c,ρ,σ,k=>kC c [] (clr c.slots ρ) σ fun l σ=>k (.list l) σ
 | .fstr es,ρ,σ,k=>kFs es 0 ρ σ fun z σ=>k (.str z) σ
 | .not e,ρ,σ,k=>kE e ρ σ fun v σ=>oK v.truthy fun b=>k (.bool (!b)) σ
 | .sfind e,ρ,σ,k=>kE e ρ σ fun v σ=>oK (yC v) fun w=>k w σ
 | .dkw e ks,ρ,σ,k=>kE e ρ σ fun v σ=>oK (aO σ v) fun D=>bK (decide (D.length≤1000)) (k (.dict (aFn D ks)) σ)
noncomputable def kEs:List X→aP→St→(List V→St→Prop)→Prop
 | [],_,σ,k=>k [] σ
 | e::r,ρ,σ,k=>kE e ρ σ fun v σ=>kEs r ρ σ fun l σ=>k (v::l) σ
noncomputable def kFs:List X→Nat→aP→St→(Nat→St→Prop)→Prop
 | [],z,_,σ,k=>bK (eU z) (k z σ)
 | e::r,z,ρ,σ,k=>kE e ρ σ fun v σ=>oK (aOi v) fun y=>bK (eU (zV z y)) (kFs r (zV z y) ρ σ k)
noncomputable def aUo:List X→aP→St→(V→St→Prop)→Prop
 | [],_,_,_=>False
 | e::r,ρ,σ,k=>kE e ρ σ fun v σ=>iK r.isEmpty (k v σ) (oK v.truthy fun t=>iK t (aUo r ρ σ k) (k (.bool false) σ))
noncomputable def kOr:List X→aP→St→(V→St→Prop)→Prop
 | [],_,_,_=>False
 | e::r,ρ,σ,k=>kE e ρ σ fun v σ=>iK r.isEmpty (k v σ) (oK v.truthy fun t=>iK t (k (.bool true) σ) (kOr r ρ σ k))
noncomputable def vR:List X→aP→St→(Bool→St→Prop)→Prop
 | [],_,σ,k=>k true σ
 | e::r,ρ,σ,k=>kE e ρ σ fun v σ=>oK v.truthy fun t=>iK t (vR r ρ σ k) (k false σ)
noncomputable def aTf:Src→aP→St→(List V × Option Nat→St→Prop)→Prop
 | .val e,ρ,σ,k=>kE e ρ σ fun v σ=>oK (cH σ v) fun l=>k (l,aXp v) σ
 | .range e,ρ,σ,k=>kE e ρ σ fun v σ=>oK (aGl v) fun l=>k (l,none) σ
 | .enum e,ρ,σ,k=>kE e ρ σ fun v σ=>oK (fW v) fun l=>k (((List.range l.length).zip l |>.map fun (q:Nat × V)=>V.tup [.int q.1,q.2]),none) σ
 | .zip a b,ρ,σ,k=>kE a ρ σ fun v σ=>kE b ρ σ fun w σ=>oK (tJ v) fun l=>oK (fW w) fun l'=>bK (decide (l'.length=l.length)) (k (((l.zip l').map fun (x:V × V)=>V.tup [x.1,x.2]),none) σ)
 | .items e,ρ,σ,k=>kE e ρ σ fun v σ=>oK (jM v) fun l=>k ((l.map fun (q:V × V)=>V.tup [q.1,q.2]),none) σ
noncomputable def kC:C→List V→aP→St→(List V→St→Prop)→Prop
 | .elt e,ds,ρ,σ,k=>kE e ρ σ fun v σ=>bK (decide (ds.length≤aU)) (k (ds++[v]) σ)
 | .gen t s ifs r,ds,ρ,σ,k=>aTf s ρ σ fun lg σ=>kLoopC (dZ lg.2 lg.1) (dQ ρ t) (fun ρ σ k=>vR ifs ρ σ k) (fun ds ρ σ k=>kC r ds ρ σ k) lg.1 ds σ k
end
end
noncomputable def dP(st:St→Bool)(bnd:V→aP→Option aP)(body:aP→St→(Out→Prop)→Prop):List V→aP→St→(Out→Prop)→Prop
 | [],ρ,σ,k=>bK (st σ) (k (.next ρ σ))
 | v::r,ρ,σ,k=>bK (st σ) (oK (bnd v ρ) fun ρ=>body ρ σ fun o=>match o with
  | .next ρ σ=>dP st bnd body r ρ σ k
  | .ret v σ=>k (.ret v σ))
noncomputable def oP(c:aP→St→(Bool→St→Prop)→Prop)(body:aP→St→(Out→Prop)→Prop):Nat→aP→St→(Out→Prop)→Prop
 | 0,_,_,_=>False
 | n+1,ρ,σ,k=>c ρ σ fun t σ=>iK t (body ρ σ fun o=>match o with
  | .next ρ σ=>oP c body n ρ σ k
  | .ret v σ=>k (.ret v σ)) (k (.next ρ σ))
@[irreducible] noncomputable def kWhile (c:aP→St→(Bool→St→Prop)→Prop) (body:aP→St→(Out→Prop)→Prop) (n:Nat) (ρ:aP) (σ:St) (k:Out→Prop):Prop:=oP c body n ρ σ k
noncomputable def rvs{α:Type}(w:Bool)(l:List α):List α:=match w with
 | true=>l.reverse
 | false=>l
section
variable(P:Prog)(T:TabK)
noncomputable def bCg(e:X)(ρ:aP)(σ:St)(k:Out→Prop):Tgt→Prop
 | .name i=>kE P T e ρ σ fun v σ=>k (.next (ρ.set i (some v)) σ)
 | .attr o f=>kE P T e ρ σ fun v σ=>kE P T o ρ σ fun w σ=>oK (yJ w f v σ) fun σ=>k (.next ρ σ)
 | .item o i=>kE P T e ρ σ fun v σ=>kE P T o ρ σ fun w σ=>kE P T i ρ σ fun j σ=>oK (lZ w j v σ) fun σ=>k (.next ρ σ)
noncomputable def aKp(v:V)(ρ:aP)(σ:St)(k:aP→St→Prop):Tgt→Prop
 | .name i=>k (ρ.set i (some v)) σ
 | .attr o f=>kE P T o ρ σ fun w σ=>oK (yJ w f v σ) fun σ=>k ρ σ
 | .item o i=>kE P T o ρ σ fun w σ=>kE P T i ρ σ fun j σ=>oK (lZ w j v σ) fun σ=>k ρ σ
noncomputable def aKa:List Tgt→List V→aP→St→(aP→St→Prop)→Prop
 | [],_,ρ,σ,k=>k ρ σ
 | t::ts,l,ρ,σ,k=>oK l.head? fun v=>aKp P T v ρ σ (fun ρ σ=>aKa ts l.tail ρ σ k) t
mutual
noncomputable def kS:S→aP→St→(Out→Prop)→Prop
 | .asg t e,ρ,σ,k=>bCg P T e ρ σ k t
 | .asgT is e,ρ,σ,k=>kE P T e ρ σ fun v σ=>oK (dQ ρ (.many is) v) fun ρ=>k (.next ρ σ)
 | .asgTs w is es,ρ,σ,k=>kEs P T es ρ σ fun l σ=>bK (decide (is.length=l.length)) (k (.next (fX (rvs w is) (rvs w l) ρ) σ))
 | .mth m o e,ρ,σ,k=>kE P T o ρ σ fun w σ=>bK (sV m w σ) (kE P T e ρ σ fun v σ=>oK (yK m w v σ) fun σ=>k (.next ρ σ))
 | .expr e,ρ,σ,k=>kE P T e ρ σ fun _ σ=>k (.next ρ σ)
 | .ite c a b,ρ,σ,k=>kE P T c ρ σ fun t σ=>oK t.truthy fun t=>iK t (kSs a ρ σ k) (kSs b ρ σ k)
 | .for_ t s body,ρ,σ,k=>aTf P T s ρ σ fun lg σ=>dP (dZ lg.2 lg.1) (fun v ρ=>dQ ρ t v) (fun ρ σ k=>kSs body ρ σ k) lg.1 ρ σ k
 | .while_ c body,ρ,σ,k=>kWhile (fun ρ σ k=>kE P T c ρ σ fun t σ=>oK t.truthy fun t=>k t σ) (fun ρ σ k=>kSs body ρ σ k) 5000 ρ σ k
 | .ret e,ρ,σ,k=>kE P T e ρ σ fun v σ=>k (.ret v σ)
 | .raise,_,_,_=>False
 | .letE i e g nm m,ρ,σ,k=>kE P T e ρ σ fun d σ=>oK (jM d) fun D=>kE P T g (ρ.set i none) σ fun d2 σ=>oK (jM d2) fun C=>bK (bBm D C) (kE P T m (ρ.set i none) σ fun w σ=>oK (aPc w) fun p=>kE P T nm (ρ.set i none) σ fun n σ=>oK (aRm n) fun s1=>bK (decide (s1≠0)) (kE P T nm (ρ.set i none) σ fun n2 σ=>oK (aRm n2) fun s2=>k (.next (ρ.set i (some (.dict (tE D C s1 s2 p)))) σ)))
 | .asgM ts e,ρ,σ,k=>kE P T e ρ σ fun v σ=>oK (tJ v) fun l=>bK (decide (ts.length=l.length)) (aKa P T ts l ρ σ fun ρ σ=>k (.next ρ σ))
noncomputable def kSs:List S→aP→St→(Out→Prop)→Prop
 | [],ρ,σ,k=>k (.next ρ σ)
 | s::r,ρ,σ,k=>kS s ρ σ fun o=>match o with
  | .next ρ σ=>kSs r ρ σ k
  | .ret v σ=>k (.ret v σ)
end
end
noncomputable def cG(k:V→St→Prop):Out→Prop
 | .next _ σ=>k .none σ
 | .ret v σ=>k v σ
noncomputable def aE(P:Prog):Nat→Nat→List V→St→(V→St→Prop)→Prop
 | 0,_,_,_,_=>False
 | n+1,f,args,σ,k=>oK (P.fn f) fun d=>bK (decide (args.length=d.params)) (kSs P ⟨aE P n⟩ d.body (bH d args) σ (cG k))
end Mine.Internal
namespace Mine.Internal
open PySem PySem.W PyProof.Rows
noncomputable abbrev PV:=PySem.Value
noncomputable abbrev PE:=PySem.Expr
noncomputable abbrev bA:=PySem.Env
noncomputable def aL(x:Str):Nat:=fU x.cps.toList
noncomputable def strOk(x:Str):Bool:=x.cps.toList.all fun c=>decide (c<1114112)
theorem gK(l:List Nat)(c:Nat):fU (l++[c])=fU l*2097152+(c+1):=by
 delta fU; exact rwS List.foldl_append (rwS List.foldl_cons (rwS List.foldl_nil rfl))
theorem gV{a c:Nat}(h:c<2097151):(a*2097152+(c+1)) / 2097152=a∧(a*2097152+(c+1)) % 2097152 - 1=c:=by
 have h:c+1<2097152:=Nat.succ_lt_succ h
 rw[Nat.add_comm (a*2097152)]
 exact⟨by rw[Nat.add_mul_div_right _ _ (by decide),Nat.div_eq_of_lt h,Nat.zero_add],by rw[Nat.add_mul_mod_self_right,Nat.mod_eq_of_lt h,Nat.add_sub_cancel]⟩
theorem wU{a b c d:Nat}(hc:c<2097151)(hd:d<2097151)(h:a*2097152+(c+1)=b*2097152+(d+1)):a=b∧c=d :=
 ⟨(gV (a:=a) hc).1.symm.trans ((congrArg (· / 2097152) h).trans (gV (a:=b) hd).1),(gV (a:=a) hc).2.symm.trans ((congrArg (· % 2097152 - 1) h).trans (gV (a:=b) hd).2)⟩
theorem aCb:∀(a b:List Nat),(∀c∈a,c<2097151)→(∀c∈b,c<2097151)→fU a.reverse=fU b.reverse→a=b
 | [],[],_,_,_=>rfl
 | [],y::t,_,_,h=>by rw[List.reverse_cons,gK]at h; exact absurd h (Nat.ne_of_lt (Nat.lt_of_lt_of_le (Nat.succ_pos y) (Nat.le_add_left _ _)))
 | x::r,[],_,_,h=>by rw[List.reverse_cons,gK]at h; exact absurd h.symm (Nat.ne_of_lt (Nat.lt_of_lt_of_le (Nat.succ_pos x) (Nat.le_add_left _ _)))
 | x::r,y::t,ha,hb,h=>by
  rw[List.reverse_cons,List.reverse_cons,gK,gK]at h
  exact rwS (wU (ha x (List.mem_cons_self ..)) (hb y (List.mem_cons_self ..)) h).2 (rwS (aCb r t (fun c hc=>ha c (List.mem_cons_of_mem _ hc)) (fun c hc=>hb c (List.mem_cons_of_mem _ hc)) (wU (ha x (List.mem_cons_self ..)) (hb y (List.mem_cons_self ..)) h).1) rfl)
theorem cN{x y:Str}(hx:strOk x=true)(hy:strOk y=true)(h:aL x=aL y):x=y:=by
 have up:∀{z:Str},strOk z=true→∀c∈z.cps.toList.reverse,c<2097151:=fun hz c hc=>Nat.lt_trans (of_decide_eq_true (List.all_eq_true.mp hz c (List.mem_reverse.mp hc))) (by decide)
 have e:=aCb x.cps.toList.reverse y.cps.toList.reverse (up hx) (up hy) (by rw[List.reverse_reverse,List.reverse_reverse]; exact h)
 cases x; cases y
 exact congrArg Str.mk (Array.toList_inj.mp (List.reverse_inj.mp e))
noncomputable abbrev Mp:=List (Addr × Addr)
noncomputable def chg(μ:Mp)(a:Addr):Prop:=∃p∈μ,p.2=a
noncomputable def IsTp(h:Heap)(a:Addr)(vs:Array PV):Prop:=∃k,h.get? a=some { cls:=.type "tuple",dict:=none,data:=.seq vs k,slots:=#[] }
noncomputable def IsLs(h:Heap)(a:Addr)(vs:Array PV):Prop:=∃k,h.get? a=some { cls:=.type "list",dict:=none,data:=.seq vs k,slots:=#[] }
theorem IsTp.tup{h:Heap}{a:Addr}{vs:Array PV}(x:IsTp h a vs):h.IsTuple a vs:=x.elim fun k ho=>⟨_,ho,rfl,k,rfl⟩
theorem IsLs.list{h:Heap}{a:Addr}{vs:Array PV}(x:IsLs h a vs):h.IsList a vs:=x.elim fun k ho=>⟨_,ho,rfl,k,rfl⟩
structure Wd where
 prog:Program
 w:World
 K:Frag
 base:Heap
 fa:Nat→Addr
 ca:Nat→Addr
 nc:Nat
noncomputable abbrev SK(D:Wd):=strKind D.prog D.w
structure Nx where
 μ:Mp
 W:Addr→Prop
 σ:St
 s:Shared
noncomputable def Nx.has(y:Nx)(a:Addr):Prop:=(y.s.heap.get? a).isSome=true
noncomputable def IsDc(D:Wd)(h:Heap)(a:Addr)(kvs:List (Str × PV)):Prop:=1<a∧h.DictOf (SK D) a kvs
section
variable(D:Wd)(y:Nx)
mutual
noncomputable def RV:V→PV→Prop
 | .none,v=>v=.none
 | .bool b,v=>v=.bool b
 | .int i,v=>∃t,v=.int i t
 | .str s,v=>∃x t,v=.str x t∧strOk x=true∧aL x=s
 | .tup l,v=>∃a vs,v=.ref a∧y.W a∧IsTp y.s.heap a vs∧RVs l vs.toList
 | .list l,v=>∃a vs,v=.ref a∧y.W a∧IsLs y.s.heap a vs∧RVs l vs.toList
 | .dict l,v=>∃a kvs,v=.ref a∧y.W a∧IsDc D y.s.heap a kvs∧RVd l kvs
 | .loc n,v=>∃p,v=.ref p.1∧y.μ[n]?=some p
noncomputable def RVs:List V→List PV→Prop
 | [],vs=>vs=[]
 | d::r,vs=>∃v t,vs=v::t∧RV d v∧RVs r t
noncomputable def RVd:List (V × V)→List (Str × PV)→Prop
 | [],vs=>vs=[]
 | (k,d)::r,vs=>∃n v t,vs=(n,v)::t∧(k=.str (aL n)∧strOk n=true)∧RV d v∧RVd r t
end
end
structure Le(y z:Nx):Prop where
 w:∀a o,y.W a→y.s.heap.get? a=some o→z.s.heap.get? a=some o∧z.W a
 m:∀(n:Nat) (p:Addr × Addr),y.μ[n]?=some p→z.μ[n]?=some p
theorem Le.refl(y:Nx):Le y y:=⟨fun _ _ w e=>⟨e,w⟩,fun _ _ e=>e⟩
theorem Le.trans{x y z:Nx}(a:Le x y)(b:Le y z):Le x z:=⟨fun _ _ w e=>b.w _ _ (a.w _ _ w e).2 (a.w _ _ w e).1,fun _ _ e=>b.m _ _ (a.m _ _ e)⟩
theorem IsTp.le{y z:Nx}(l:Le y z){a:Addr}{vs:Array PV}(w:y.W a)(x:IsTp y.s.heap a vs):z.W a∧IsTp z.s.heap a vs:=x.elim fun k e=>⟨(l.w _ _ w e).2,k,(l.w _ _ w e).1⟩
theorem IsLs.le{y z:Nx}(l:Le y z){a:Addr}{vs:Array PV}(w:y.W a)(x:IsLs y.s.heap a vs):z.W a∧IsLs z.s.heap a vs:=x.elim fun k e=>⟨(l.w _ _ w e).2,k,(l.w _ _ w e).1⟩
theorem IsDc.at{D:Wd}{h h':Heap}{a:Addr}{kvs:List (Str × PV)}(x:IsDc D h a kvs)(e:∀o,h.get? a=some o→h'.get? a=some o):IsDc D h' a kvs:=⟨x.1,x.2.at e⟩
theorem IsDc.le{D:Wd}{y z:Nx}(l:Le y z){a:Addr}{kvs:List (Str × PV)}(w:y.W a)(x:IsDc D y.s.heap a kvs):z.W a∧IsDc D z.s.heap a kvs :=
 ⟨Exists.elim x.2 fun o q=>Exists.elim q fun es q=>Exists.elim q fun k q=>(l.w _ _ w q.1).2,x.at fun o e=>(l.w _ _ w e).1⟩
section
variable{D:Wd}{y z:Nx}
mutual
theorem cL(l:Le y z):∀(d:V) (v:PV),RV D y d v→RV D z d v
 | .none,v,r=>r
 | .bool _,v,r=>r
 | .int _,v,r=>r
 | .str _,v,r=>r
 | .tup k,v,⟨a,vs,e,w,t,rs⟩=>have q:=t.le l w; ⟨a,vs,e,q.1,q.2,fI l k _ rs⟩
 | .list k,v,⟨a,vs,e,w,t,rs⟩=>have q:=t.le l w; ⟨a,vs,e,q.1,q.2,fI l k _ rs⟩
 | .dict k,v,⟨a,vs,e,w,t,rs⟩=>have q:=t.le l w; ⟨a,vs,e,q.1,q.2,cX l k _ rs⟩
 | .loc n,v,⟨p,e,q⟩=>⟨p,e,l.m n p q⟩
theorem fI(l:Le y z):∀(d:List V) (v:List PV),RVs D y d v→RVs D z d v
 | [],v,r=>r
 | d::k,v,⟨u,t,e,r1,r2⟩=>⟨u,t,e,cL l d u r1,fI l k t r2⟩
theorem cX(l:Le y z):∀(d:List (V × V)) (v:List (Str × PV)),RVd D y d v→RVd D z d v
 | [],v,r=>r
 | (k,d)::r,v,⟨n,u,t,e,k1,r1,r2⟩=>⟨n,u,t,e,k1,cL l d u r1,cX l r t r2⟩
end
theorem aV:∀{d:List V} {v:List PV},RVs D y d v→v.length=d.length
 | [],v,r=>congrArg List.length r
 | _::l,v,⟨u,t,e,_,r2⟩=>(congrArg List.length e).trans (congrArg (· + 1) (aV r2))
theorem eF:∀{d:List V} {v:List PV},RVs D y d v→∀{i:Nat} {x:V},d[i]?=some x→∃u,v[i]?=some u∧RV D y x u:=by
 intro d
 induction d with
 | nil=>intro v r i x e; exact nos e
 | cons x0 l ih =>
  intro v r i x e
  refine e23 r fun u t e_2 r1 r2=>?_; subst e_2
  cases i with
  | zero=>exact⟨u,rfl,Option.some.inj e▸r1⟩
  | succ i=>exact ih r2 (i:=i) e
theorem cK:∀{d:List V} {v:List PV} {d':List V} {v':List PV},RVs D y d v→RVs D y d' v'→RVs D y (d++d') (v++v')
 | [],v,d',v',r,r'=>(show v=[] from r)▸r'
 | _::l,v,d',v',⟨u,t,e,r1,r2⟩,r'=>⟨u,t++v',congrArg (·++v') e,r1,cK r2 r'⟩
theorem vH:∀{d:List V} {v:List PV} (n:Nat),RVs D y d v→RVs D y (d.take n) (v.take n)
 | _,_,0,_=>rfl
 | [],v,n+1,r=>congrArg (List.take (n+1)) r
 | _::l,v,n+1,⟨u,t,e,r1,r2⟩=>⟨u,t.take n,congrArg (List.take (n+1)) e,r1,vH n r2⟩
theorem aFr{d:List V}:∀{v:List PV} (n:Nat),RVs D y d v→RVs D y (d.drop n) (v.drop n):=by
 induction d with
 | nil =>
  intro v n r
  cases n with
  | zero=>exact r
  | succ n=>exact congrArg (List.drop (n+1)) r
 | cons x l ih =>
  intro v n r
  cases n with
  | zero=>exact r
  | succ n =>
   refine e23 r fun u t e_2 r1 r2=>?_; subst e_2
   exact ih n r2
end
noncomputable def RC(D:Wd)(y:Nx)(a:Addr):V→Prop
 | .list l=>∃vs,IsLs y.s.heap a vs∧RVs D y l vs.toList
 | .dict l=>∃kvs,IsDc D y.s.heap a kvs∧RVd D y l kvs
 | _=>False
section
variable(D:Wd)(y:Nx)
noncomputable def aAz(m:Str→Option PV)(fs:List (Nat × V)):Prop :=
 ∀x:Str,strOk x=true→match gD fs (aL x) with
  | some d=>∃v,m x=some v∧RV D y d v
  | none=>m x=none
noncomputable def OR(p:Addr × Addr):SObj→Prop
 | .inst c fs=>(c<D.nc∧y.s.heap.get? p.1=some (instObj (D.ca c) p.2))∧p.1≠p.2∧∃m ns,y.s.heap.Ns1 p.2 m∧aAz D y m fs∧Within m ns∧ns.length≤fs.length
 | .dict l=>p.1=p.2∧RC D y p.1 (.dict l)
 | .list l=>p.1=p.2∧RC D y p.1 (.list l)
 | .dead=>True
structure Sm:Prop where
 gi:∀a o,D.base.get? a=some o→y.s.heap.get? a=some o
 big:∃a,1<a∧y.W a
 len:y.μ.length=y.σ.length
 nodup:(y.μ.map (·.2)).Nodup
 new:∀p∈y.μ,D.base.get? p.2=none
 apart:∀p∈y.μ,∀q∈y.μ,p.1=q.2→p.1=p.2
 wk:∀a,y.W a→¬ chg y.μ a
 wd:∀a,y.W a→y.has a
 cs:∀a,(D.base.get? a).isSome=true→y.W a
 lt:∀p∈y.μ,y.has p.1∧y.has p.2
 obj:∀(n:Nat) (o:SObj) (p:Addr × Addr),y.σ[n]?=some o→y.μ[n]?=some p→OR D y p o
structure Aft(F:Addr→Prop)(z:Nx):Prop where
 sm:Sm D z
 le:Le y z
 kp:∀a o,y.s.heap.get? a=some o→¬ chg y.μ a→¬ F a→z.s.heap.get? a=some o
 ex:∀a,y.has a→z.has a
 mn:∀p∈z.μ,p∈y.μ∨(¬ y.has p.1∧¬ y.has p.2)
 wn:∀a,z.W a→y.W a∨¬ y.has a
 gens:z.s.gens=y.s.gens
 os:z.s.os=y.s.os
end
structure Pv(y:Nx)(b:Addr):Prop where
 lt:y.has b
 nw:¬ y.W b
 nm:∀p∈y.μ,p.1≠b∧p.2≠b
noncomputable def noA:Addr→Prop:=fun _=>False
section
variable{D:Wd}{x y z:Nx}{F:Addr→Prop}
theorem lH(l:Le y z){a:Addr}{d:V}(h:∀o,y.s.heap.get? a=some o→z.s.heap.get? a=some o)(r:RC D y a d):RC D z a d:=by
 cases d with
 | list k=>exact r.elim fun vs q=>⟨vs,q.1.elim fun n e=>⟨n,h _ e⟩,fI l k _ q.2⟩
 | dict k=>exact r.elim fun vs q=>⟨vs,q.1.at h,cX l k _ q.2⟩
 | _=>exact r
theorem sZ{a:Addr}{d:V}(w:y.W a)(r:RC D y a d):RV D y d (.ref a):=by
 cases d with
 | list k=>exact r.elim fun vs q=>⟨a,vs,rfl,w,q⟩
 | dict k=>exact r.elim fun vs q=>⟨a,vs,rfl,w,q⟩
 | _=>exact r.elim
theorem wB(l:Le y z){m:Str→Option PV}{fs:List (Nat × V)}(f:aAz D y m fs):aAz D z m fs:=fun x hx=>by
 have:=f x hx
 cases e:gD fs (aL x) with
 | some d=>rw[e]at this; exact this.elim fun v q=>⟨v,q.1,cL l d v q.2⟩
 | none=>rw[e]at this; exact this
theorem qB(l:Le y z){p:Addr × Addr}(h1:∀o,y.s.heap.get? p.1=some o→z.s.heap.get? p.1=some o)(h2:∀o,y.s.heap.get? p.2=some o→z.s.heap.get? p.2=some o){o:SObj}(r:OR D y p o):OR D z p o:=by
 cases o with
 | inst c fs=>exact⟨⟨r.1.1,h1 _ r.1.2⟩,r.2.1,r.2.2.elim fun m q=>q.elim fun ns q=>⟨m,ns,q.1.at h2,wB l q.2.1,q.2.2⟩⟩
 | dict k=>exact⟨r.1,lH l h1 r.2⟩
 | list k=>exact⟨r.1,lH l h1 r.2⟩
 | dead=>exact trivial
theorem cI{a:Addr}{o:Obj}(e:y.s.heap.get? a=some o):y.has a:=Option.isSome_iff_exists.mpr ⟨o,e⟩
theorem jF{a:Addr}(h:y.has a):a<y.s.heap.objs.size:=(Option.isSome_iff_exists.mp h).elim fun o e=>Heap.lt_size e
theorem Sm.one(m:Sm D y):1<y.s.heap.objs.size:=m.big.elim fun a h=>Nat.lt_trans h.1 (jF (m.wd a h.2))
theorem aY:¬ y.has y.s.heap.objs.size:=fun h=>Nat.lt_irrefl _ (jF h)
theorem Aft.refl(s:Sm D y):Aft D y F y:=⟨s,.refl y,fun _ _ e _ _=>e,fun _ h=>h,fun _ h=>.inl h,fun _ h=>.inl h,rfl,rfl⟩
theorem Aft.chg(a:Aft D y F z){b:Addr}(l:y.has b)(n:¬ chg y.μ b):¬ chg z.μ b:=fun ⟨p,hp,e⟩=>(a.mn p hp).elim (fun h=>n ⟨p,h,e⟩) fun h=>h.2 (by refine rwS e ?_; exact l)
theorem Aft.trans(a:Aft D x F y)(b:Aft D y F z):Aft D x F z :=
 ⟨b.sm,a.le.trans b.le,fun c o e n f=>b.kp c o (a.kp c o e n f) (a.chg (cI e) n) f,fun c h=>b.ex c (a.ex c h),fun p h=>(b.mn p h).elim (a.mn p) fun h=>.inr ⟨fun g=>h.1 (a.ex _ g),fun g=>h.2 (a.ex _ g)⟩,
  fun c w=>(b.wn c w).elim (a.wn c) fun h=>.inr fun g=>h (a.ex _ g),b.gens.trans a.gens,b.os.trans a.os⟩
theorem Aft.up(a:Aft D x noA y):Aft D x F y:=⟨a.sm,a.le,fun c o e n _=>a.kp c o e n id,a.ex,a.mn,a.wn,a.gens,a.os⟩
theorem Aft.hide(a:Aft D y F z)(h:∀b,F b→¬ y.has b):Aft D y noA z:=⟨a.sm,a.le,fun b o e n _=>a.kp b o e n fun f=>h b f (cI e),a.ex,a.mn,a.wn,a.gens,a.os⟩
theorem Aft.old(a:Aft D y noA z){b:Addr}{o:Obj}(n:¬ Mine.Internal.chg y.μ b)(e:y.s.heap.get? b=some o):z.s.heap.get? b=some o:=a.kp b o e n id
theorem Pv.go{b:Addr}(p:Pv y b)(a:Aft D y F z):Pv z b :=
 ⟨a.ex b p.lt,fun w=>(a.wn b w).elim p.nw fun h=>h p.lt,fun q h=>(a.mn q h).elim (p.nm q) fun h=>⟨fun e=>h.1 (by refine rwS e ?_; exact p.lt),fun e=>h.2 (by refine rwS e ?_; exact p.lt)⟩⟩
theorem Pv.nc{b:Addr}(p:Pv y b):¬ chg y.μ b:=fun ⟨q,h,e⟩=>(p.nm q h).2 e
noncomputable def Nx.at(y:Nx)(s:Shared):Nx:=⟨y.μ,y.W,y.σ,s⟩
theorem eL{s:Shared}(k:∀b o,y.s.heap.get? b=some o→¬ F b→s.heap.get? b=some o){a:Addr}(h:y.has a)(f:¬ F a):(y.at s).has a:=(Option.isSome_iff_exists.mp h).elim fun o e=>Option.isSome_iff_exists.mpr ⟨o,k a o e f⟩
theorem Sm.turn{s:Shared}(m:Sm D y)(hF:∀b,F b→Pv y b)(k:∀b o,y.s.heap.get? b=some o→¬ F b→s.heap.get? b=some o):Le y (y.at s)∧Sm D (y.at s) :=
 have l:Le y (y.at s):=⟨fun a o w e=>⟨k a o e fun f=>(hF a f).nw w,w⟩,fun _ _ e=>e⟩
 have f1:∀p∈y.μ,¬ F p.1∧¬ F p.2:=fun p h=>⟨fun f=>((hF _ f).nm p h).1 rfl,fun f=>((hF _ f).nm p h).2 rfl⟩
 have f2:∀a,y.W a→¬ F a:=fun a w f=>(hF a f).nw w
 ⟨l,fun a o e=>k a o (m.gi a o e) (f2 a (m.cs a (Option.isSome_iff_exists.mpr ⟨o,e⟩))),m.big,m.len,m.nodup,m.new,m.apart,m.wk,fun a w=>eL k (m.wd a w) (f2 a w),m.cs,
  fun p h=>⟨eL k (m.lt p h).1 (f1 p h).1,eL k (m.lt p h).2 (f1 p h).2⟩,fun n o p e1 e2=>have h:=f1 p (List.mem_of_getElem? e2)
   qB l (fun o e=>k _ o e h.1) (fun o e=>k _ o e h.2) (m.obj n o p e1 e2)⟩
theorem Aft.turn{s:Shared}(m:Sm D y)(hF:∀b,F b→Pv y b)(k:∀b o,y.s.heap.get? b=some o→¬ F b→s.heap.get? b=some o)(z:∀a,F a→(y.at s).has a)(g:s.gens=y.s.gens)(os:s.os=y.s.os):Aft D y F (y.at s) :=
 ⟨(m.turn hF k).2,(m.turn hF k).1,fun a o e _ f=>k a o e f,fun a h=>(Classical.em (F a)).elim (z a) (eL k h),fun _ h=>.inl h,fun _ h=>.inl h,g,os⟩
theorem Aft.turn1{b:Addr}{h':Heap}{t:Nat}(m:Sm D y)(p:Pv y b)(k:∀c o,c≠b→y.s.heap.get? c=some o→h'.get? c=some o)(e:∃o,h'.get? b=some o):Aft D y (fun c=>c=b) (y.at { y.s with heap:=h',toks:=t }) :=
 Aft.turn m (fun c e=>e▸p) (fun c o e n=>k c o n e) (fun a q=>by refine rwS q ?_; exact Option.isSome_iff_exists.mpr e) rfl rfl
theorem Aft.lose{P:Addr→Prop}{s:Shared}(a:Aft D x F y)(n:∀b,P b→¬ x.has b)(p:∀b,P b→Pv y b)(k:∀c o,y.s.heap.get? c=some o→¬ P c→s.heap.get? c=some o)(g:s.gens=y.s.gens)(os:s.os=y.s.os):Aft D x F (y.at s) :=
 ⟨(a.sm.turn (F:=P) p k).2,a.le.trans (a.sm.turn (F:=P) p k).1,fun c o e h h'=>k c o (a.kp c o e h h') fun q=>n c q (cI e),fun c h=>eL k (a.ex c h) fun q=>n c q h,a.mn,a.wn,g.trans a.gens,os.trans a.os⟩
theorem Aft.then{P:Addr→Prop}(a:Aft D x F y)(b:Aft D y P z)(n:∀c,P c→¬ x.has c):Aft D x F z :=
 ⟨b.sm,a.le.trans b.le,fun c o e h f=>b.kp c o (a.kp c o e h f) (a.chg (cI e) h) fun q=>n c q (cI e),fun c h=>b.ex c (a.ex c h),fun p h=>(b.mn p h).elim (a.mn p) fun h=>.inr ⟨fun g=>h.1 (a.ex _ g),fun g=>h.2 (a.ex _ g)⟩,
  fun c w=>(b.wn c w).elim (a.wn c) fun h=>.inr fun g=>h (a.ex _ g),b.gens.trans a.gens,b.os.trans a.os⟩
structure More(y:Nx)(s:Shared):Prop where
 k:∀b o,y.s.heap.get? b=some o→s.heap.get? b=some o
 g:s.gens=y.s.gens
 o:s.os=y.s.os
theorem More.refl(y:Nx):More y y.s:=⟨fun _ _ e=>e,rfl,rfl⟩
theorem More.push{s:Shared}(m:More y s)(o:Obj):More y { s with heap:=s.heap.push o }:=⟨fun b o e=>Heap.get?_push_of_some _ (m.k b o e),m.g,m.o⟩
theorem More.toks{s:Shared}(m:More y s)(t:Nat):More y { s with toks:=t }:=⟨m.k,m.g,m.o⟩
theorem More.ex{s:Shared}(m:More y s)(a:Addr)(h:y.has a):(y.at s).has a:=(Option.isSome_iff_exists.mp h).elim fun o g=>Option.isSome_iff_exists.mpr ⟨o,m.k a o g⟩
theorem More.aft{s:Shared}(m:More y s)(h:Sm D y):Aft D y noA (y.at s):=Aft.turn h (fun _ f=>f.elim) (fun b o e _=>m.k b o e) (fun _ f=>f.elim) m.g m.o
theorem More.no{s:Shared}(m:More y s):¬ y.has s.heap.objs.size:=fun h=>aY (m.ex _ h)
theorem More.pv{s:Shared}(m:More y s)(h:Sm D y){b:Addr}{o:Obj}(h1:¬ y.has b)(h2:s.heap.get? b=some o):Pv (y.at s) b :=
 ⟨Option.isSome_iff_exists.mpr ⟨o,h2⟩,fun w=>h1 (h.wd b w),fun p hp=>⟨fun e=>h1 (e▸(h.lt p hp).1),fun e=>h1 (e▸(h.lt p hp).2)⟩⟩
noncomputable def Nx.wi(y:Nx)(b:Addr):Nx:=⟨y.μ,fun a=>y.W a∨a=b,y.σ,y.s⟩
theorem Le.wi{b:Addr}:Le y (y.wi b):=⟨fun _ _ w e=>⟨e,.inl w⟩,fun _ _ e=>e⟩
theorem Aft.wi{b:Addr}(a:Aft D x F y)(p:Pv y b)(h:¬ x.has b):Aft D x F (y.wi b) :=
 have m:=a.sm
 ⟨⟨m.gi,m.big.elim fun a h=>⟨a,h.1,.inl h.2⟩,m.len,m.nodup,m.new,m.apart,fun a w=>w.elim (m.wk a) fun e=>e▸p.nc,fun a w=>w.elim (m.wd a) fun e=>by refine rwS e ?_; exact p.lt,fun a h=>.inl (m.cs a h),m.lt,fun n o q e1 e2=>qB Le.wi (fun _ e=>e) (fun _ e=>e) (m.obj n o q e1 e2)⟩,
  a.le.trans Le.wi,a.kp,a.ex,a.mn,fun c w=>w.elim (a.wn c) fun e=>.inr (e▸h),a.gens,a.os⟩
noncomputable def Nx.lo(y:Nx)(p:Addr × Addr)(o:SObj):Nx:=⟨y.μ++[p],y.W,y.σ++[o],y.s⟩
theorem uB{α:Type}{l:List α}{x:α}:(l++[x])[l.length]?=some x:=by rw[List.getElem?_append_right (Nat.le_refl _),Nat.sub_self]; rfl
theorem aBm{α:Type}{l:List α}{x z:α}{n:Nat}(e:(l++[x])[n]?=some z):l[n]?=some z∨(n=l.length∧z=x):=by
 rcases Nat.lt_trichotomy n l.length with h | h | h
 ·exact .inl ((List.getElem?_append_left h).symm.trans e)
 ·exact .inr ⟨h,Option.some.inj ((h▸e).symm.trans uB)⟩
 ·have:=(List.getElem?_eq_some_iff.mp e).1
  rw[List.length_append]at this
  exact absurd h (Nat.not_lt.mpr (Nat.le_of_lt_succ this))
theorem Le.lo{p:Addr × Addr}{o:SObj}:Le y (y.lo p o):=⟨fun _ _ w e=>⟨e,w⟩,fun n q e=>(List.getElem?_append_left (List.getElem?_eq_some_iff.mp e).1).trans e⟩
theorem fM{α:Type}{l:List α}{x z:α}(h:z∈l++[x]):z∈l∨z=x:=(List.mem_append.mp h).imp id List.mem_singleton.mp
theorem Aft.lo{p:Addr × Addr}{o:SObj}(a:Aft D x F y)(p1:Pv y p.1)(p2:Pv y p.2)(h:¬ x.has p.1∧¬ x.has p.2)(hb:D.base.get? p.2=none)(r:OR D (y.lo p o) p o):Aft D x F (y.lo p o):=by
 have m:=a.sm
 refine⟨⟨m.gi,m.big,?_,?_,fun q h=>(fM h).elim (m.new q) fun e=>e▸hb,fun q h r h' e=>?_,fun c w ⟨q,h,e⟩=>(fM h).elim (fun h=>m.wk c w ⟨q,h,e⟩) fun g=>p2.nw (by refine rwT g ?_; exact e▸w),m.wd,m.cs,fun q h=>(fM h).elim (m.lt q) fun e=>by refine rwS e ?_; exact⟨p1.lt,p2.lt⟩,fun n o' q e1 e2=>?_⟩,
  a.le.trans Le.lo,a.kp,a.ex,fun q g=>(fM g).elim (a.mn q) fun e=>.inr (e▸h),a.wn,a.gens,a.os⟩
 ·show (y.μ++[p]).length=(y.σ++[o]).length
  refine rwS List.length_append (rwS List.length_append (rwS m.len ?_)); rfl
 ·show ((y.μ++[p]).map (·.2)).Nodup
  refine rwS List.map_append ?_
  refine List.nodup_append.mpr ⟨m.nodup,List.nodup_cons.mpr ⟨List.not_mem_nil,.nil⟩,fun c h1 d h2 e=>?_⟩
  refine e12 (List.mem_map.mp h1) fun q hq e_2=>?_; subst e_2
  exact(p2.nm q hq).2 (e.trans (List.mem_singleton.mp h2))
 ·rcases fM h with h | g <;> rcases fM h' with h' | g'
  ·exact m.apart q h r h' e
  ·exact absurd (g'▸e) (p2.nm q h).1
  ·exact absurd (g▸e).symm (p1.nm r h').2
  ·rw[g]at e ⊢; rw[g']at e; exact e
 ·rcases aBm e1 with e1 | ⟨e,g⟩ <;> rcases aBm e2 with e2 | ⟨e',g'⟩
  ·exact qB Le.lo (fun _ e=>e) (fun _ e=>e) (m.obj n o' q e1 e2)
  ·exact absurd ((List.getElem?_eq_some_iff.mp e1).1:n<y.σ.length) (by refine rwS e' (rwS m.len ?_); exact Nat.lt_irrefl _)
  ·exact absurd ((List.getElem?_eq_some_iff.mp e2).1:n<y.μ.length) (by refine rwS e (rwS m.len ?_); exact Nat.lt_irrefl _)
  ·refine rwS g (rwS g' ?_); exact r
end
structure Ck where
 names:List (Str × Nat)
 sc:Scope
 own:Str→Bool
noncomputable def eD:Str→Bool:=fun _=>true
noncomputable def uN(sc:Scope)(x:Str):Bool:=sc.names.lookup x==some .cell
noncomputable def aGg:Option NameKind→Bool
 | some .local=>true
 | some .cell=>true
 | some .free=>true
 | _=>false
noncomputable def At(h:Heap)(env:bA)(x:Str)(u:PV):Prop :=
 (env.kindOf x=some .local∧∃m,h.Ns env.locals m∧m x=some u) ∨
 ((env.kindOf x=some .cell∨env.kindOf x=some .free)∧∃c,env.cells.lookup x=some c∧h.IsCell c (some u))
structure Eo(c:Ck)(env:bA)(y:Nx):Prop where
 sc:env.scope=c.sc
 kind:env.scope.kind=.function
 gl:env.globals=mainGlobals
 bi:env.builtins=builtinsNs
 loc:y.has env.locals∧¬ chg y.μ env.locals
 cells:∀q∈env.cells,y.has q.2∧¬ chg y.μ q.2
 fr:env.frame.isSome=true
 cx:∀x,c.sc.names.lookup x=some .cell∨c.sc.names.lookup x=some .free→(env.cells.lookup x).isSome=true
structure Room(n u:Nat)(A:Around):Prop where
 depth:A.depth+5*n+min u 2+2<recursionLimit
 units:A.units+100*n+u<cLine
 hand:A.handled=none
structure Bd where
 D:Wd
 P:Prog
 T:TabK
 n:Nat
structure Ev where
 env:bA
 A:Around
 ρ:aP
noncomputable def Fe(D:Wd)(c:Ck)(e:Ev)(y:Nx):Prop :=
 ∀x i d,c.names.lookup x=some i→aGg (e.env.kindOf x)=true→e.ρ[i]?=some (some d)→∃u,At y.s.heap e.env x u∧RV D y d u
section
variable(B:Bd)
structure Go(u:Nat)(c:Ck)(e:Ev)(y:Nx):Prop where
 rm:Room B.n u e.A
 eo:Eo c e.env y
 fe:Fe B.D c e y
 sm:Sm B.D y
noncomputable abbrev Val(y:Nx)(d:V)(v:PV):Prop:=RV B.D y d v
noncomputable abbrev Vals(y:Nx)(d:List V)(v:List PV):Prop:=RVs B.D y d v
noncomputable def Wp(e:Ev)(y:Nx){α:Type}(t:Sem α)(Q:α→Shared→Prop)(E:PV→Shared→Prop):Prop:=wpAny (model B.D.prog B.D.w) e.A t Q E y.s
noncomputable def kX(e:Ev)(y:Nx)(x:X)(K:V→St→Prop):Prop:=kE B.P B.T x e.ρ y.σ K
noncomputable def kXs(e:Ev)(y:Nx)(x:List X)(K:List V→St→Prop):Prop:=kEs B.P B.T x e.ρ y.σ K
noncomputable def TE(u:Nat)(c:Ck)(x:X)(t:bA→Sem PV):Prop :=
 ∀(e:Ev) (y:Nx) (Q E:PV→Shared→Prop) (K:V→St→Prop),Go B u c e y→kX B e y x K→(∀d Y v,K d Y.σ→Aft B.D y noA Y→Val B Y d v→Q v Y.s)→Wp B e y (t e.env) Q E
noncomputable def TEs(u:Nat)(c:Ck)(xs:List X)(t:bA→Sem (List PV)):Prop :=
 ∀(e:Ev) (y:Nx) (Q:List PV→Shared→Prop) (E:PV→Shared→Prop) (K:List V→St→Prop),Go B u c e y→kXs B e y xs K→(∀d Y v,K d Y.σ→d.length=xs.length→Aft B.D y noA Y→Vals B Y d v→Q v Y.s)→Wp B e y (t e.env) Q E
noncomputable def TB(u:Nat)(c:Ck)(x:X)(t:bA→Sem Bool):Prop :=
 ∀(e:Ev) (y:Nx) (Q:Bool→Shared→Prop) (E:PV→Shared→Prop) (K:Bool→St→Prop),Go B u c e y→kX B e y x (fun d σ=>oK d.truthy fun b=>K b σ)→(∀b Y,K b Y.σ→Aft B.D y noA Y→Q b Y.s)→Wp B e y (t e.env) Q E
noncomputable def TF(u:Nat)(c:Ck)(x:X)(t:bA→Sem PV):Prop :=
 ∀(e:Ev) (y:Nx) (Q E:PV→Shared→Prop) (K:V→St→Prop),Go B u c e y→kX B e y x K→(∀d Y a,K d Y.σ→Aft B.D y noA Y→¬ y.has a→Pv Y a→RC B.D Y a d→Q (.ref a) Y.s)→Wp B e y (t e.env) Q E
end
section
variable{B:Bd}{u:Nat}{c:Ck}{e:Ev}{y Y Z:Nx}
theorem aC{α β:Type}[BEq α][LawfulBEq α]{x:α}{y:β}:∀{l:List (α × β)},l.lookup x=some y→(x,y)∈l
 | (a,b)::r,e=>by
  rw[List.lookup_cons]at e
  by_cases q:(x==a)=true
  ·rw[q]at e; obtain rfl:=Option.some.inj e; refine rwS (eq_of_beq q) ?_; exact List.mem_cons_self ..
  ·rw[Bool.eq_false_iff.mpr q]at e; exact List.mem_cons_of_mem _ (aC e)
theorem At.keep{h h':Heap}{env:bA}{x:Str}{u:PV}(a:At h env x u)(k1:∀o,h.get? env.locals=some o→h'.get? env.locals=some o)(k2:∀b o,env.cells.lookup x=some b→h.get? b=some o→h'.get? b=some o):At h' env x u :=
 a.imp (fun q=>⟨q.1,q.2.elim fun m q=>⟨m,q.1.at k1,q.2⟩⟩) fun q=>⟨q.1,q.2.elim fun b q=>⟨b,q.1,q.2.elim fun o r=>⟨o,k2 b o q.1 r.1,r.2⟩⟩⟩
theorem Eo.go(h:Eo c e.env y){F:Addr→Prop}(a:Aft B.D y F Y):Eo c e.env Y :=
 ⟨h.sc,h.kind,h.gl,h.bi,⟨a.ex _ h.loc.1,a.chg h.loc.1 h.loc.2⟩,fun q hq=>⟨a.ex _ (h.cells q hq).1,a.chg (h.cells q hq).1 (h.cells q hq).2⟩,h.fr,h.cx⟩
theorem Go.to(H:Go B u c e y)(a:Aft B.D y noA Y):Go B u c e Y:=⟨H.rm,H.eo.go a,fun x i d h1 h2 h3 =>
 (H.fe x i d h1 h2 h3).elim fun w q=>⟨w,q.1.keep (fun o g=>a.old H.eo.loc.2 g) fun b o g1 g2=>a.old (H.eo.cells (x,b) (aC g1)).2 g2,cL a.le d w q.2⟩,a.sm⟩
theorem Val.on{d:V}{v:PV}{F:Addr→Prop}(a:Aft B.D y F Y)(r:Val B y d v):Val B Y d v:=cL a.le d v r
theorem Vals.on{d:List V}{v:List PV}{F:Addr→Prop}(a:Aft B.D y F Y)(r:Vals B y d v):Vals B Y d v:=fI a.le d v r
theorem Go.refl(H:Go B u c e y):Aft B.D y noA y:=Aft.refl H.sm
noncomputable def Nx.tk(y:Nx)(t:Nat):Nx:=y.at { y.s with toks:=t }
theorem bY(m:Sm B.D y)(t:Nat):Aft B.D y noA (y.tk t):=(More.toks (More.refl y) t).aft m
theorem Go.toks(H:Go B u c e y)(t:Nat):Aft B.D y noA (y.tk t):=bY H.sm t
noncomputable def Nx.psh(y:Nx)(o:Obj):Nx:=y.at { y.s with heap:=y.s.heap.push o }
theorem bB{h:Heap}{o:Obj}(f:o.isFreed=false):(h.push o).get? h.objs.size=some o:=Heap.get?_push_size _ f
theorem hE(m:Sm B.D y){o:Obj}(f:o.isFreed=false):Aft B.D y noA (y.psh o)∧Pv (y.psh o) y.s.heap.objs.size :=
 ⟨(More.push (More.refl y) o).aft m,(More.push (More.refl y) o).pv m aY (bB f)⟩
noncomputable def Nx.tre(y:Nx)(o:Obj):Nx:=(y.psh o).wi y.s.heap.objs.size
theorem zM(m:Sm B.D y){o:Obj}(f:o.isFreed=false):Aft B.D y noA (y.tre o):=(hE m f).1.wi (hE m f).2 aY
theorem aTa{l:List PV}{k:Nat}(h:l.length≤k)(hk:k≤1000000):l.length≤sizeLine:=Nat.le_trans h (Nat.le_trans hk (by refine rwS sizeLine_eq ?_; decide))
theorem TF.te{x:X}{t:bA→Sem PV}(h:TF B u c x t):TE B u c x t:=fun e y Q E K H q z=>h e y Q E K H q fun d Y a k f l p r =>
 z d (Y.wi a) _ k (f.wi p l) (sZ (.inr rfl) (lH Le.wi (fun _ e=>e) r))
theorem iG{α:Type}{o:Option α}{k:α→Prop}(h:oK o k){Z:Prop}(z:∀a,o=some a→k a→Z):Z:=by
 cases o with
 | none=>exact False.elim h
 | some a=>exact z a rfl h
theorem aQg{d:V}{K:SObj→Prop}(h:oK (aOh d) K){a:Addr}{y:Nx}{D:Wd}(r:RC D y a d):∃o,K o∧OR D y (a,a) o:=by
 cases d <;> first | exact⟨_,h,rfl,r⟩ | exact False.elim h
theorem mR{D:Wd}(m:Sm D y){b:Addr}(h:¬ y.has b):D.base.get? b=none:=by
 cases e:D.base.get? b with
 | none=>rfl
 | some o=>exact absurd (cI (m.gi b o e)) h
theorem aSo{x:X}{t:bA→Sem PV}(h:TF B u c x t):TE B u c (.mut x) t:=fun e y Q E K H q z=>h e y Q E _ H q fun d Y a k f l p r =>
 let ⟨o,k2,w⟩:=aQg k r
 z (.loc Y.σ.length) (Y.lo (a,a) o) _ k2 (f.lo p p ⟨l,l⟩ (mR H.sm l) (qB Le.lo (fun _ e=>e) (fun _ e=>e) w)) ⟨(a,a),rfl,by refine rwT f.sm.len ?_; exact uB⟩
theorem aNo{k:Nat}{p:Pos}:TE B u c (.cst .none) (fun env=>eval (.Constant .none k p) env) :=
 fun e y Q E K H q z=>wpAny_Constant_none (z .none y _ q H.refl rfl)
theorem aMs{b:Bool}{k:Nat}{p:Pos}:TE B u c (.cst (.bool b)) (fun env=>eval (.Constant (.bool b) k p) env) :=
 fun e y Q E K H q z=>wpAny_Constant_bool (z (.bool b) y _ q H.refl rfl)
theorem aUa{i:Int}{k:Nat}{p:Pos}:TE B u c (.cst (.int i)) (fun env=>eval (.Constant (.int i) k p) env) :=
 fun e y Q E K H q z=>wpAny_Constant_int (z (.int i) (y.tk _) _ q (H.toks _) ⟨_,rfl⟩)
theorem aTl{j:Int}{k:Nat}{p p':Pos}:TE B u c (.cst (.int (-j))) (fun env=>eval (.UnaryOp .USub (.Constant (.int j) k p) p') env) :=
 fun e y Q E K H q z=>UnaryOp_ (wpAny_Constant_int (neg_int (z (.int (-j)) (y.tk _) _ q (H.toks _) ⟨_,rfl⟩)))
theorem aHi{x:Str}{s:Nat}{k:Nat}{p:Pos}(h1:strOk x=true)(h2:aL x=s):TE B u c (.cst (.str s)) (fun env=>eval (.Constant (.str x) k p) env) :=
 fun e y Q E K H q z=>wpAny_Constant_str (z (.str s) (y.tk _) _ q (H.toks _) ⟨x,_,rfl,h1,h2⟩)
theorem aEo{ρ:aP}{i:Nat}{v:V}(h:(ρ[i]?).bind id=some v):ρ[i]?=some (some v):=by
 cases e:ρ[i]? with
 | none=>rw[e]at h; exact nos h
 | some o=>rw[e]at h; exact congrArg some h
theorem Eo.kd(h:Eo c e.env y)(x:Str):e.env.kindOf x=c.sc.names.lookup x:=congrArg (fun s:Scope=>s.names.lookup x) h.sc
theorem aUu{i:Nat}{x:Str}{p:Pos}(h1:c.names.lookup x=some i)(h2:aGg (c.sc.names.lookup x)=true)(h3:(x==("__debug__":Str))=false)(h4:(x==("__classdict__":Str))=false) :
  TE B u c (.var i) (fun env=>eval (.Name x p) env):=fun e y Q E K H q z=>iG q fun v hv hk =>
 (H.fe x i v h1 ((H.eo.kd x).symm▸h2) (aEo hv)).elim fun w r =>
  have fin:=z v y w hk H.refl r.2
  wpAny_Name (r.1.elim (fun r=>r.2.elim fun m n=>wpAny_loadName_local H.eo.kind r.1 n.1 n.2 fin) fun r=>r.2.elim fun b n =>
   r.1.elim (fun k=>wpAny_loadName_cell H.eo.kind k n.1 n.2 fin) fun k=>wpAny_loadName_free H.eo.kind k n.1 n.2 fin h4) h3
theorem eY{p:Pos}:TEs B u c [] (fun env=>spliced (backTo p (starEach [] env))) :=
 fun e y Q E K H q z=>wpAny_pure (z [] y [] q rfl H.refl rfl)
theorem aX{e:PE}{r:List PE}{env:bA}(h:isStarred e=false):starEach (e::r) env=(false,eval e env)::starEach r env:=by
 cases e <;> first | rfl | exact aMl h
theorem eP{x:X}{xs:List X}{t:PE}{ts:List PE}{p:Pos}(hs:isStarred t=false)(h1:TE B u c x (fun env=>eval t env))(h2:TEs B u c xs (fun env=>spliced (backTo p (starEach ts env)))) :
  TEs B u c (x::xs) (fun env=>spliced (backTo p (starEach (t::ts) env))):=fun e y Q E K H q z=>by
 show wpAny _ e.A (spliced (backTo p (starEach (t::ts) e.env))) Q E y.s
 refine rwS (aX hs) ?_
 exact Calls.spliced_cons (h1 e y _ E _ H q fun d1 Y v1 k1 a1 r1=>h2 e Y _ E _ (H.to a1) k1 fun d2 Z v2 k2 l2 a2 r2 =>
  z (d1::d2) Z _ k2 (congrArg (· + 1) l2) (a1.trans a2) ⟨v1,v2,rfl,Val.on a2 r1,r2⟩)
theorem uI{d:List V}{v:List PV}{n:Nat}(r:Vals B y d v)(l:d.length=n)(h:n≤1000):v.length≤sizeLine:=aTa (k:=1000) (by refine rwS (aV r) (rwS l ?_); exact h) (by decide)
theorem aQx{xs:List X}{ts:List PE}{k:Nat}{p:Pos}(hl:xs.length≤1000)(h1:TEs B u c xs (fun env=>spliced (backTo p (starEach ts env)))) :
  TE B u c (.tup xs) (fun env=>eval (.Tuple ts k p) env):=fun e y Q E K H q z =>
 Tuple_ (h1 e y _ E _ H q fun d Y v k1 l1 a r=>wpAny_newTuple (z (.tup d) (Y.tre _) _ k1 (a.trans (zM a.sm rfl)) ⟨_,_,rfl,.inr rfl,⟨_,bB rfl⟩,Vals.on (zM a.sm rfl) r⟩) (uI r l1 hl))
theorem aMy{xs:List X}{ts:List PE}{p:Pos}(hl:xs.length≤1000)(h1:TEs B u c xs (fun env=>spliced (backTo p (starEach ts env)))) :
  TF B u c (.list xs) (fun env=>eval (.List ts p) env):=fun e y Q E K H q z =>
 List_ (h1 e y _ E _ H q fun d Y v k1 l1 a r=>wpAny_newList (z (.list d) (Y.psh _) _ k1 (a.trans (hE a.sm rfl).1) (fun h=>aY (a.ex _ h)) (hE a.sm rfl).2 ⟨_,⟨_,bB rfl⟩,Vals.on (hE a.sm rfl).1 r⟩) (uI r l1 hl))
theorem TB.ite{x x1 x2:X}{t f g:PE}{p:Pos}(h1:TB B u c x (fun env=>isTrue t env (eval t env)))(h2:TB B u c x1 (fun env=>isTrue f env (eval f env)))(h3:TB B u c x2 (fun env=>isTrue g env (eval g env))) :
  TB B u c (.ite x x1 x2) (fun env=>isTrue (.IfExp t f g p) env (eval (.IfExp t f g p) env)):=fun e y Q E K H q z =>
 isTrue_IfExp (h1 e y _ E _ H q fun b Y k1 a=>match b,k1 with
  | true,k1=>h2 e Y Q E K (H.to a) k1 fun b2 Z k2 a2=>z b2 Z k2 (a.trans a2)
  | false,k1=>h3 e Y Q E K (H.to a) k1 fun b2 Z k2 a2=>z b2 Z k2 (a.trans a2))
theorem aTg{x x1 x2:X}{t f g:PE}{p:Pos}(h1:TB B u c x (fun env=>isTrue t env (eval t env)))(h2:TE B u c x1 (fun env=>eval f env))(h3:TE B u c x2 (fun env=>eval g env)) :
  TE B u c (.ite x x1 x2) (fun env=>eval (.IfExp t f g p) env):=fun e y Q E K H q z =>
 wpAny_bind (h1 e y _ E _ H q fun b Y k1 a=>match b,k1 with
  | true,k1=>h2 e Y Q E K (H.to a) k1 fun d2 Z v2 k2 a2 r2=>z d2 Z v2 k2 (a.trans a2) r2
  | false,k1=>h3 e Y Q E K (H.to a) k1 fun d2 Z v2 k2 a2 r2=>z d2 Z v2 k2 (a.trans a2) r2)
noncomputable def gL(e:PE):Bool:=![0,3,5,15].contains e.ctorIdx
theorem aDt{e:PE}{env:bA}{whole:Sem PV}(h:gL e=true):isTrue e env whole=(do let v ← whole; standAt e.pos; holding [v] (truthy v)):=by
 cases e <;> first | rfl | exact absurd h Bool.false_ne_true
theorem jP{d:V}{K:Bool→Prop}(h:oK d.truthy K):∃b,d=.bool b∧K b:=by
 cases d <;> first | exact⟨_,rfl,h⟩ | exact False.elim h
theorem aHn{x:X}{t:PE}(he:gL t=true)(h:TE B u c x (fun env=>eval t env)):TB B u c x (fun env=>isTrue t env (eval t env)):=fun e y Q E K H q z =>
 isTrue_plain (h e y _ E _ H q fun d Y v k1 a r=>by
  refine e12 (jP k1) fun b e_1 k2=>?_; subst e_1
  obtain rfl:=(r:v=.bool b)
  exact wpAny_truthy_bool (z b Y k2 a)) (aDt he)
inductive All2{α β:Type}(R:α→β→Prop):List α→List β→Prop
 | nil:All2 R [] []
 | cons {a b l k}:R a b→All2 R l k→All2 R (a::l) (b::k)
noncomputable def Bks(o:Bool)(B:Bd)(e:Ev)(y:Nx)(xs:List X)(K:V→St→Prop):Prop:=match o with
 | true=>kOr B.P B.T xs e.ρ y.σ K
 | false=>aUo B.P B.T xs e.ρ y.σ K
theorem aHu(o:Bool){xs:List X}{ts:List PE}(h:All2 (fun x t=>TB B u c x (fun env=>isTrue t env (eval t env))) xs ts):∀(e:Ev) (y:Nx) (Q:Bool→Shared→Prop) (E:PV→Shared→Prop) (K:Bool→St→Prop),Go B u c e y →
  Bks o B e y xs (fun d σ=>oK d.truthy fun b=>K b σ)→(∀b Y,K b Y.σ→Aft B.D y noA Y→Q b Y.s)→Wp B e y (allTrue (bif o then .Or else .And) ts e.env) Q E:=by
 induction h with
 | nil=>cases o <;> exact fun e y Q E K H q z=>False.elim q
 | cons h1 h2 ih=>cases o with
  | false=>cases h2 with
   | nil=>exact fun e y Q E K H q z=>wpAny_allTrue_And_cons (h1 e y _ E _ H q fun b Y k1 a=>match b,k1 with
    | true,k1=>wpAny_allTrue_And_nil (z _ Y k1 a)
    | false,k1=>z _ Y k1 a)
   | cons _ _=>exact fun e y Q E K H q z=>wpAny_allTrue_And_cons (h1 e y _ E _ H q fun b Y k1 a=>match b,k1 with
    | true,k1=>ih e Y Q E K (H.to a) k1 fun b2 Y2 k2 a2=>z b2 Y2 k2 (a.trans a2)
    | false,k1=>z _ Y k1 a)
  | true=>cases h2 with
   | nil=>exact fun e y Q E K H q z=>wpAny_allTrue_Or_cons (h1 e y _ E _ H q fun b Y k1 a=>match b,k1 with
    | false,k1=>wpAny_allTrue_Or_nil (z _ Y k1 a)
    | true,k1=>z _ Y k1 a)
   | cons _ _=>exact fun e y Q E K H q z=>wpAny_allTrue_Or_cons (h1 e y _ E _ H q fun b Y k1 a=>match b,k1 with
    | false,k1=>ih e Y Q E K (H.to a) k1 fun b2 Y2 k2 a2=>z b2 Y2 k2 (a.trans a2)
    | true,k1=>z _ Y k1 a)
theorem aRt{xs:List X}{ts:List PE}{p:Pos}(h:All2 (fun x t=>TB B u c x (fun env=>isTrue t env (eval t env))) xs ts):TB B u c (.and xs) (fun env=>isTrue (.BoolOp .And ts p) env (eval (.BoolOp .And ts p) env)) :=
 fun e y Q E K H q z=>wpAny_isTrue_BoolOp (aHu false h e y Q E K H q z)
theorem aYp{xs:List X}{ts:List PE}{p:Pos}(h:All2 (fun x t=>TB B u c x (fun env=>isTrue t env (eval t env))) xs ts):TB B u c (.or xs) (fun env=>isTrue (.BoolOp .Or ts p) env (eval (.BoolOp .Or ts p) env)) :=
 fun e y Q E K H q z=>wpAny_isTrue_BoolOp (aHu true h e y Q E K H q z)
theorem aUd{xs:List X}{ts:List PE}{p:Pos}(h:All2 (fun x t=>TE B u c x (fun env=>eval t env)) xs ts):TE B u c (.and xs) (fun env=>eval (.BoolOp .And ts p) env):=by
 induction h with
 | nil=>exact fun e y Q E K H q z=>False.elim q
 | cons h1 h2 ih=>cases h2 with
  | nil=>exact fun e y Q E K H q z=>BoolOp_one (h1 e y Q E K H q z)
  | cons _ _=>exact fun e y Q E K H q z=>BoolOp_and (h1 e y _ E _ H q fun d Y v k1 a r=>by
    refine e12 (jP k1) fun b e_1 k2=>?_; subst e_1
    obtain rfl:=(r:v=.bool b)
    refine wpAny_truthy_bool ?_
    cases b with
    | true=>exact ih e Y Q E K (H.to a) k2 fun d2 Y2 v2 k2 a2 r2=>z d2 Y2 v2 k2 (a.trans a2) r2
    | false=>exact z (.bool _) Y _ k2 a rfl)
theorem aWc{xs:List X}{ts:List PE}{p:Pos}(h:All2 (fun x t=>TE B u c x (fun env=>eval t env)) xs ts):TE B u c (.or xs) (fun env=>eval (.BoolOp .Or ts p) env):=by
 induction h with
 | nil=>exact fun e y Q E K H q z=>False.elim q
 | cons h1 h2 ih=>cases h2 with
  | nil=>exact fun e y Q E K H q z=>BoolOp_one (h1 e y Q E K H q z)
  | cons _ _=>exact fun e y Q E K H q z=>BoolOp_or (h1 e y _ E _ H q fun d Y v k1 a r=>by
    refine e12 (jP k1) fun b e_1 k2=>?_; subst e_1
    obtain rfl:=(r:v=.bool b)
    refine wpAny_truthy_bool ?_
    cases b with
    | false=>exact ih e Y Q E K (H.to a) k2 fun d2 Y2 v2 k2 a2 r2=>z d2 Y2 v2 k2 (a.trans a2) r2
    | true=>exact z (.bool _) Y _ k2 a rfl)
theorem aLp{k:Nat}{t:bA→Sem PV}(h:B.P.glob k=none):TE B u c (.glob k) t:=fun e y Q E K H q z=>by
 have q:oK (B.P.glob k) fun v=>K v y.σ:=q
 rw[h]at q; exact False.elim q
end
inductive PP:V→PyData→Prop
 | none:PP .none .none
 | bool (b):PP (.bool b) (.bool b)
 | int (i):PP (.int i) (.int i)
 | str (x):strOk x=true→PP (.str (aL x)) (.str x)
 | tup {l ps}:All2 PP l ps→PP (.tup l) (.tuple ps)
 | list {l ps}:All2 PP l ps→PP (.list l) (.list ps)
theorem vQ{x:Str}(h:strOk x=true):PyData.strOk x=true:=by
 delta PyData.strOk
 refine rwT Array.all_toList ?_
 exact h
structure Rd(h:Heap)(n:Nat)(d:V)(v:PV)(p:PyData):Prop where
 rd:∃as,Reads h v p as
 pp:PP d p
 ly:p.canLay0=true
 dp:p.depth≤n
structure Rds(h:Heap)(n:Nat)(d:List V)(v:List PV)(p:List PyData):Prop where
 rd:∃as,ReadsAll h v p as
 pp:All2 PP d p
 ly:PyData.canLayAll0 p=true
 dp:PyData.depthAll p≤n
section
variable{D:Wd}{N:Nx}{h:Heap}
theorem Rd.cons{n:Nat}{d:V}{v:PV}{p:PyData}{l:List V}{t:List PV}{ps:List PyData}(a:Rd h n d v p)(b:Rds h n l t ps):Rds h n (d::l) (v::t) (p::ps) :=
 ⟨a.rd.elim fun as ra=>b.rd.elim fun bs rb=>⟨as++bs,.cons ra rb⟩,.cons a.pp b.pp,Bool.and_eq_true_iff.mpr ⟨a.ly,b.ly⟩,Nat.max_le.mpr ⟨a.dp,b.dp⟩⟩
noncomputable def cok(n:Nat)(d:V):Prop:=cF n d=true∨gZ d=true
noncomputable def RA(D:Wd)(N:Nx):V→PV→Prop
 | .list l,v=>∃a,v=.ref a∧RC D N a (.list l)
 | d,v=>RV D N d v
theorem RV.ra{d:V}{v:PV}(r:RV D N d v):RA D N d v:=by
 cases d with
 | list l=>exact r.elim fun a q=>q.elim fun vs q=>⟨a,q.1,vs,q.2.2⟩
 | _=>exact r
theorem jO{n:Nat}(ih:∀d v,cok n d→RA D N d v→∃p,Rd N.s.heap n d v p):∀{l:List V} {vs:List PV},(∀d∈l,cok n d)→RVs D N l vs→∃ps,Rds N.s.heap n l vs ps
 | [],_,_,r=>(show _=[] from r)▸⟨[],⟨[],.nil⟩,.nil,rfl,Nat.zero_le _⟩
 | d::l,_,hk,⟨v,t,e,r1,r2⟩=>(ih d v (hk d (List.mem_cons_self ..)) r1.ra).elim fun p a=>(jO ih (fun e he=>hk e (List.mem_cons_of_mem _ he)) r2).elim fun ps b=>e▸⟨_,a.cons b⟩
theorem sQ{n:Nat}{l:List V}(h:l.all (cF n)=true):∀d∈l,cok n d:=fun d m=>.inl (List.all_eq_true.mp h d m)
theorem lQ(n:Nat):∀(d:V) (v:PV),cok n d→RA D N d v→∃p,Rd N.s.heap n d v p:=by
 induction n with
 | zero =>
  intro d v hk r
  cases d with
  | none=>exact(show v=.none from r)▸⟨.none,⟨[],.none⟩,.none,rfl,Nat.zero_le _⟩
  | bool b=>exact(show v=.bool b from r)▸⟨.bool b,⟨[],.bool b⟩,.bool b,rfl,Nat.zero_le _⟩
  | int i=>refine e1 r fun t e_1=>?_; subst e_1; exact⟨.int i,⟨[],.int i t⟩,.int i,rfl,Nat.zero_le _⟩
  | str s=>refine e23 r fun x t e_2 h1 e_4=>?_; subst e_2; subst e_4; exact⟨.str x,⟨[],.str x t⟩,.str x h1,vQ h1,Nat.zero_le _⟩
  | _=>exact hk.elim (fun e=>nomatch e) fun e=>nomatch e
 | succ n ih =>
  intro d v hk r
  cases d with
  | none=>exact(show v=.none from r)▸⟨.none,⟨[],.none⟩,.none,rfl,Nat.zero_le _⟩
  | bool b=>exact(show v=.bool b from r)▸⟨.bool b,⟨[],.bool b⟩,.bool b,rfl,Nat.zero_le _⟩
  | int i=>refine e1 r fun t e_1=>?_; subst e_1; exact⟨.int i,⟨[],.int i t⟩,.int i,rfl,Nat.zero_le _⟩
  | str s=>refine e23 r fun x t e_2 h1 e_4=>?_; subst e_2; subst e_4; exact⟨.str x,⟨[],.str x t⟩,.str x h1,vQ h1,Nat.zero_le _⟩
  | tup l =>
   obtain⟨a,vs,rfl,_,⟨k,ho⟩,rs⟩:=r
   exact(jO ih (sQ (hk.elim id fun e=>nomatch e)) rs).elim fun ps b=>b.rd.elim fun as b1=>⟨.tuple ps,⟨as,.tuple ho rfl rfl b1⟩,.tup b.pp,b.ly,Nat.succ_le_succ b.dp⟩
  | list l =>
   refine nnG fun nG=>?_; obtain⟨a,rfl,vs,⟨k,ho⟩,rs⟩:=r
   refine nG ?_; exact(jO ih (sQ (hk.elim id fun e=>nomatch e)) rs).elim fun ps b=>b.rd.elim fun as b1=>⟨.list ps,⟨a::as,.list ho rfl rfl b1⟩,.list b.pp,b.ly,Nat.succ_le_succ b.dp⟩
  | _=>exact hk.elim (fun e=>nomatch e) fun e=>nomatch e
end
theorem sI{n:Nat}{b:Bool}(h:cF n (.bool b)=true):False:=by cases n <;> exact nomatch h
theorem xJ{n:Nat}{l:List V}(h:cF n (.tup l)=true):∃k,n=k+1∧l.all (cF k)=true:=match n,h with
 | k+1,h=>⟨k,rfl,h⟩
theorem xA{n:Nat}{l:List V}(h:cF n (.list l)=true):∃k,n=k+1∧l.all (cF k)=true:=match n,h with
 | k+1,h=>⟨k,rfl,h⟩
theorem tV{x y:Str}(hx:strOk x=true)(hy:strOk y=true):(x==y)=decide (aL x=aL y) :=
 Bool.eq_iff_iff.mpr (beq_iff_eq.trans (Iff.trans ⟨fun e=>e▸rfl,fun e=>cN hx hy e⟩ decide_eq_true_iff.symm))
noncomputable def aPa(n k:Nat):Prop:=∀(d e:V) (p q:PyData),cF n d=true→cF k e=true→PP d p→PP e q→PyData.eqv p q=V.beq d e
theorem aAu{n k:Nat}(ih:aPa n k){l:List V}{ps:List PyData}(a:All2 PP l ps):∀{j:List V} {qs:List PyData},All2 PP j qs→l.all (cF n)=true→j.all (cF k)=true→PyData.eqvAll ps qs=jQ l j:=by
 induction a with
 | nil=>intro j qs b _ _; cases b <;> rfl
 | cons a1 a2 ih2 =>
  intro j qs b h1 h2
  cases b with
  | nil=>rfl
  | cons b1 b2 =>
   exact congr (congrArg and (ih _ _ _ _ (Bool.and_eq_true_iff.mp h1).1 (Bool.and_eq_true_iff.mp h2).1 a1 b1)) (ih2 b2 (Bool.and_eq_true_iff.mp h1).2 (Bool.and_eq_true_iff.mp h2).2)
theorem aIx:∀(n k:Nat),aPa n k:=fun n=>by
 induction n with
 | zero =>
  intro k d e p q h1 h2 a b
  cases a <;> first | exact absurd h1 Bool.false_ne_true | (cases b <;> first | rfl | exact(sI h2).elim | exact tV ‹_› ‹_›)
 | succ n ih =>
  intro k d e p q h1 h2 a b
  cases a <;> first | exact absurd h1 Bool.false_ne_true | (cases b <;> first | rfl | exact(sI h2).elim | exact tV ‹_› ‹_› | (refine e12 (xJ h2) fun k e_1 h2=>?_; subst e_1; exact aAu (ih k) ‹_› ‹_› h1 h2) | (refine e12 (xA h2) fun k e_1 h2=>?_; subst e_1; exact aAu (ih k) ‹_› ‹_› h1 h2))
section
variable{B:Bd}{u:Nat}{c:Ck}{G:Ev}{N Y Z:Nx}{Q E:PV→Shared→Prop}
theorem bI{α:Type}{p:Prop}[Decidable p]{o:Option α}{K:α→Prop}(h:oK (if p then o else none) K):p∧oK o K:=by
 by_cases hp:p
 ·rw[if_pos hp]at h; exact⟨hp,h⟩
 ·rw[if_neg hp]at h; exact False.elim h
theorem xE{a b:V}{p q:PyData}(h1:gZ a=true)(h2:gZ b=true)(x:PP a p)(y:PP b q):PyData.eqv p q=V.beq a b:=by
 cases x <;> first | exact absurd h1 Bool.false_ne_true | (cases y <;> first | rfl | exact absurd h2 Bool.false_ne_true)
theorem vG{v:V}{x:PV}(sm:Sm B.D N)(r:Val B N v x):RA B.D N (iE N.σ v) x:=by
 cases v with
 | loc k =>
  refine e12 r fun p e_1 hp=>?_; subst e_1
  show RA B.D N (yW k N.σ[k]?) _
  cases hl:N.σ[k]? with
  | none=>exact⟨p,rfl,hp⟩
  | some o=>cases o with
   | list l=>exact⟨p.1,rfl,(sm.obj k _ p hl hp).2⟩
   | _=>exact⟨p,rfl,hp⟩
 | _=>exact r.ra
theorem pE{a b:V}(h:(nU a b).isSome=true):(cF 24 a=true∧cF 24 b=true)∨(gZ a=true∧gZ b=true):=by
 by_cases g:((cF 24 a&&cF 24 b) || (gZ a&&gZ b))=true
 ·exact(Bool.or_eq_true_iff.mp g).imp Bool.and_eq_true_iff.mp Bool.and_eq_true_iff.mp
 ·rw[nU,if_neg g]at h; exact nob h
theorem aPh{a b:V}{x y:PV}{K:Bool→Prop}(sm:Sm B.D N)(e:oK (nU (iE N.σ a) (iE N.σ b)) K)(ra:Val B N a x)(rb:Val B N b y)(hu:G.A.units+24<cLine) :
  ((∀r,K r→Q (.bool r) N.s)→Wp B G N (compareOp .Eq x y) Q E)∧((∀r,K r→Q (.bool (!r)) N.s)→Wp B G N (compareOp .NotEq x y) Q E):=by
 have ra:=vG sm ra
 have rb:=vG sm rb
 generalize iE N.σ a=a at *
 generalize iE N.σ b=b at *
 have fin:cok 24 a→cok 24 b→(∀p q,PP a p→PP b q→PyData.eqv p q=V.beq a b)→K (V.beq a b)→((∀r,K r→Q (.bool r) N.s)→Wp B G N (compareOp .Eq x y) Q E)∧((∀r,K r→Q (.bool (!r)) N.s)→Wp B G N (compareOp .NotEq x y) Q E):=fun ca cb hq hK=>by
  refine nnG fun nG=>?_; obtain⟨p,⟨as,a1⟩,a2,a3,a4⟩:=lQ 24 a x ca ra
  obtain⟨q,⟨bs,b1⟩,b2,b3,b4⟩:=lQ 24 b y cb rb
  refine nG ?_; rw[← hq p q a2 b2]at hK
  have un:∀n,G.A.units+min p.depth n<cLine:=fun n=>Nat.lt_of_le_of_lt (Nat.add_le_add_left (Nat.le_trans (Nat.min_le_left _ _) a4) _) hu
  exact⟨fun z=>PySem.SeqAt.eqOverData _ _ _ _ _ _ _ _ _ _ _ _ a1 b1 a3 b3 (un _) (z _ hK),fun z=>PySem.SeqAt.neOverData _ _ _ _ _ _ _ _ _ _ _ _ a1 b1 a3 b3 (un _) (z _ hK)⟩
 refine nnG fun nG=>?_; refine e02 (bI e) fun h hK=>?_
 refine nG ?_; exact(Bool.or_eq_true_iff.mp h).elim (fun h=>have h:=Bool.and_eq_true_iff.mp h; fin (.inl h.1) (.inl h.2) (fun p q=>aIx 24 24 a b p q h.1 h.2) hK)
  fun h=>have h:=Bool.and_eq_true_iff.mp h; fin (.inr h.1) (.inr h.2) (fun p q=>xE h.1 h.2) hK
end
noncomputable def nD:Cop→CmpOp
 | .eq=>.Eq | .ne=>.NotEq | .lt=>.Lt | .gt=>.Gt | .ge=>.GtE | .in_=>.In | .notIn=>.NotIn | .le=>.LtE
section
variable{D:Wd}{N:Nx}
theorem oI{z:Str}(hz:strOk z=true){Z:Prop}:∀{l:List (V × V)} {kvs:List (Str × PV)},RVd D N l kvs →
  (aK (.str (aL z)) l=none→valueAt kvs z=none→Z)→(∀d v,aK (.str (aL z)) l=some d→valueAt kvs z=some v→RV D N d v→Z)→Z
 | [],kvs,r,k1,_=>by obtain rfl:=(r:_=[]); exact k1 rfl rfl
 | (k,d)::l,kvs,r,k1,k2=>by
  obtain⟨x,v,t,rfl,⟨rfl,hx⟩,r1,r2⟩:=r
  by_cases e:x=z
  ·subst e
   exact k2 d v (if_pos (decide_eq_true rfl)) (by simp[valueAt]) r1
  ·have e1:aK (.str (aL z)) ((.str (aL x),d)::l)=aK (.str (aL z)) l:=if_neg fun q=>e (cN hx hz (of_decide_eq_true q))
   have e2:valueAt ((x,v)::t) z=valueAt t z:=by simp[valueAt,e]
   rw[e1,e2]at k1
   exact oI hz r2 k1 fun d v h1 h2=>k2 d v (e1.trans h1) (e2.trans h2)
end
section
variable{B:Bd}{u:Nat}{c:Ck}{G:Ev}{N Y Z:Nx}{Q E:PV→Shared→Prop}
theorem bO{α β:Type}{o:Option α}{f:α→β}{K:β→Prop}(h:oK (o.map f) K):oK o fun a=>K (f a):=by
 cases o <;> exact h
theorem aR{α β:Type}{o:Option α}{f:α→Option β}{K:β→Prop}(h:oK (o.bind f) K):oK o fun a=>oK (f a) K:=by
 cases o <;> exact h
theorem eQ{b:Bool}{p:Prop}(h:bK b p):b=true∧p:=by cases b <;> first | exact⟨rfl,h⟩ | exact False.elim h
theorem aB{a b:Bool}(h:(a&&b)=true):a=true:=(Bool.and_eq_true_iff.mp h).1
theorem aA{a b:Bool}(h:(a&&b)=true):b=true:=(Bool.and_eq_true_iff.mp h).2
theorem iR{k:Nat}{p:Addr × Addr}{f:Option SObj→Prop}(sm:Sm B.D N)(hp:N.μ[k]?=some p)(h:f N.σ[k]?)(h0:f none→False):∃o,f (some o)∧OR B.D N p o∧N.σ[k]?=some o:=by
 cases hl:N.σ[k]? with
 | none=>rw[hl]at h; exact(h0 h).elim
 | some o=>rw[hl]at h; exact⟨o,h,sm.obj k o p hl hp,rfl⟩
noncomputable def SqAt(N:Nx)(a:Addr)(vs:Array PV):Prop:=N.s.heap.IsList a vs∨N.s.heap.IsTuple a vs
theorem tT{v:V}{x:PV}{K:List V→Prop}{Z:Prop}(sm:Sm B.D N)(e:oK (cH N.σ v) K)(r:Val B N v x)(z:∀l a vs,K l→x=.ref a→SqAt N a vs→Vals B N l vs.toList→Z):Z:=by
 cases v with
 | tup k=>exact r.elim fun a q=>q.elim fun vs q=>z k a vs e q.1 (.inr q.2.2.1.tup) q.2.2.2
 | list k=>exact r.elim fun a q=>q.elim fun vs q=>z k a vs e q.1 (.inl q.2.2.1.list) q.2.2.2
 | loc k=>exact r.elim fun p q=>(iR (f:=fun o=>oK (rP o) K) sm q.2 e id).elim fun o h=>match o,h with
  | .list l,h=>h.2.1.2.elim fun vs w=>z l p.1 vs h.1 q.1 (.inl w.1.list) w.2
  | .inst _ _,h=>h.1.elim
  | .dict _,h=>h.1.elim
  | .dead,h=>h.1.elim
 | _=>exact False.elim e
theorem SqAt.reads{a:Addr}{vs:Array PV}(ht:SqAt N a vs){ps:List PyData}{as:List Addr}(r:ReadsAll N.s.heap vs.toList ps as):(∃bs,Reads N.s.heap (.ref a) (.list ps) bs)∨∃bs,Reads N.s.heap (.ref a) (.tuple ps) bs :=
 ht.imp (fun h=>h.elim fun o h=>h.2.2.elim fun k hd=>⟨_,.list h.1 h.2.1 hd r⟩) fun h=>h.elim fun o h=>h.2.2.elim fun k hd=>⟨_,.tuple h.1 h.2.1 hd r⟩
theorem fB{v:V}{x:PV}{K:List (V × V)→Prop}{Z:Prop}(sm:Sm B.D N)(e:oK (aO N.σ v) K)(r:Val B N v x)(z:∀l a kvs,K l→x=.ref a→IsDc B.D N.s.heap a kvs→RVd B.D N l kvs→Z):Z:=by
 cases v with
 | dict k=>exact r.elim fun a q=>q.elim fun vs q=>z k a vs e q.1 q.2.2.1 q.2.2.2
 | loc k=>exact r.elim fun p q=>(iR (f:=fun o=>oK (tW o) K) sm q.2 e id).elim fun o h=>match o,h with
  | .dict l,h=>h.2.1.2.elim fun vs w=>z l p.1 vs h.1 q.1 w.1 w.2
  | .inst _ _,h=>h.1.elim
  | .list _,h=>h.1.elim
  | .dead,h=>h.1.elim
 | _=>exact False.elim e
theorem dR{a:Addr}(h:1<a):(a==sysModules)=false:=beq_eq_false_iff_ne.mpr fun e=>absurd (e▸h:1<sysModules) (by decide)
theorem zX{k:V}{x:PV}(h:lA k=true)(r:Val B N k x):∃z t,k=.str (aL z)∧strOk z=true∧x=.str z t∧(SK B.D).is z x=true:=by
 cases k with
 | str y=>refine e23 r fun z t e_2 h1 e_4=>?_; subst e_2; subst e_4; exact⟨z,t,rfl,h1,rfl,strKind_is _ _ _ _⟩
 | _=>exact absurd h Bool.false_ne_true
theorem bBw:(#[]:Array PV).any (fun _=>false)=false:=by simp
theorem aEf{k n m:Nat}(h:n+m<cLine)(hk:k≤m):n+k<cLine:=Nat.lt_of_le_of_lt (Nat.add_le_add_left hk _) h
noncomputable def aQw(B:Bd)(G:Ev)(N:Nx)(E:PV→Shared→Prop)(K:Bool→Prop)(Q:PV→Shared→Prop)(o o':CmpOp)(x y:PV):Prop :=
 ((∀r t,K r→Q (.bool r) (N.tk t).s)→Wp B G N (compareOp o x y) Q E)∧((∀r t,K r→Q (.bool (!r)) (N.tk t).s)→Wp B G N (compareOp o' x y) Q E)
theorem aJx{k:V}{p:PyData}(rp:PP k p){j:List V}{qs:List PyData}(a:All2 PP j qs):(∀d∈j,(nU d k).isSome=true)→(qs.any fun y=>PyData.eqv y p)=j.any fun y=>V.beq y k:=by
 induction a with
 | nil=>exact fun _=>rfl
 | cons a1 a2 ih=>exact fun h1=>congr (congrArg or ((pE (h1 _ (List.mem_cons_self ..))).elim (fun h=>aIx 24 24 _ k _ p h.1 h.2 a1 rp) fun h=>xE h.1 h.2 a1 rp)) (ih fun d m=>h1 d (List.mem_cons_of_mem _ m))
theorem aRr{k:V}{l:List V}{x:PV}{a:Addr}{vs:Array PV}{K:Bool→Prop}(e:oK (zP k l) K)(rk:Val B N k x)(rl:Vals B N l vs.toList)(hu:G.A.units+30<cLine)(ht:SqAt N a vs):aQw B G N E K Q .In .NotIn x (.ref a):=by
 refine e02 (bI e) fun h hK=>?_
 have h1:=List.all_eq_true.mp h
 cases l with
 | nil =>
  obtain rfl:=(Array.toList_eq_nil_iff.mp rl:vs=#[])
  have hK:K ((#[]:Array PV).any fun _=>false):=bBw.symm▸hK
  exact ht.elim (fun il=>⟨fun z=>SeqAt.in_listAt (fun _=>false) il (fun y hy=>nomatch hy) (z _ N.s.toks hK),fun z=>SeqAt.notIn_listAt (fun _=>false) il (fun y hy=>nomatch hy) (z _ N.s.toks hK)⟩)
   fun it=>⟨fun z=>SeqAt.in_tupleAt (fun _=>false) it (fun y hy=>nomatch hy) (z _ N.s.toks hK),fun z=>SeqAt.notIn_tupleAt (fun _=>false) it (fun y hy=>nomatch hy) (z _ N.s.toks hK)⟩
 | cons d0 l0 =>
  refine nnG fun nG=>?_; obtain⟨p,⟨bs,b1⟩,b2,b3,_⟩:=lQ 24 k x ((pE (h1 d0 (List.mem_cons_self ..))).imp (·.2) (·.2)) rk.ra
  obtain⟨ps,⟨as,a1⟩,a2,a3,a4⟩:=jO (lQ 24) (fun d hd=>(pE (h1 d hd)).imp (·.1) (·.1)) rl
  refine nG ?_; have hK:K (ps.any fun y=>PyData.eqv y p):=(aJx b2 a2 h1).symm▸hK
  rcases ht.reads a1 with ⟨cs,rc⟩ | ⟨cs,rc⟩
  ·exact⟨fun z=>SeqAt.in_list_reads rc b1 a3 b3 (by (first | lia | omega)) (z _ N.s.toks hK),fun z=>SeqAt.notIn_list_reads rc b1 a3 b3 (by (first | lia | omega)) (z _ N.s.toks hK)⟩
  ·exact⟨fun z=>SeqAt.in_tuple_reads rc b1 a3 b3 (by (first | lia | omega)) (z _ N.s.toks hK),fun z=>SeqAt.notIn_tuple_reads rc b1 a3 b3 (by (first | lia | omega)) (z _ N.s.toks hK)⟩
theorem aDh:∀{l:List V} {vs:List PV},(l.all fun | .str _=>true | _=>false)=true→Vals B N l vs→∃ks,ItemsAre (SK B.D) ks vs:=by
 intro l
 induction l with
 | nil=>intro vs _ r; obtain rfl:=(show vs=[] from r); exact⟨[],.nil⟩
 | cons x l ih =>
  intro vs h r
  refine e23 r fun v t e_2 r1 r2=>?_; subst e_2
  cases x with
  | str s =>
   refine e22 r1 fun x tk e_2 _=>?_; subst e_2
   exact(ih (aA h) r2).elim fun ks i=>⟨x::ks,.cons (strKind_is _ _ _ _) i⟩
  | _=>exact absurd (aB h) Bool.false_ne_true
theorem aAm{k:V}{x:PV}(h:zC k=true)(r:Val B N k x):∃a ks,x=.ref a∧IsTupleKey (SK B.D) N.s.heap ks a:=by
 cases k with
 | tup l=>obtain⟨a,vs,rfl,_,⟨m,ho⟩,rs⟩:=r; exact(aDh h rs).elim fun ks i=>⟨a,ks,rfl,_,vs,m,ho,rfl,rfl,i⟩
 | _=>exact absurd h Bool.false_ne_true
theorem qP{K:Type}[DecidableEq K]{D:Wd}{kk:HeapKind D.prog D.w K}{h:Heap}{a:Addr}(d:h.DictOf (SK D) a []):h.DictOfH kk a []:=by
 refine nnG fun nG=>?_; obtain⟨o,es,ep,ho,hx,hd,_,hp,_⟩:=d
 refine nG ?_; refine⟨o,es,ep,ho,hx,hd,?_,fun x hx=>(nomatch hx),List.nodup_nil⟩
 generalize es.toList=l at hp
 refine nnG fun nG=>?_; cases hp
 refine nG ?_; rfl
theorem aKm{k:V}{l:List (V × V)}{x:PV}{a:Addr}{kvs:List (Str × PV)}{K:Bool→Prop}(e:oK (inD k l) K)(rk:Val B N k x)(t:IsDc B.D N.s.heap a kvs)(rs:RVd B.D N l kvs)(hu:G.A.units+1<cLine):aQw B G N E K Q .In .NotIn x (.ref a):=by
 by_cases hk:lA k=true
 ·have e:K (aK k l).isSome:=by rw[inD,if_pos hk]at e; exact e
  refine e24 (zX hk rk) fun y tk e_2 hz e_4 is=>?_; subst e_2; subst e_4
  have e':K (valueAt kvs y).isSome:=oI hz rs (fun h1 h2=>by rw[h1]at e; refine rwS h2 ?_; exact e) fun d v h1 h2 _=>by rw[h1]at e; refine rwS h2 ?_; exact e
  exact⟨fun z=>wpAny_in_of is (dR t.1) t.2.mapOf (z _ _ e'),fun z=>wpAny_notIn_of is (dR t.1) t.2.mapOf (z _ _ e')⟩
 ·rw[inD,if_neg hk]at e
  refine e02 (bI e) fun hk e2=>?_
  have e2:K false:=e2
  cases l with
  | nil =>
   obtain rfl:=(rs:kvs=[])
   refine e22 (aAm (aB hk) rk) fun c ks e_2 ik=>?_; subst e_2
   exact⟨fun z=>wpAny_in_heap (knd:=tupleKind (SK B.D)) (k:=ks) hu ik (dR t.1) (qP t.2) (z _ _ e2),fun z=>wpAny_notIn_heap (knd:=tupleKind (SK B.D)) (k:=ks) hu ik (dR t.1) (qP t.2) (z _ _ e2)⟩
  | cons _ _=>exact absurd (aA hk) Bool.false_ne_true
theorem aOk{a b:V}{x y:PV}{K:Bool→Prop}(sm:Sm B.D N)(e:oK (inE N.σ a b) K)(ra:Val B N a x)(rb:Val B N b y)(hu:G.A.units+30<cLine):aQw B G N E K Q .In .NotIn x y:=by
 delta inE at e
 cases hl:cH N.σ b with
 | some l =>
  rw[hl]at e
  exact tT (K:=fun l=>oK (zP a l) K) sm (by refine rwS hl ?_; exact e) rb fun l c vs e h t rs=>h▸aRr e ra rs hu t
 | none =>
  rw[hl]at e
  exact fB sm (aR e) rb fun l c vs e h t rs=>h▸aKm e ra t rs (aEf hu (by decide))
theorem bD{v:V}{x:PV}{K:Int→Prop}(e:oK (cY v) K)(r:Val B N v x):∃i t,x=.int i t∧v=.int i∧K i:=by
 cases v with
 | int i=>exact r.elim fun t e1=>⟨i,t,e1,rfl,e⟩
 | _=>exact False.elim e
theorem oH{a b:V}{x y:PV}{f:Int→Int→Bool}{K:Bool→Prop}(e:oK (aEh a b f) K)(ra:Val B N a x)(rb:Val B N b y):∃i t j t',x=.int i t∧y=.int j t'∧K (f i j) :=
 (bD (aR e) ra).elim fun i q=>q.elim fun t q=>(bD (bO q.2.2) rb).elim fun j w=>w.elim fun t' w=>⟨i,t,j,t',q.1,w.1,w.2.2⟩
theorem aGy{o:Cop}{a b:V}{x y:PV}{K:Bool→Prop}(sm:Sm B.D N)(e:oK (wE N.σ o a b) K)(ra:Val B N a x)(rb:Val B N b y)(hu:G.A.units+30<cLine)
  (z:∀r t,K r→Q (.bool r) (N.tk t).s):Wp B G N (compareOp (nD o) x y) Q E:=by
 cases o with
 | eq=>exact(aPh sm e ra rb (aEf hu (by decide))).1 fun r h=>z r N.s.toks h
 | ne=>exact(aPh sm (bO e) ra rb (aEf hu (by decide))).2 fun r h=>z (!r) N.s.toks h
 | lt=>obtain⟨i,t,j,t',rfl,rfl,e⟩:=oH e ra rb; exact lt_int (z _ N.s.toks e)
 | gt=>obtain⟨i,t,j,t',rfl,rfl,e⟩:=oH e ra rb; exact gt_int (z _ N.s.toks e)
 | ge=>obtain⟨i,t,j,t',rfl,rfl,e⟩:=oH e ra rb; exact ge_int (z _ N.s.toks e)
 | in_=>exact(aOk sm e ra rb hu).1 z
 | notIn=>exact(aOk sm (bO e) ra rb hu).2 fun r t h=>z (!r) t h
 | le=>obtain⟨i,t,j,t',rfl,rfl,e⟩:=oH e ra rb; exact le_int (z _ N.s.toks e)
theorem Room.un{n u:Nat}{A:Around}(r:Room n u A){k:Nat}(h:k≤u):A.units+k<cLine:=Nat.lt_of_le_of_lt (Nat.add_le_add (Nat.le_add_right _ _) h) r.units
theorem two{x y:X}{l r:bA→Sem PV}(h1:TE B u c x l)(h2:TE B u c y r)(H:Go B u c G N){K:V→V→St→Prop}(q:kX B G N x fun a σ=>kE B.P B.T y G.ρ σ fun b σ=>K a b σ){Q:PV→PV→Shared→Prop}
  (z:∀a b Y v w,K a b Y.σ→Aft B.D N noA Y→Val B Y a v→Val B Y b w→Q v w Y.s):Wp B G N (l G.env) (fun v s=>wpAny (model B.D.prog B.D.w) G.A (r G.env) (Q v) E s) E :=
 h1 G N _ E _ H q fun a Y v k1 a1 r1=>h2 G Y _ E _ (H.to a1) k1 fun b Z w k2 a2 r2=>z a b Z v w k2 (a1.trans a2) (Val.on a2 r1) r2
theorem aSi{o:Cop}{x y:X}{l r:PE}{p:Pos}(hu:30≤u)(hm:behindInMarks (nD o) r=false)(h1:TE B u c x (fun env=>eval l env))(h2:TE B u c y (fun env=>eval r env)) :
  TE B u c (.cmp o x y) (fun env=>eval (.Compare l [nD o] [r] p) env):=fun G N Q E K H q z =>
 wpAny_Compare1 (two h1 h2 H q fun a b Y v w k1 a1 r1 r2=>aGy a1.sm k1 r1 r2 (H.rm.un hu) fun r t k2=>z (.bool r) _ _ k2 (a1.trans (bY a1.sm t)) rfl) hm
theorem aQe{o:Cop}{x y:X}{l r:PE}{p:Pos}(hu:30≤u)(hm:behindInMarks (nD o) r=false)(h1:TE B u c x (fun env=>eval l env))(h2:TE B u c y (fun env=>eval r env)) :
  TB B u c (.cmp o x y) (fun env=>isTrue (.Compare l [nD o] [r] p) env (eval (.Compare l [nD o] [r] p) env)):=fun G N Q E K H q z =>
 wpAny_isTrue_Compare1 (two h1 h2 H q fun a b Y v w k1 a1 r1 r2=>aGy a1.sm k1 r1 r2 (H.rm.un hu) fun r t k2=>wpAny_truthy_bool (z r _ k2 (a1.trans (bY a1.sm t)))) hm
end
theorem vW{α:Type}{p:Prop}[Decidable p]{o o':Option α}{K:α→Prop}{Z:Prop}(h:oK (if p then o else o') K)(h1:p→oK o K→Z)(h2:¬ p→oK o' K→Z):Z:=by
 by_cases hp:p
 ·rw[if_pos hp]at h; exact h1 hp h
 ·rw[if_neg hp]at h; exact h2 hp h
structure Idx(n:Nat)(i:Int)(j:Nat):Prop where
 lo:-1000000≤i
 hi:i≤1000000
 sq:seqIndex? i n=some j
 at_:(0≤i∧j=i.toNat)∨(i<0∧0≤i+(n:Int)∧j=(i+(n:Int)).toNat)
theorem aIr{n:Nat}{i:Int}{K:Nat→Prop}(e:oK (idx n i) K):∃j,K j∧Idx n i j:=by
 refine vW e (fun h e=>?_) fun h e=>?_ <;> refine e02 (bI e) fun h2 e=>?_
 ·refine⟨_,e,Int.le_trans (by decide) h,h2.2,?_,.inl ⟨h,rfl⟩⟩
  delta seqIndex?
  refine rwS (if_neg (Int.not_lt.mpr h)) ?_
  exact if_pos (by simp; (first | lia | omega))
 ·have h:=Int.not_le.mp h
  rw[Int.add_comm]at h2
  refine⟨_,e,h2.2,Int.le_trans (Int.le_of_lt h) (by decide),?_,.inr ⟨h,h2.1,by rw[Int.add_comm]⟩⟩
  delta seqIndex?
  rw[if_pos h,Int.add_comm (n:Int)]
  exact if_pos (by simp; (first | lia | omega))
section
variable{B:Bd}{u:Nat}{c:Ck}{G:Ev}{N Y Z:Nx}{Q E:PV→Shared→Prop}
theorem aUj{d:List V}{vs:Array PV}(r:Vals B N d vs.toList){i:Nat}{K:V→Prop}(e:oK d[i]? K):∃x v,K x∧vs[i]?=some v∧Val B N x v :=
 iG e fun x hx k=>(eF r hx).elim fun v q=>⟨x,v,k,Array.getElem?_toList.symm.trans q.1,q.2⟩
theorem aLb{value slice:PE}{o i:V}{x y:PV}{K:V→Prop}(sm:Sm B.D N)(e:oK (gJ N.σ o i) K)(ro:Val B N o x)(ri:Val B N i y)(hs:subscripted slice false x y=operate [x,y] (getItem x y))
  (z:∀d t v,K d→Val B N d v→Q v (N.tk t).s):Wp B G N (subscriptTail value slice x y) Q E:=by
 cases i with
 | int k =>
  refine e1 ri fun t e_1=>?_; subst e_1
  refine tT sm (aR e) ro fun l a vs e hx il rs=>?_
  subst hx
  refine e12 (aIr (aR e)) fun j e I=>?_
  refine e23 (aUj rs e) fun d v e hv rv=>?_
  have fin:=z d N.s.toks v e rv
  have ln:l.length=vs.size:=(aV rs).symm.trans Array.length_toList
  refine il.elim (fun il=>tail_any il.typeIs slot_list_getitem.lookup (I.at_.elim (fun c=>?_) fun c=>?_) hs) fun it=>tail_any it.typeIs slot_tuple_getitem.lookup (getItem_tuple it (Int.lt_of_lt_of_le (by decide) I.lo |> Int.le_of_lt) (Int.lt_of_le_of_lt I.hi (by decide)) (ln▸I.sq) hv fin) hs
  ·exact wpAny_getItem_list il c.1 (Int.lt_of_le_of_lt I.hi (by decide)) (c.2▸hv) fin
  ·exact wpAny_getItem_list_neg il c.1 (by refine rwT ln ?_; have:=c.2.1; (first | lia | omega)) (Int.lt_of_lt_of_le (by decide) I.lo |> Int.le_of_lt) (ln▸c.2.2▸hv) fin
 | str k =>
  refine e23 ri fun n tk e_2 hz e_4=>?_; subst e_2; subst e_4
  refine fB sm (aR e) ro fun l a kvs e hx t rs=>?_
  subst hx
  exact oI hz rs (fun h1 _=>by rw[h1]at e; exact False.elim e) fun d v h1 h2 rv=>by
   rw[h1]at e
   exact tail_any t.2.typeIs slot_dict_getitem.lookup (wpAny_getItem_of (strKind_is _ _ _ _) t.2.mapOf h2 (z d _ v e rv)) hs
 | _=>exact False.elim e
noncomputable def iX(e:PE):Bool:=!(e.ctorIdx==26)
theorem dK{slice:PE}{o i:PV}(h:iX slice=true):subscripted slice false o i=operate [o,i] (getItem o i):=by
 cases slice <;> first | rfl | exact absurd h Bool.false_ne_true
theorem aKu{x y:X}{e f:PE}{p:Pos}(hs:iX f=true)(h1:TE B u c x (fun env=>eval e env))(h2:TE B u c y (fun env=>eval f env)) :
  TE B u c (.item x y) (fun env=>eval (.Subscript e f p) env):=fun G N Q E K H q z =>
 Subscript_ (two h1 h2 H q fun a b Y v w k1 a1 r1 r2=>aLb a1.sm k1 r1 r2 (dK hs) fun d t v k2 rv=>z d _ v k2 (a1.trans (bY a1.sm t)) (Val.on (bY a1.sm t) rv))
theorem aLd{x:Str}{cs:List V}{y:X}{f:PE}{k:Nat}{p0 p:Pos}(hx:strOk x=true)(hc:cs=x.cps.toList.map fun c=>V.str (fU [c]))(hs:iX f=true)(h:TE B u c y (fun env=>eval f env)) :
  TE B u c (.sidx cs y) (fun env=>eval (.Subscript (.Constant (.str x) k p0) f p) env):=fun G N Q E K H q z =>
 Subscript_ (wpAny_Constant_str (h G (N.tk (N.s.toks+1)) _ E _ (H.to (H.toks (N.s.toks+1))) q fun d1 Y v k1 a r=>by
  refine nnG fun nG=>?_; refine e23 (bD (aR k1) r) fun i t e_2 e_3 k1=>?_; subst e_2; subst e_3
  refine e12 (aIr (aR k1)) fun j k1 I=>?_
  subst hc
  refine nG ?_; have sq:=I.sq
  rw[List.length_map]at sq
  rw[List.getElem?_map]at k1
  refine iG (bO k1) fun cc ec k1=>?_
  have hlen:x.length=x.cps.toList.length:=(Array.length_toList).symm
  refine tail_any (typeIs_str _ _ _) F.slot_str_getitem.lookup (PySem.P.getItem_str (have:=I.hi; by simp; have:=I.lo; (first | lia | omega)) (c:=cc) ?_ ?_) (dK hs)
  ·refine rwS hlen (rwS sq ?_); simpa using ec
  ·exact z _ (Y.tk _) _ k1 (((H.toks (N.s.toks+1)).trans a).trans (bY a.sm _)) ⟨⟨#[cc]⟩,_,rfl,Bool.and_eq_true_iff.mpr ⟨List.all_eq_true.mp hx cc (List.mem_of_getElem? ec),rfl⟩,rfl⟩))
end
theorem kA(vs:Array PV)(lo hi:Option Int):(slicePick vs lo hi none).toList=cut vs.toList lo hi:=by
 rw[slicePick_plain]
 delta cut
 refine rwS List.drop_take (rwS Array.length_toList ?_)
 rfl
theorem oC{D:Wd}{N:Nx}{d:List V}{v:List PV}(lo hi:Option Int)(r:RVs D N d v):RVs D N (cut d lo hi) (cut v lo hi):=by
 delta cut
 refine rwT (aV r) ?_
 exact aFr _ (vH _ r)
section
variable{prog:Program}{w:World}{A:Around}{E:PV→Shared→Prop}{s:Shared}
theorem lT{v:PV}{k:Option Int}{Q:Option Int→Shared→Prop}(hv:IsPart v k)(h:Q k s):wpAny (model prog w) A (Builtin.Slice.slicePartIndex v) Q E s:=by
 cases hv with
 | none=>exact slicePart_none h
 | int i t=>exact slicePart_int h
theorem zJ(v:Int)(n:Nat):(if v<0 then max (v+n) 0 else min v n)=((iQ n v:Nat):Int):=by
 delta iQ
 refine rwS (Int.toNat_of_nonneg (Int.le_max_left _ _)) ?_
 by_cases h:v<0
 ·rw[if_pos h,if_pos h,Int.min_eq_left (Int.add_le_of_le_sub_right (Int.sub_self _▸Int.le_of_lt h)),Int.max_comm]
 ·exact rwS (if_neg h) (rwS (if_neg h) (rwS (Int.max_eq_right (Int.le_min.mpr ⟨Int.not_lt.mp h,Int.natCast_nonneg _⟩)) rfl))
theorem tC(lo hi:Option Int)(n:Nat):Builtin.Slice.sliceAdjust lo hi 1 (n:Int)=(((lo.elim 0 (iQ n):Nat):Int),((hi.elim n (iQ n):Nat):Int)):=by
 delta Builtin.Slice.sliceAdjust
 have h1:¬ ((1:Int)<0):=by decide
 simp only[h1,if_false]
 cases lo <;> cases hi <;> simp only[Option.elim,zJ] <;> rfl
theorem uJ(a b:Nat):Builtin.Slice.slicePlaces (a:Int) (b:Int) 1=b - a:=by
 delta Builtin.Slice.slicePlaces
 rw[if_pos (by decide),Int.ediv_one]
 by_cases h:(a:Int)<b
 ·rw[if_pos h,Int.sub_add_cancel,Int.toNat_sub]
 ·refine rwS (if_neg h) (rwS (Nat.sub_eq_zero_of_le (Int.ofNat_le.mp (Int.not_lt.mp h))) ?_); rfl
theorem kI{sl:Addr}{vl vu:PV}{lo hi:Option Int}{n:Nat}{Q:Int × Int × Nat→Shared→Prop}(hs:s.heap.IsSliceOf sl vl vu .none)(pl:IsPart vl lo)(pu:IsPart vu hi)
  (h:Q (((lo.elim 0 (iQ n):Nat):Int),1,hi.elim n (iQ n) - lo.elim 0 (iQ n)) s) :
  wpAny (model prog w) A (Builtin.Slice.sliceApplied (.ref sl) (pure (n:Int))) Q E s:=by
 refine e13 hs fun os hos hcs hds=>?_
 delta Builtin.Slice.sliceApplied Builtin.Slice.sliceFields
 refine wpAny_bind (wpAny_bind (wpAny_field hos hds (x:=vl) rfl (wpAny_bind (wpAny_field hos hds (x:=vu) rfl (wpAny_bind (wpAny_field hos hds (x:=.none) rfl (wpAny_pure ?_)))))))
 refine wpAny_bind (slicePart_none ?_)
 show wpAny _ _ (if ((1:Int)==0)=true then _ else _) _ _ s
 refine rwS (if_neg (by decide)) ?_
 refine wpAny_bind (lT pl (wpAny_bind (lT pu (wpAny_bind (wpAny_pure ?_)))))
 show wpAny _ _ (match Builtin.Slice.sliceAdjust lo hi 1 (n:Int) with | (lo,hi)=>pure (lo,(1:Int),Builtin.Slice.slicePlaces lo hi 1)) _ _ s
 rw[tC]
 refine wpAny_pure ?_
 rw[uJ]
 exact h
theorem yU(xs:Array PV)(a k:Nat):((List.range k).filterMap fun (j:Nat)=>xs[((a:Int)+(j:Int)*1).toNat]?)=(xs.toList.drop a).take k:=by
 have e:(fun (j:Nat)=>xs[((a:Int)+(j:Int)*1).toNat]?)=fun j=>xs[a+j]?:=funext fun j=>by rw[Int.mul_one]; rfl
 refine rwS e (rwT (pick_run xs a k) (rwS List.filterMap_map ?_))
 rfl
theorem aKi{α:Type}(l:List α)(lo hi:Option Int):(cut l lo hi).length≤l.length:=by
 delta cut
 refine rwS List.length_drop (rwS List.length_take ?_)
 exact Nat.le_trans (Nat.sub_le _ _) (Nat.min_le_right _ _)
theorem bR{n:Nat}(h:n≤1000000):n≤sizeLine:=Nat.le_trans h (by refine rwS sizeLine_eq ?_; decide)
theorem kU{t sl:Addr}{items:Array PV}{vl vu:PV}{lo hi:Option Int}{Q:PV→Shared→Prop}(ht:IsTup s.heap t items)(hs:s.heap.IsSliceOf sl vl vu .none)(pl:IsPart vl lo)(pu:IsPart vu hi)
  (h1:cut items.toList lo hi=items.toList→Q (.ref t) s)
  (h:Q (.ref s.heap.objs.size) { s with heap:=s.heap.push { cls:=.type "tuple",data:=.seq (cut items.toList lo hi).toArray } })
  (hsz:items.size≤1000000):wpAny (model prog w) A (getItem (.ref t) (.ref sl)) Q E s:=by
 have ec:(items.toList.drop (lo.elim 0 (iQ items.size))).take (hi.elim items.size (iQ items.size) - lo.elim 0 (iQ items.size))=cut items.toList lo hi:=by
  delta cut; exact rwS List.drop_take (rwS Array.length_toList rfl)
 have hdrop:sizeOk (.seq (cut items.toList lo hi).toArray):=bR (Nat.le_trans (Nat.le_of_eq List.size_toArray) (Nat.le_trans (aKi items.toList lo hi) (Nat.le_trans (Nat.le_of_eq Array.length_toList) hsz)))
 refine e13 (id hs) fun os hos hcs hds=>?_
 delta getItem
 try with_reducible refine wpAny_holding ?_
 first | refine wpAny_bind (wpAny_pure ?_) | skip
 refine wpAny_bind (wpAny_sequenceKey ht.typeIs (by decide) ?_)
 refine wpAny_bind (wpAny_callSpecial?_slot (name:=Str.ofString "__getitem__") ht.typeIs slot_tuple_getitem
  (wpAny_call_entry slot_tuple_getitem ht.typeIs entry_tuple_getitem ?_ (args_tuple_getitem _ _)))
 show wpAny _ _ (Builtin.Tuple.tupleItemsOf (.ref t) >>= _) _ _ s
 refine wpAny_bind (tupleItemsOf_ ht ?_)
 refine wpAny_bind (wpAny_typeOf ⟨os,hos,hcs⟩ ?_)
 refine rwS (if_pos (by decide)) ?_
 refine wpAny_bind (kI hs pl pu ?_)
 dsimp only
 split
 ·rename_i hw
  simp only[Bool.and_eq_true,beq_iff_eq]at hw
  have q:=h1 (by
   exact rwT ec (rwS hw.2 (rwS (show lo.elim 0 (iQ items.size)=0 from Int.ofNat_inj.mp hw.1.1) (rwS List.drop_zero (rwS (List.take_of_length_le (Nat.le_of_eq Array.length_toList)) rfl)))))
  delta Builtin.Tuple.tupleIsExact
  refine wpAny_bind (wpAny_bind (wpAny_typeOf ht.typeIs (wpAny_pure ?_)))
  refine rwS (if_pos (by decide)) ?_
  exact wpAny_bind (wpAny_rule (wpAny_bind (wpAny_pure (wpAny_pure ⟨_,rfl,wpAny_pure q⟩))))
 ·rw[yU,ec]
  first
   | exact wpAny_bind (m:=Builtin.Tuple.tupleExact _) (wpAny_newObj_type (wpAny_pure ⟨_,rfl,wpAny_pure h⟩) hdrop)
   | exact wpAny_bind (m:=Builtin.Tuple.tupleExact _) (wpAny_newObj_type (wpAny_bind (wpAny_pure (wpAny_pure ⟨_,rfl,wpAny_pure h⟩))) hdrop)
   | exact wpAny_bind (wpAny_bind (m:=Builtin.Tuple.tupleExact _) (wpAny_newObj_type (wpAny_pure (wpAny_pure ⟨_,rfl,wpAny_pure h⟩)) hdrop))
   | exact wpAny_bind (wpAny_bind (m:=Builtin.Tuple.tupleExact _) (wpAny_newObj_type (wpAny_pure ⟨_,rfl,wpAny_pure h⟩) hdrop))
end
section
variable{B:Bd}{u:Nat}{c:Ck}{G:Ev}{N Y Z:Nx}{Q E:PV→Shared→Prop}
theorem More.seq{s:Shared}(m:More N s)(sm:Sm B.D N){b:Addr}{o:Obj}(h1:¬ N.has b)(e:s.heap.get? b=some o):Aft B.D N noA ((N.at s).wi b):=(m.aft sm).wi (m.pv sm h1 e) h1
noncomputable abbrev lsO(vs:Array PV):Obj:={ cls:=.type "list",data:=.seq vs }
noncomputable abbrev tpO(vs:Array PV):Obj:={ cls:=.type "tuple",data:=.seq vs }
theorem lM{s:Shared}{l:List V}{vs:Array PV}(m:More N s)(sm:Sm B.D N)(rs:Vals B N l vs.toList):Aft B.D N noA ((N.at { s with heap:=s.heap.push (lsO vs) }).wi s.heap.objs.size)∧Val B ((N.at { s with heap:=s.heap.push (lsO vs) }).wi s.heap.objs.size) (.list l) (.ref s.heap.objs.size) :=
 ⟨((m.push (lsO vs)).seq sm m.no (bB rfl)),_,vs,rfl,.inr rfl,⟨0,bB rfl⟩,Vals.on ((m.push (lsO vs)).seq sm m.no (bB rfl)) rs⟩
theorem tI{s:Shared}{l:List V}{vs:Array PV}(m:More N s)(sm:Sm B.D N)(rs:Vals B N l vs.toList):Aft B.D N noA ((N.at { s with heap:=s.heap.push (tpO vs) }).wi s.heap.objs.size)∧Val B ((N.at { s with heap:=s.heap.push (tpO vs) }).wi s.heap.objs.size) (.tup l) (.ref s.heap.objs.size) :=
 ⟨((m.push (tpO vs)).seq sm m.no (bB rfl)),_,vs,rfl,.inr rfl,⟨0,bB rfl⟩,Vals.on ((m.push (tpO vs)).seq sm m.no (bB rfl)) rs⟩
noncomputable def xG(vl vu:PV):Obj:={ cls:=.type "slice",data:=.fields #[vl,vu,.none] }
theorem aJm{l:List V}{vs:List PV}{lo hi:Option Int}(rs:Vals B N l vs)(e:cut vs lo hi=vs):cut l lo hi=l :=
 ((List.drop_sublist _ _).trans (List.take_sublist _ _):(cut l lo hi).Sublist l).eq_of_length ((aV (oC lo hi rs)).symm.trans ((congrArg List.length e).trans (aV rs)))
theorem aBj{l:List V}{vs:Array PV}{n:Nat}(rs:Vals B N l vs.toList)(h:l.length≤n):vs.size≤n:=Nat.le_trans (Nat.le_of_eq (Array.length_toList.symm.trans (aV rs))) h
theorem aEa{value:PE}{lower upper:Option PE}{p:Pos}{d1:V}{x vl vu:PV}{lo hi:Option Int}{K:V→Prop}(sm:Sm B.D N)(r:Val B N d1 x)(pl:IsPart vl lo)(pu:IsPart vu hi)(e:oK (aWn d1 lo hi) K)
  (z:∀d Y v,K d→Aft B.D N noA Y→Y.σ=N.σ→Val B Y d v→Q v Y.s) :
  wpAny (model B.D.prog B.D.w) G.A (subscriptTail value (.Slice lower upper none p) x (.ref N.s.heap.objs.size)) Q E { N.s with heap:=N.s.heap.push (xG vl vu) }:=by
 have m1:=(More.refl N).push (xG vl vu)
 cases d1 with
 | list l =>
  refine nnG fun nG=>?_; refine e02 (bI e) fun hl e=>?_
  refine e24 r fun a vs e_2 _ il rs=>?_; subst e_2
  refine nG ?_; have il':(N.s.heap.push (xG vl vu)).IsList a vs:=il.list.at fun o e=>m1.k _ _ e
  exact tail_any il'.typeIs slot_list_getitem.lookup (wpAny_getItem_list_slice il' (Heap.IsSliceOf.new N.s.heap vl vu .none) pl pu .none (by simp) (z _ _ _ e (lM m1 sm (vs:=slicePick vs lo hi none) (l:=cut l lo hi) (by rw[kA]; exact oC lo hi rs)).1 rfl (lM m1 sm (vs:=slicePick vs lo hi none) (l:=cut l lo hi) (by rw[kA]; exact oC lo hi rs)).2) (bR (aBj rs hl))) (ops:=[.ref N.s.heap.objs.size,.ref a]) rfl
 | tup l =>
  refine e02 (bI e) fun hl e=>?_
  have r0:=r
  refine e24 r fun a vs e_2 wa it rs=>?_; subst e_2
  have it':(N.s.heap.push (xG vl vu)).IsTuple a vs:=it.tup.at fun o e=>m1.k _ _ e
  have w:=tI m1 sm (vs:=(cut vs.toList lo hi).toArray) (oC lo hi rs)
  exact tail_any it'.typeIs slot_tuple_getitem.lookup (kU it' (Heap.IsSliceOf.new N.s.heap vl vu .none) pl pu (fun e1=>z _ (N.at _) _ (aJm rs e1▸e) (m1.aft sm) rfl (Val.on (m1.aft sm) r0)) (z _ _ _ e w.1 rfl w.2) (aBj rs hl)) (ops:=[.ref N.s.heap.objs.size,.ref a]) rfl
 | str z0 =>
  obtain⟨⟨e0,rfl,rfl⟩,e⟩:=bI e
  refine e23 r fun n tk e_2 hz e_4=>?_; subst e_2; subst e_4
  cases cN hz (show strOk "!="=true by decide +kernel) e0
  cases pu
  cases pl with
  | int i t =>
   refine tail_any (typeIs_str _ _ _) F.slot_str_getitem.lookup (wpAny_getItem_str_slice (l:=some (1,t)) (u:=none) (st:=none) ⟨_,Heap.get?_push_size _ rfl,rfl,rfl⟩ rfl
    (post_val_or_str ⟨Nat.le_trans (Nat.le_of_eq (congrArg PySem.Str.length (show _=("=":Str) by kernel_rfl!))) (by decide +kernel),fun t' k=>?_⟩)) (ops:=[.ref N.s.heap.objs.size,.str "!=" tk]) rfl
   exact z _ (N.at { N.s with heap:=N.s.heap.push (xG (.int 1 t) .none),toks:=k }) _ e ((m1.toks k).aft sm) rfl ⟨_,t',rfl,(congrArg strOk (show _=("=":Str) by kernel_rfl!)).trans (by decide +kernel),(congrArg aL (show _=("=":Str) by kernel_rfl!)).trans (by decide +kernel)⟩
 | _=>exact False.elim e
noncomputable def TO(B:Bd)(u:Nat)(c:Ck)(x:X)(o:Option PE):Prop:=match o with
 | some f=>TE B u c x (fun env=>eval f env)
 | none=>x=.cst .none
theorem aOt{x:X}{o:Option PE}(h:TO B u c x o)(H:Go B u c G N){K:V→St→Prop}{Q:PV→Shared→Prop}(q:kX B G N x K)(z:∀d Y v,K d Y.σ→Aft B.D N noA Y→Val B Y d v→Q v Y.s):Wp B G N (evalPart o G.env) Q E:=by
 cases o with
 | some f=>exact wpAny_evalPart_some (h G N _ E _ H q z)
 | none=>obtain rfl:=(h:x=_); exact wpAny_evalPart_none (z .none N _ q H.refl rfl)
theorem aBb{v:V}{x:PV}{K:Option Int→Prop}(e:oK (aUe v) K)(r:Val B N v x):∃i,IsPart x i∧K i:=by
 cases v with
 | none=>obtain rfl:=(r:x=.none); exact⟨none,.none,e⟩
 | int i=>obtain⟨t,rfl⟩:=r; exact⟨some i,.int i t,e⟩
 | _=>exact False.elim e
theorem aYe{x y w:X}{f:PE}{lo hi:Option PE}{p1 p:Pos}(h1:TE B u c x (fun env=>eval f env))(h2:TO B u c y lo)(h3:TO B u c w hi):TE B u c (.sl x y w) (fun env=>eval (.Subscript f (.Slice lo hi none p1) p) env):=fun G N Q E K H q z =>
 Subscript_ (h1 G N _ E _ H q fun d1 Y1 v1 k1 a1 r1=>wpAny_Slice (aOt h2 (H.to a1) k1 fun d2 Y2 v2 k2 a2 r2=>aOt h3 (H.to (a1.trans a2)) k2 fun d3 Y3 v3 k3 a3 r3=>wpAny_evalPart_none
  (let ⟨i,p1,k3⟩:=aBb (aR k3) (Val.on a3 r2)
   let ⟨j,p2,k3⟩:=aBb (aR k3) r3
   aEa (G:=G) a3.sm (Val.on (a2.trans a3) r1) p1 p2 k3 fun d Y v k4 a es r=>z d Y v (es▸k4) ((a1.trans (a2.trans a3)).trans a) r)))
theorem aOa{a b:Int}(h1:0≤a)(h2:0≤b):Builtin.bitAnd a b=((a.toNat &&& b.toNat:Nat):Int):=by
 delta Builtin.bitAnd
 exact rwS (decide_eq_true h1) (rwS (decide_eq_true h2) rfl)
noncomputable def aEd:Bop→Operator
 | .add=>.Add | .sub=>.Sub | .mul=>.Mult | .mod=>.Mod | .band=>.BitAnd | .shr=>.RShift
theorem aIv{v:V}{K:List V→Prop}(e:oK (aPk v) K):∃l,v=.tup l∧K l:=by
 cases v <;> first | exact⟨_,rfl,e⟩ | exact False.elim e
theorem pR{a b:List V}{vs us:Array PV}(h:(a++b).length≤aU)(r1:Vals B N a vs.toList)(r2:Vals B N b us.toList):vs.size+us.size≤sizeLine:=by
 refine rwT Array.length_toList (rwT (Array.length_toList (xs:=us)) (rwS (aV r1) (rwS (aV r2) (rwT List.length_append ?_))))
 exact bR h
theorem aJd{l:List V}{vs:Array PV}(r:Vals B N l vs.toList)(h:vs.isEmpty=true):l=[]:=by
 obtain rfl:=Array.isEmpty_iff.mp h
 cases l with
 | nil=>rfl
 | cons=>refine e22 r fun v t e _=>?_; cases e
theorem yM{l k:List V}{x y:PV}(sm:Sm B.D N)(hz:(l++k).length≤aU)(ra:Val B N (.tup l) x)(rb:Val B N (.tup k) y)(z:∀Y v,Aft B.D N noA Y→Y.σ=N.σ→Val B Y (.tup (l++k)) v→Q v Y.s):Wp B G N (binaryOp .Add x y) Q E:=by
 have ra':=ra
 have rb':=rb
 refine nnG fun nG=>?_; obtain⟨a,vs,rfl,wa,⟨i,ia⟩,rs⟩:=ra
 obtain⟨b,us,rfl,wb,⟨j,ib⟩,qs⟩:=rb
 refine nG ?_; have ta:N.s.TypeIs (.ref a) "tuple":=⟨_,ia,rfl⟩
 have tb:N.s.TypeIs (.ref b) "tuple":=⟨_,ib,rfl⟩
 by_cases h1:vs.isEmpty=true
 ·refine nnG fun nG=>?_; cases aJd rs h1
  refine nG ?_; exact concat_meets ta tb noFill_tuple_add seq_tuple_add F.slot_tuple_add F.entry_tuple_add (F.args_tuple_add_2 _ _) (AutoSeq1.tuple___add___tuple_tuple_0 a vs i b us j h1) ⟨ia,ib,z N _ (.refl sm) rfl rb'⟩
 ·by_cases h2:us.isEmpty=true
  ·cases aJd qs h2
   rw[List.append_nil]at z
   exact concat_meets ta tb noFill_tuple_add seq_tuple_add F.slot_tuple_add F.entry_tuple_add (F.args_tuple_add_2 _ _) (AutoSeq1.tuple___add___tuple_tuple_1 a vs i b us j h1 h2) ⟨ia,ib,z N _ (.refl sm) rfl ra'⟩
  ·have w:=tI (More.refl N) sm (vs:=vs++us) (l:=l++k) (by refine rwS Array.toList_append ?_; exact cK rs qs)
   exact concat_meets ta tb noFill_tuple_add seq_tuple_add F.slot_tuple_add F.entry_tuple_add (F.args_tuple_add_2 _ _) (AutoSeq1.tuple___add___tuple_tuple_2 a vs i b us j h1 h2 (pR hz rs qs)) ⟨ia,ib,z _ _ w.1 rfl w.2⟩
theorem qK{v:V}{x:PV}{K:List V→Prop}{Z:Prop}(sm:Sm B.D N)(e:oK (rU N.σ v) K)(r:Val B N v x)(z:∀l a,K l→x=.ref a→RC B.D N a (.list l)→Z):Z:=by
 cases v with
 | list k=>exact r.elim fun a q=>q.elim fun vs q=>z k a e q.1 ⟨vs,q.2.2⟩
 | loc k=>exact r.elim fun p q=>(iR (f:=fun o=>oK (rP o) K) sm q.2 e id).elim fun o h=>match o,h with
  | .list l,h=>z l p.1 h.1 q.1 h.2.1.2
  | .inst _ _,h=>h.1.elim
  | .dict _,h=>h.1.elim
  | .dead,h=>h.1.elim
 | _=>exact False.elim e
theorem vC{l k:List V}{a b:Addr}(sm:Sm B.D N)(hz:(l++k).length≤aU)(ra:RC B.D N a (.list l))(rb:RC B.D N b (.list k))(z:∀Y v,Aft B.D N noA Y→Y.σ=N.σ→Val B Y (.list (l++k)) v→Q v Y.s):Wp B G N (binaryOp .Add (.ref a) (.ref b)) Q E:=by
 refine nnG fun nG=>?_; obtain⟨vs,⟨i,ia⟩,rs⟩:=ra
 obtain⟨us,⟨j,ib⟩,qs⟩:=rb
 refine nG ?_; exact P.add_list ia ib (z _ _ (lM (More.refl N) sm (vs:=vs++us) (l:=l++k) (by refine rwS Array.toList_append ?_; exact cK rs qs)).1 rfl (lM (More.refl N) sm (vs:=vs++us) (l:=l++k) (by refine rwS Array.toList_append ?_; exact cK rs qs)).2) (pR hz rs qs)
theorem aTi{o:Bop}{a b:V}{x y:PV}{K:V→Prop}(sm:Sm B.D N)(e:oK (uM N.σ o a b) K)(ra:Val B N a x)(rb:Val B N b y)(z:∀d Y v,K d→Aft B.D N noA Y→Y.σ=N.σ→Val B Y d v→Q v Y.s):Wp B G N (binaryOp (aEd o) x y) Q E:=by
 have tk:=fun {i} (hk:K (.int i))=>z (.int i) (N.tk (N.s.toks+1)) (.int i N.s.toks) hk (bY sm _) rfl ⟨_,rfl⟩
 have lst:oK ((rU N.σ a).bind fun a=>(rU N.σ b).bind fun b=>(cR (a++b)).map V.list) K→Wp B G N (binaryOp .Add x y) Q E:=fun e =>
  qK sm (aR e) ra fun l a e e1 ra=>qK sm (aR e) rb fun k b e e2 rb=>have w:=bI (bO e)
   e1▸e2▸vC sm w.1 ra rb fun Y v=>z _ Y v w.2
 cases o with
 | add=>cases a with
  | int i =>
   refine nnG fun nG=>?_; refine e1 ra fun t e_1=>?_; subst e_1
   refine e23 (bD (bO e) rb) fun j t' e_2 e_3 e=>?_; subst e_2; subst e_3
   refine nG ?_; exact add_int (tk e)
  | tup l =>
   refine e12 (aIv (aR e)) fun k e_1 e=>?_; subst e_1
   refine e02 (bI (bO e)) fun hz e=>?_
   exact yM sm hz ra rb fun Y v=>z _ Y v e
  | list l=>exact lst e
  | loc l=>exact lst e
  | _=>exact False.elim e
 | sub =>
  refine e23 (bD (aR e) ra) fun i t e_2 e_3 e=>?_; subst e_2; subst e_3
  refine e23 (bD (bO e) rb) fun j t' e_2 e_3 e=>?_; subst e_2; subst e_3
  exact sub_int (tk e)
 | mul =>
  refine e23 (bD (aR e) ra) fun i t e_2 e_3 e=>?_; subst e_2; subst e_3
  refine e23 (bD (aR e) rb) fun j t' e_2 e_3 e=>?_; subst e_2; subst e_3
  refine e02 (bI e) fun hb e=>?_
  exact mul_int (tk e) (IntMulOk.of_left (intBits_le_64 (by (first | lia | omega)) (by (first | lia | omega))))
 | mod =>
  refine e23 (bD (aR e) ra) fun i t e_2 e_3 e=>?_; subst e_2; subst e_3
  refine e23 (bD (aR e) rb) fun j t' e_2 e_3 e=>?_; subst e_2; subst e_3
  refine e02 (bI e) fun hb e=>?_
  refine mod_int (Int.ne_of_gt hb) ?_
  refine rwS (Int.fmod_eq_emod_of_nonneg i (Int.le_of_lt hb)) ?_
  exact tk e
 | band =>
  refine e23 (bD (aR e) ra) fun i t e_2 e_3 e=>?_; subst e_2; subst e_3
  refine e23 (bD (aR e) rb) fun j t' e_2 e_3 e=>?_; subst e_2; subst e_3
  refine e02 (bI e) fun hb e=>?_
  exact and_int (aOa hb.1 hb.2▸tk e)
 | shr =>
  refine e23 (bD (aR e) ra) fun i t e_2 e_3 e=>?_; subst e_2; subst e_3
  refine e23 (bD (aR e) rb) fun j t' e_2 e_3 e=>?_; subst e_2; subst e_3
  refine e02 (bI e) fun hb e=>?_
  exact rshift_int hb (tk e)
theorem aTn{o:Bop}{x y:X}{l r:PE}{p:Pos}(h1:TE B u c x (fun env=>eval l env))(h2:TE B u c y (fun env=>eval r env)):TE B u c (.bin o x y) (fun env=>eval (.BinOp l (aEd o) r p) env):=fun G N Q E K H q z =>
 wpAny_BinOp (two h1 h2 H q fun a b Y v w k1 a1 r1 r2=>aTi (G:=G) a1.sm k1 r1 r2 fun d Z v k2 a es r=>z d Z v (es▸k2) (a1.trans a) r)
end
structure Gt where
 fns:List (Str × Nat)
 clss:List (Str × Nat)
 consts:List (Str × Nat)
 flds:List Str
 mths:List Str
structure ClsOk(K:Frag)(C:Addr):Prop where
 ga:findIn K (.ref C) "__getattribute__"=some (some (.builtin "object.__getattribute__"))
 gA:findIn K (.ref C) "__getattr__"=some none
 sa:findIn K (.ref C) "__setattr__"=some (some (.builtin "object.__setattr__"))
 po:plainOver K C=true
 hd:(clsIn K C).any (·.hasDict)=true
 ci:(clsIn K C).isSome=true
 mkc:makesIn K C=true
 kp:keepIn K (.ref C)=true
noncomputable def yI(K:Frag):Option (Option Value)→Bool
 | some none=>true
 | some (some a)=>takesIn K a==some false&&(specialIn K a "__get__").isSome
 | none=>false
noncomputable def aAi(K:Frag)(C:Addr)(x:Str):Bool:=yI K (findIn K (.ref C) x)
theorem zW{K:Frag}{C:Addr}{x:Str}{od:Option Obj}{cd:ClassData}{v:Value}(h:aAi K C x=true)(hc:clsIn K C=some cd)(ho:PySem.W.ownOf cd od x=some (some v)):findObj K C od x=some (.value v):=by
 show (clsIn K C).bind _=_
 refine rwS hc ?_
 show (findIn K (.ref C) x).bind _=_
 have h:yI K (findIn K (.ref C) x)=true:=h
 cases e:findIn K (.ref C) x with
 | none=>rw[e]at h; exact nob h
 | some o=>cases o with
  | none =>
   show (PySem.W.ownOf cd od x).bind _=_
   refine rwS ho ?_; rfl
  | some a =>
   rw[e]at h
   have h:(takesIn K a==some false&&(specialIn K a "__get__").isSome)=true:=h
   refine e1 (Option.isSome_iff_exists.mp (Bool.and_eq_true_iff.mp h).2) fun gt hg=>?_
   show (specialIn K a "__get__").bind _=_
   refine rwS hg ?_
   cases gt with
   | none =>
    show (PySem.W.ownOf cd od x).bind _=_
    refine rwS ho ?_; rfl
   | some g =>
    show (takesIn K a).bind _=_
    refine rwS (beq_iff_eq.mp (Bool.and_eq_true_iff.mp h).1) ?_
    show (PySem.W.ownOf cd od x).bind _=_
    refine rwS ho ?_; rfl
structure Facts(B:Bd)(g:Gt):Prop where
 X:B.D.K.In B.D.base
 lim:B.D.base.NoLimit
 fn:∀x i,g.fns.lookup x=some i→nsIn B.D.K mainGlobals x=some (some (.ref (B.D.fa i)))
 fk:∀i,(B.P.fn i).isSome=true→keepIn B.D.K (.ref (B.D.fa i))=true
 cl:∀x i,g.clss.lookup x=some i→nsIn B.D.K mainGlobals x=some (some (.ref (B.D.ca i)))∧i<B.D.nc
 ck:∀i,i<B.D.nc→ClsOk B.D.K (B.D.ca i)
 fl:∀x,x∈g.flds→∀i,i<B.D.nc→aAi B.D.K (B.D.ca i) x=true
 mt:∀x,x∈g.mths→∀i f,B.P.meth i (aL x)=some f→i<B.D.nc∧findIn B.D.K (.ref (B.D.ca i)) x=some (some (.ref (B.D.fa f)))∧typeIn B.D.K (.ref (B.D.fa f))=some (.type "function")∧(B.P.fn f).isSome=true
 ini:∀i f,B.P.init i=some f→i<B.D.nc→findIn B.D.K (.ref (B.D.ca i)) "__init__"=some (some (.ref (B.D.fa f)))∧typeIn B.D.K (.ref (B.D.fa f))=some (.type "function")
 co:∀x k,g.consts.lookup x=some k→∀d,B.P.glob k=some d→∃v,nsIn B.D.K mainGlobals x=some (some v)∧∀N,Sm B.D N→Val B N d v
noncomputable def TOk(B:Bd):Prop :=
 ∀(A:Around) (N:Nx) (f:Nat) (ds:List V) (vs:List PV) (K:V→St→Prop),B.T.call f ds N.σ K→Room B.n 0 A→Sm B.D N→Vals B N ds vs→(B.P.fn f).isSome=true ∧
  ∀(R:Result→Shared→Prop),(∀d Y v,K d Y.σ→Aft B.D N noA Y→Val B Y d v→R (.ok (.ret v)) Y.s)→codeAny (model B.D.prog B.D.w) A (.call (.ref (B.D.fa f)) ⟨vs,[]⟩) R N.s
section
variable{B:Bd}{u:Nat}{c:Ck}{G:Ev}{N Y Z:Nx}{Q E:PV→Shared→Prop}{g:Gt}
theorem TOk.run(h:TOk B){f:Nat}{ds:List V}{vs:List PV}{K:V→St→Prop}(e:B.T.call f ds N.σ K)(rm:Room B.n 0 G.A)(sm:Sm B.D N)(rs:Vals B N ds vs)
  (z:∀d Y v,K d Y.σ→Aft B.D N noA Y→Val B Y d v→Q v Y.s):Wp B G N (call (.ref (B.D.fa f)) vs) Q E:=wpAny_call ((h G.A N f ds vs K e rm sm rs).2 _ z)
theorem Facts.x(F:Facts B g)(sm:Sm B.D N):B.D.K.In N.s.heap:=F.X.keeps sm.gi
theorem Room.zero{n u:Nat}{A:Around}(r:Room n u A):Room n 0 A:=⟨Nat.lt_of_le_of_lt (Nat.add_le_add_right (Nat.add_le_add_left (Nat.zero_le _) _) _) r.depth,Nat.lt_of_le_of_lt (Nat.add_le_add_left (Nat.zero_le _) _) r.units,r.hand⟩
theorem aCc{x:Str}(H:Go B u c G N)(hx:c.sc.names.lookup x=some .globalImplicit):loadName G.env x=loadGlobal G.env x:=by
 have hx:G.env.kindOf x=some .globalImplicit:=(H.eo.kd x).trans hx
 have hb:G.env.blockKind=.function:=by delta Env.blockKind; refine rwS H.eo.kind ?_; rfl
 delta loadName
 refine rwS hb (rwS hx (rwS H.eo.kind ?_)); rfl
theorem qE{x:Str}{v:PV}(H:Go B u c G N)(F:Facts B g)(hx:c.sc.names.lookup x=some .globalImplicit)(h:nsIn B.D.K mainGlobals x=some (some v))(q:Q v N.s):Wp B G N (loadName G.env x) Q E:=by
 refine rwS (aCc H hx) ?_
 delta loadGlobal
 refine rwS H.eo.gl ?_
 exact wpAny_bind ((looks_nsIn (F.x H.sm) h).here (wpAny_pure q))
theorem gP{x:Str}{v:PV}(H:Go B u c G N)(F:Facts B g)(hx:c.sc.names.lookup x=some .globalImplicit)(h:nsIn B.D.K mainGlobals x=some none)(h2:nsIn B.D.K builtinsNs x=some (some v))(q:Q v N.s):Wp B G N (loadName G.env x) Q E:=by
 refine rwS (aCc H hx) ?_
 delta loadGlobal
 refine rwS H.eo.gl (rwS H.eo.bi ?_)
 exact wpAny_bind ((looks_nsIn (F.x H.sm) h).here (wpAny_bind ((looks_nsIn (F.x H.sm) h2).here (wpAny_pure q))))
theorem bE{b:Bool}(h:(!b)=true):b=false:=by cases b <;> first | rfl | exact absurd h Bool.false_ne_true
theorem jN{env:bA}{pos:Pos}:∀(l:List PE),l.all (fun e=>!isStarred e)=true→(backTo pos (starEach l env)).any (·.1)=false
 | [],_=>rfl
 | e::r,h=>by
  refine rwS (aX (bE (Bool.and_eq_true_iff.mp h).1)) ?_
  exact jN r (Bool.and_eq_true_iff.mp h).2
theorem lE{Pp:Heap→Prop}{f:PV}{first:List PV}{es:List PE}{pos:Pos}(hk:∀h,Pp h→∃k,(k=Keeper.frame∨k=Keeper.machine∨k=Keeper.boundFrame)∧Looks (model B.D.prog B.D.w) h (keeperOf f) k)(hs:es.all (fun e=>!isStarred e)=true)
  (h:Wp B G N (spliced (backTo pos (starEach es G.env))) (fun vs s₁=>Pp s₁.heap∧wpAny (model B.D.prog B.D.w) G.A (call f (first++vs)) Q E s₁) E):Wp B G N (callWith pos f first (backTo pos (starEach es G.env)) []) Q E:=by
 have hp:=jN (env:=G.env) (pos:=pos) es hs
 cases es with
 | nil =>
  refine callWith_of rfl hk ?_
  show wpAny _ G.A (spliced [] >>= _) _ E N.s
  exact wpAny_bind (wpAny_mono h (fun vs s' h'=>wpAny_holding (wpAny_bind (wpAny_pure (wpAny_bind (wpAny_pure (wpAny_pure h')))))) fun _ _ x=>x)
 | cons e r =>
  rw[aX (bE (Bool.and_eq_true_iff.mp hs).1)]at h hp ⊢
  exact callWith_of (by refine rwS hp ?_; rfl) hk (Calls.evalArgs_plain h)
theorem hZ{f:PV}{first:List PV}{es:List PE}{pos:Pos}(hk:keepIn B.D.K f=true)(hs:es.all (fun e=>!isStarred e)=true)
  (h:Wp B G N (spliced (backTo pos (starEach es G.env))) (fun vs s₁=>B.D.K.In s₁.heap∧wpAny (model B.D.prog B.D.w) G.A (call f (first++vs)) Q E s₁) E):Wp B G N (callWith pos f first (backTo pos (starEach es G.env)) []) Q E :=
 lE (keeps_K hk) hs h
theorem aMz{f:Nat}{x:Str}{xs:List X}{es:List PE}{np pos:Pos}(F:Facts B g)(TO:TOk B)(h0:g.fns.lookup x=some f)(hf:(B.P.fn f).isSome=true)(h1:c.sc.names.lookup x=some .globalImplicit)(h2:(x==("__debug__":Str))=false)
  (hs:es.all (fun e=>!isStarred e)=true) (h3:TEs B u c xs (fun env=>spliced (backTo pos (starEach es env)))):TE B u c (.call f xs) (fun env=>eval (.Call (.Name x np) es [] pos) env):=fun G N Q E K H q z =>
 wpAny_bind (wpAny_Name (qE H F h1 (F.fn x f h0) (hZ (F.fk f hf) hs (h3 G N _ E _ H q fun ds Y vs k1 l1 a1 r1=>⟨F.x a1.sm,
  TO.run (G:=G) (N:=Y) k1 H.rm.zero a1.sm r1 fun d Y2 v k2 a2 r2=>z d Y2 v k2 (a1.trans a2) r2⟩))) h2)
theorem aJw{k:Nat}{x:Str}{p:Pos}(F:Facts B g)(h0:g.consts.lookup x=some k)(h1:c.sc.names.lookup x=some .globalImplicit)(h2:(x==("__debug__":Str))=false):TE B u c (.glob k) (fun env=>eval (.Name x p) env):=fun G N Q E K H q z =>
 iG q fun d e k1=>(F.co x k h0 d e).elim fun v w=>wpAny_Name (qE H F h1 w.1 (z d N v k1 H.refl (w.2 N H.sm))) h2
structure Ins(B:Bd)(N:Nx)(p:Addr × Addr)(k:Nat)(fs:List (Nat × V))(od:Obj)(mm:Str→Option PV):Prop where
 nc:k<B.D.nc
 at_:InstAt N.s.heap p.1 (instObj (B.D.ca k) p.2) (B.D.ca k) (some od)
 fo:aAz B.D N mm fs
 lk:∀x,lookIn x od=some (mm x)
theorem xM{p:Addr × Addr}{k:Nat}{fs:List (Nat × V)}(r:OR B.D N p (.inst k fs)):∃od mm,Ins B N p k fs od mm:=by
 refine nnG fun nG=>?_; obtain⟨⟨nc,e⟩,ne,mm,nl,n1,f,_⟩:=r
 refine e34 n1.ns fun od es ep ho hd hk hl=>?_
 refine nG ?_; have lk:∀x,lookIn x od=some (mm x):=fun x=>by
  delta lookIn
  refine rwS hd ?_
  dsimp only
  have nr:es.toList.any (·.refKey)=false:=by
   rw[List.any_eq_false]
   intro d hd
   refine e21 (hk d (Array.mem_toList_iff.mp hd)) fun y t ek=>?_
   delta DictEntry.refKey
   refine rwS ek ?_; exact Bool.false_ne_true
  have hx:=hl x
  unfold nsFind findBy at hx
  rw[← Array.find?_toList]at hx
  cases e1:es.toList.find? (fun d=>d.key.isStr x) with
  | some d=>rw[e1]at hx; exact congrArg some hx
  | none=>rw[e1]at hx; dsimp only; refine rwS nr ?_; exact congrArg some hx
 exact⟨od,mm,nc,⟨e,rfl,rfl,ho⟩,f,lk⟩
noncomputable def aWd(e:PE):Nat:=if h:e.ctorIdx=16 then PySem.Expr.Call.elim (motive_1:=fun _=>Nat) e h (fun _ es ks _=>es.length+ks.length) else 1
noncomputable def aZ(e:PE):Bool:=!(aWd e==0)
theorem eV{o:PE}{attr:Str}{env:bA}{whole:Sem PV}(h:aZ o=true):attributeBase o attr env whole=whole:=by
 cases o with
 | Call f a k p=>cases f with
  | Name id q=>cases a with
   | nil=>cases k with
    | nil=>exact nob h
    | cons=>rfl
   | cons=>rfl
  | _=>rfl
 | _=>rfl
theorem aBs{v:V}{x:PV}{f:Option SObj→Prop}(sm:Sm B.D N)(r:Val B N v x){k:Nat}(e:v=.loc k)(h:f N.σ[k]?)(hf:∀o,f o→∃cc fs,o=some (.inst cc fs)) :
  ∃p cc fs od mm,x=.ref p.1∧Ins B N p cc fs od mm∧f (some (.inst cc fs)):=by
 refine nnG fun nG=>?_; subst e
 refine e12 r fun p e_1 hp=>?_; subst e_1
 refine e21 (hf _ h) fun cc fs e=>?_
 refine e21 (xM (sm.obj k _ p e hp)) fun od mm I=>?_
 refine nG ?_; exact⟨p,cc,fs,od,mm,rfl,I,e▸h⟩
theorem yA{d:V}{v:PV}(rv:Val B N d v):handedIn v=true:=by
 cases d with
 | none=>obtain rfl:=(rv:v=_); rfl
 | bool=>obtain rfl:=(rv:v=_); rfl
 | int=>refine e1 rv fun t e_1=>?_; subst e_1; rfl
 | str=>refine e22 rv fun y t e_2 _=>?_; subst e_2; rfl
 | loc=>refine e12 rv fun y e_1 _=>?_; subst e_1; rfl
 | _=>refine e22 rv fun y t e_2 _=>?_; subst e_2; rfl
theorem aCu{p:Addr × Addr}{k f:Nat}{fs:List (Nat × V)}{x:Str}{od:Obj}{mm:Str→Option PV}{K:V→Prop}(F:Facts B g)(sm:Sm B.D N)(hx:x∈g.flds)(ho:strOk x=true)(he:aL x=f)
  (I:Ins B N p k fs od mm) (e:oK (gD fs f) K) (z:∀d v t,K d→Val B N d v→Q v (N.tk t).s):Wp B G N (getAttr (.ref p.1) x true) Q E:=by
 have C:=F.ck k I.nc
 have fx:=I.fo x ho
 rw[he]at fx
 refine iG e fun d e1 hk=>?_
 rw[e1]at fx
 refine e12 fx fun v e2 rv=>?_
 refine get_value (F.x sm) I.at_ C.ga ?_ (yA (B:=B) rv) (z d v _ hk rv)
 obtain⟨cd,hcd⟩:=Option.isSome_iff_exists.mp C.ci
 have hdi:cd.hasDict=true:=by have:=C.hd; rw[hcd]at this; exact this
 refine zW (F.fl x hx k I.nc) hcd ?_
 show (if cd.hasDict=true then _ else _)=_
 refine rwS (if_pos hdi) ?_
 show lookIn x od=_
 rw[I.lk,e2]
theorem aNz{y:X}{e:PE}{x:Str}{f:Nat}{pos:Pos}(F:Facts B g)(hb:aZ e=true)(hx:x∈g.flds)(ho:strOk x=true)(he:aL x=f)
  (h1:TE B u c y (fun env=>eval e env)):TE B u c (.attr y f) (fun env=>eval (.Attribute e x pos) env):=fun G N Q E K H q z=>by
 have hb':eval (.Attribute e x pos) G.env=(do
   let o ← eval e G.env
   standAt pos.atName
   let r ← holding [o] (getAttr o x true)
   letTemporaryGo e o r
   pure r):=by rw[arm_eval_Attribute,eV hb]
 refine Attribute_any_ (h1 G N _ E _ H q fun d Y v k1 a r=>?_) hb'
 cases d with
 | loc k =>
  obtain⟨p,cc,fs,od,mm,rfl,I,k2⟩:=aBs (f:=fun o=>oK (aVi f o) fun w=>K w Y.σ) a.sm r rfl k1 fun o h=>by
   cases o with
   | none=>exact False.elim h
   | some o=>cases o <;> first | exact⟨_,_,rfl⟩ | exact False.elim h
  exact aCu (G:=G) F a.sm hx ho he I k2 fun d v t k3 rv=>z d (Y.tk t) v k3 (a.trans (bY a.sm t)) (Val.on (bY a.sm t) rv)
 | _=>exact False.elim k1
theorem sM{env:bA}{pos:Pos}:∀(l:List PE),l.all (fun e=>!isStarred e)=true→(backTo pos (starEach l env)).all (fun x=>!x.1)=true
 | [],_=>rfl
 | e::r,h=>by
  refine rwS (aX (bE (Bool.and_eq_true_iff.mp h).1)) ?_
  exact sM r (Bool.and_eq_true_iff.mp h).2
theorem pP{o:PE}{x:Str}{apos pos:Pos}{es:List PE}{env:bA}(hl:(apos.endLine==pos.line)=true)(hn:es.length<29)(hs:es.all (fun e=>!isStarred e)=true) :
  eval (.Call (.Attribute o x apos) es [] pos) env=(do
   let ov ← attributeBase o x env (eval o env)
   standAt apos.atName
   let (f,first) ← holding [ov] (getMethod ov x (do return (← importBound o env).getD true))
   callWith pos f first (backTo pos (starEach es env)) []):=by
 rw[arm_eval_Call]
 have few:methodCallForm (es.length+([]:List Keyword).length) (backTo pos (starEach es env)) (backToKw pos (keywordEach [] env))=true:=by
  delta methodCallForm
  refine rwS (sM es hs) ?_
  show (true&&true&&decide (es.length+0+0<30))=true
  exact decide_eq_true (Nat.lt_succ_of_lt hn)
 delta methodCall
 refine rwS few ?_
 have e:∀o env,methodCallPos true o env apos pos=pure pos:=fun o env=>if_pos (by refine rwS hl ?_; rfl)
 refine bind_congr fun ov=>bind_congr fun _=>bind_congr fun p=>?_
 rw[e]; rfl
theorem nJ{o:PE}{x:Str}{apos pos:Pos}{es:List PE}{env:bA}(hb:aZ o=true)(hl:(apos.endLine==pos.line)=true)(hn:es.length<29)(hs:es.all (fun e=>!isStarred e)=true) :
  eval (.Call (.Attribute o x apos) es [] pos) env=(do
   let ov ← eval o env
   standAt apos.atName
   let (f,first) ← holding [ov] (getMethod ov x (do return (← importBound o env).getD true))
   callWith pos f first (backTo pos (starEach es env)) []):=by exact rwS (pP hl hn hs) (rwS (eV hb) rfl)
theorem aFm{p:Addr × Addr}{k f fn:Nat}{fs:List (Nat × V)}{x:Str}{od:Obj}{mm:Str→Option PV}{pl:Sem Bool}{Q:PV × List PV→Shared→Prop}(F:Facts B g)(sm:Sm B.D N)(hx:x∈g.mths)(ho:strOk x=true)(he:aL x=f)
  (I:Ins B N p k fs od mm) (e:gD fs f=none) (e2:B.P.meth k f=some fn) (z:Q (.ref (B.D.fa fn),[.ref p.1]) N.s):wpAny (model B.D.prog B.D.w) G.A (getMethod (.ref p.1) x pl) Q E N.s:=by
 refine e04 (F.mt x hx k fn (he▸e2)) fun _ m1 m2 m3=>?_
 have fx:=I.fo x ho
 rw[he,e]at fx
 exact method_fn (F.x sm) I.at_ (F.ck k I.nc).ga (F.ck k I.nc).gA m1 m2 (by rw[shadowIn,I.lk,fx]; rfl) z
theorem aKk{y:X}{o:PE}{x:Str}{xs:List X}{es:List PE}{f:Nat}{apos pos:Pos}(F:Facts B g)(TO:TOk B)(hb:aZ o=true)(hl:(apos.endLine==pos.line)=true)(hn:es.length<29)
  (hs:es.all (fun e=>!isStarred e)=true) (hx:x∈g.mths) (ho:strOk x=true) (he:aL x=f) (h1:TE B u c y (fun env=>eval o env)) (h2:TEs B u c xs (fun env=>spliced (backTo pos (starEach es env)))) :
  TE B u c (.meth y f xs) (fun env=>eval (.Call (.Attribute o x apos) es [] pos) env):=fun G N Q E K H q z=>by
 show wpAny _ _ (eval (.Call (.Attribute o x apos) es [] pos) G.env) _ _ _
 refine rwS (nJ hb hl hn hs) ?_
 refine wpAny_bind (h1 G N _ E _ H q fun d Y v k1 a r=>?_)
 cases d with
 | loc k =>
  obtain⟨p,cc,fs,od,mm,rfl,I,k2⟩:=aBs (f:=fun o=>oK (mY B.P k f o) fun kf=>kEs B.P B.T xs G.ρ Y.σ fun l σ=>B.T.call kf.2 (.loc kf.1::l) σ K) a.sm r rfl k1 fun o h=>by
   cases o with
   | none=>exact False.elim h
   | some o=>cases o <;> first | exact⟨_,_,rfl⟩ | exact False.elim h
  cases e:gD fs f with
  | some w=>rw[mY,e]at k2; exact False.elim k2
  | none =>
   rw[mY,e]at k2
   refine iG (bO k2) fun fn e2 k3=>?_
   refine wpAny_bind (wpAny_standAt (wpAny_bind (wpAny_holding (aFm (G:=G) F a.sm hx ho he I e e2 ?_))))
   exact hZ (G:=G) (F.fk fn (F.mt x hx cc fn (he▸e2)).2.2.2) hs (h2 G Y _ E _ (H.to a) k3 fun ds Y2 vs k4 l2 a2 r2 =>
    have b:=a.trans a2
    ⟨F.x b.sm,TO.run (G:=G) (N:=Y2) (ds:=.loc k::ds) k4 H.rm.zero b.sm ⟨_,_,rfl,Val.on a2 r,r2⟩ fun d3 Y3 v3 k5 a3 r3=>z d3 Y3 v3 k5 (b.trans a3) r3⟩)
 | _=>exact False.elim k1
end
section
variable{B:Bd}{u:Nat}{c:Ck}{G:Ev}{N Y Z:Nx}{Q E:PV→Shared→Prop}{g:Gt}
theorem lY{k x:Str}{v w:PV}{t:List (Str × PV)}(h:x≠k):stored ((x,w)::t) k v=(x,w)::stored t k v:=by
 delta stored
 have hx:decide (x=k)=false:=decide_eq_false h
 simp only[List.any_cons,hx,Bool.false_or]
 split
 ·exact rwS List.map_cons (rwS (if_neg h) rfl)
 ·rfl
theorem mT{k:Str}{v w:PV}{t:List (Str × PV)}(h:k ∉ t.map (·.1)):stored ((k,w)::t) k v=(k,v)::t:=by
 delta stored
 simp only[List.any_cons,decide_true,Bool.true_or,if_true,List.map_cons]
 exact congrArg _ ((List.map_congr_left (g:=id) fun p hp=>if_neg fun e=>h (List.mem_map.mpr ⟨p,hp,e⟩)).trans (List.map_id _))
theorem eI{D:Wd}{z:Str}(hz:strOk z=true){v:PV}{d:V}(rv:RV D N d v):∀{l:List (V × V)} {kvs:List (Str × PV)},RVd D N l kvs→(kvs.map (·.1)).Nodup→RVd D N (aS (.str (aL z)) d l) (stored kvs z v)
 | [],kvs,r,_=>by obtain rfl:=(r:kvs=[]); exact⟨z,v,[],rfl,⟨rfl,hz⟩,rv,rfl⟩
 | (k,e)::l,kvs,r,nd=>by
  obtain⟨x,w,t,rfl,⟨rfl,hx⟩,r1,r2⟩:=r
  by_cases e:x=z
  ·subst e
   refine rwS (show aS (.str (aL x)) d ((.str (aL x),_)::l)=_ from if_pos (decide_eq_true rfl)) (rwS (mT (List.nodup_cons.mp nd).1) ?_)
   exact⟨x,v,t,rfl,⟨rfl,hx⟩,rv,r2⟩
  ·refine rwS (show aS (.str (aL z)) d ((.str (aL x),_)::l)=_ from if_neg fun q=>e (cN hx hz (of_decide_eq_true q))) (rwS (lY e) ?_)
   exact⟨x,w,_,rfl,⟨rfl,hx⟩,r1,eI hz rv r2 (List.nodup_cons.mp nd).2⟩
theorem fA{k:Str}{v:PV}:∀{kvs:List (Str × PV)},(kvs.map (·.1)).Nodup→((stored kvs k v).map (·.1)).Nodup:=fun {kvs} nd=>by
 by_cases h:kvs.any (fun p=>decide (p.1=k))=true
 ·delta stored
  refine rwS (if_pos h) (rwS List.map_map (rwS (List.map_congr_left (g:=(·.1)) fun p _=>by show (if p.1=k then (p.1,v) else p).1=p.1; split <;> rfl) ?_))
  exact nd
 ·delta stored
  rw[if_neg h,List.map_append,List.nodup_append]
  refine⟨nd,List.nodup_cons.mpr ⟨List.not_mem_nil,List.nodup_nil⟩,fun a ha b hb e=>?_⟩
  refine e12 (List.mem_map.mp ha) fun p hp e2=>?_
  exact h (List.any_eq_true.mpr ⟨p,hp,decide_eq_true (e2.trans (e.trans (List.mem_singleton.mp hb)))⟩)
inductive Kv(B:Bd)(u:Nat)(c:Ck):List X→List (Option PE)→List PE→Prop
 | nil:Kv B u c [] [] []
 | cons {x y:X} {xs:List X} {k v:PE} {ks:List (Option PE)} {vs:List PE}:TE B u c x (fun env=>eval k env)→TE B u c y (fun env=>eval v env)→Kv B u c xs ks vs→Kv B u c (x::y::xs) (some k::ks) (v::vs)
theorem Kv.all{xs:List X}{ks:List (Option PE)}{vs:List PE}(h:Kv B u c xs ks vs):ks.all (·.isSome)=true∧ks.length=vs.length:=by
 induction h with
 | nil=>exact⟨rfl,rfl⟩
 | cons _ _ _ ih=>exact⟨ih.1,congrArg (· + 1) ih.2⟩
noncomputable def aFj:List (PV × PV)→List PV
 | []=>[]
 | (a,b)::r=>a::b::aFj r
theorem aDn{xs:List X}{ks:List (Option PE)}{vs:List PE}(h:Kv B u c xs ks vs)(pos:Pos):∀(G:Ev) (N:Nx) (Q:List (PV × PV)→Shared→Prop) (E:PV→Shared→Prop) (K:List V→St→Prop),Go B u c G N→kXs B G N xs K →
  (∀ds Y l,K ds Y.σ→Aft B.D N noA Y→Vals B Y ds (aFj l)→Q l Y.s)→Wp B G N (evalPairs (pairTrees ks vs G.env pos)) Q E:=by
 induction h with
 | nil=>exact fun G N Q E K H q z=>evalPairs_nil (z [] N [] q H.refl rfl)
 | cons h1 h2 _ ih=>exact fun G N Q E K H q z=>evalPairs_cons (h1 G N _ E _ H q fun d1 Y1 v1 k1 a1 r1=>wpAny_bind (h2 G Y1 _ E _ (H.to a1) k1 fun d2 Y2 v2 k2 a2 r2=>wpAny_bind (wpAny_standAt (wpAny_pure
   (ih G Y2 _ E _ (H.to (a1.trans a2)) k2 fun ds Y3 l k3 a3 r3=>z _ Y3 ((v1,v2)::l) k3 ((a1.trans a2).trans a3) ⟨_,_,rfl,Val.on (a2.trans a3) r1,_,_,rfl,Val.on a3 r2,r3⟩)))))
theorem mV{K:List (V × V)→Prop}:∀{ds:List V} {l:List (PV × PV)} {acc:List (V × V)} {kvs:List (Str × PV)},oK (uC ds acc) K→Vals B N ds (aFj l)→RVd B.D N acc kvs→(kvs.map (·.1)).Nodup →
  ∃dd k2,K dd∧Carries (SK B.D) l k2∧RVd B.D N dd (merged kvs k2)
 | [],[],acc,kvs,e,r,ra,nd=>⟨acc,[],e,trivial,ra⟩
 | [],_::_,acc,kvs,e,r,ra,nd=>nomatch (show _::_=[] from r)
 | [_],l,acc,kvs,e,r,ra,nd=>False.elim e
 | k::v::ds,[],acc,kvs,e,r,ra,nd=>by refine e22 r fun v t e _=>?_; cases e
 | k::v::ds,(a,b)::t,acc,kvs,e,r,ra,nd=>by
  refine nnG fun nG=>?_; refine e02 (bI (show oK (if lA k then uC ds (aS k v acc) else none) K from e)) fun hk e=>?_
  obtain⟨_,_,e1,r1,_,_,e2,r2,r3⟩:=r
  cases e1
  cases e2
  refine e24 (zX hk r1) fun z tk e_2 hz e_4 is=>?_; subst e_2; subst e_4
  refine e23 (mV e r3 (eI hz r2 ra nd) (fA nd)) fun dd k2 h c2 r4=>?_
  refine nG ?_; exact⟨dd,(z,b)::k2,h,⟨is,rfl,c2⟩,r4⟩
noncomputable def dF:Obj:={ cls:=.type "dict",data:=.dict #[] }
theorem aMr{xs:List X}{ks:List (Option PE)}{vs:List PE}{pos:Pos}(h:Kv B u c xs ks vs)(hl:ks.length≤15):TF B u c (.dict xs) (fun env=>eval (.Dict ks vs pos) env):=fun G N Q E K H q z=>by
 refine e02 (hE H.sm (o:=dF) rfl) fun a p=>?_
 have dn:IsDc B.D (N.s.heap.push dF) N.s.heap.objs.size []:=⟨H.sm.one,Heap.DictOf.new N.s.heap⟩
 cases h with
 | nil=>exact wpAny_Dict_empty (z (.dict []) (N.psh _) _ q a aY p ⟨[],dn,rfl⟩)
 | @cons x y xs k v ks vs h1 h2 h3 =>
  refine wpAny_Dict_walk (knd:=SK B.D) ((Kv.cons h1 h2 h3).all).1 ((Kv.cons h1 h2 h3).all).2 (by simp) (by (first | lia | omega)) (aDn (.cons h1 h2 h3) pos G (N.psh dF) _ E _ (H.to a) q fun ds Y l k1 a1 r1=>?_)
  refine e23 (mV (kvs:=[]) k1 r1 rfl List.nodup_nil) fun dd k2 hK c2 r2=>?_
  refine⟨k2,c2,dn.2.at (fun o e=>a1.old p.nc e),fun h' dh sb=>?_⟩
  have t:=Aft.turn1 (t:=Y.s.toks+l.length) a1.sm (p.go a1) (fun c o n e=>sb.extBut c o n e) (dh.elim fun o q=>q.elim fun _ q=>q.elim fun _ q=>⟨o,q.1⟩)
  exact z (.dict dd) (Y.at _) _ hK (((a.trans a1).up.trans t).hide fun b e=>by refine rwS e ?_; exact aY) aY ((p.go a1).go t) ⟨_,⟨H.sm.one,dh⟩,cX t.le _ _ r2⟩
theorem aGc{r:V}(h:V.beq r .none=true):r=.none:=by cases r <;> first | rfl | exact absurd h Bool.false_ne_true
noncomputable def aQn(h:Heap)(C:Addr):Heap:=(h.push emptyDict).push (instObj C h.objs.size)
noncomputable def aUl(h:Heap):Addr × Addr:=(h.objs.size+1,h.objs.size)
theorem aLc{k:Nat}(m:Sm B.D N)(hk:k<B.D.nc):Aft B.D N noA ((N.at { N.s with heap:=aQn N.s.heap (B.D.ca k) }).lo (aUl N.s.heap) (.inst k [])):=by
 have w2:=((More.refl N).push emptyDict).push (instObj (B.D.ca k) N.s.heap.objs.size)
 have e0:(N.s.heap.push emptyDict).get? N.s.heap.objs.size=some emptyDict:=bB rfl
 have e1:(aQn N.s.heap (B.D.ca k)).get? (N.s.heap.objs.size+1)=some (instObj (B.D.ca k) N.s.heap.objs.size):=by
  have:=Heap.get?_push_size (N.s.heap.push emptyDict) (o:=instObj (B.D.ca k) N.s.heap.objs.size) rfl
  rw[Heap.size_push]at this
  exact this
 have n1:¬ N.has (N.s.heap.objs.size+1):=fun h=>absurd (jF h) (Nat.not_lt.mpr (Nat.le_succ _))
 exact(w2.aft m).lo (w2.pv m n1 e1) (w2.pv m aY (Heap.get?_push_of_some _ e0)) ⟨n1,aY⟩ (mR m aY)
  ⟨⟨hk,e1⟩,Nat.succ_ne_self _,fun _=>none,[],(Heap.Ns1.of_empty (Heap.Ns.new N.s.heap (.type "dict"))).at fun o e=>Heap.get?_push_of_some _ e,fun x _=>rfl,Within.nil,Nat.le_refl _⟩
theorem aVc{k:Nat}{x:Str}{xs:List X}{es:List PE}{np pos:Pos}(F:Facts B g)(TO:TOk B)(hu:40≤u)(h0:g.clss.lookup x=some k)(h1:c.sc.names.lookup x=some .globalImplicit)(h2:(x==("__debug__":Str))=false)
  (hs:es.all (fun e=>!isStarred e)=true) (h3:TEs B u c xs (fun env=>spliced (backTo pos (starEach es env)))):TE B u c (.new k xs) (fun env=>eval (.Call (.Name x np) es [] pos) env):=fun G N Q E K H q z=>by
 refine e02 (F.cl x k h0) fun hcl hk=>?_
 refine wpAny_bind (wpAny_Name (qE H F h1 hcl (hZ (F.ck k hk).kp hs (h3 G N _ E _ H q fun ds Y vs k1 l1 a r=>⟨F.x a.sm,?_⟩))) h2)
 refine iG k1 fun f hf k2=>?_
 refine e02 (F.ini k f hf hk) fun i1 i2=>?_
 refine wpAny_call (make_core (makes_of (F.x a.sm) (F.ck k hk).mkc) (looks_findIn (F.x a.sm) i1) (fun self=>bind_fn (F.x a.sm) self i2) (.inl rfl) ?_)
 have af:=aLc (k:=k) a.sm hk
 have rl:Val B ((Y.at { Y.s with heap:=aQn Y.s.heap (B.D.ca k) }).lo (aUl Y.s.heap) (.inst k [])) (.loc Y.σ.length) (.ref (Y.s.heap.objs.size+1)):=⟨aUl Y.s.heap,rfl,by refine rwT a.sm.len ?_; exact uB⟩
 have h1:=H.rm.depth
 have h2:=H.rm.units
 refine(TO (G.A.under (.builtin "type.__call__" ⟨.ref (B.D.ca k)::([]++vs),[]⟩)) _ f (.loc Y.σ.length::ds) (.ref (Y.s.heap.objs.size+1)::vs) _ k2
  ⟨by show G.A.depth+1+5*B.n+0+2<recursionLimit; (first | lia | omega),by show G.A.units+1+100*B.n+0<cLine; (first | lia | omega),H.rm.hand⟩ af.sm ⟨_,_,rfl,rl,Vals.on af r⟩).2 _ fun d Y3 v3 k3 a3 r3=>?_
 refine nnG fun nG=>?_; refine e02 (eQ k3) fun hn k4=>?_
 cases aGc hn
 refine nG ?_; exact⟨r3,z (.loc Y.σ.length) Y3 _ k4 ((a.trans af).trans a3) (Val.on a3 rl)⟩
end
end Mine.Internal
namespace Mine.Internal
open PySem PySem.W PyProof.Rows PySem.Calls
structure BiOk(D:Wd)(c:Ck)(x:Str)(v:PV):Prop where
 g:nsIn D.K mainGlobals x=some none
 b:nsIn D.K builtinsNs x=some (some v)
 k:c.sc.names.lookup x=some .globalImplicit
 d:(x==("__debug__":Str))=false
noncomputable def aKq:PV→Bool
 | .builtin _=>true
 | .type _=>true
 | _=>false
section
variable{B:Bd}{u:Nat}{c:Ck}{G:Ev}{N Y Z:Nx}{Q E:PV→Shared→Prop}{g:Gt}
theorem gC{f:PV}{first:List PV}{es:List PE}{pos:Pos}(hk:aKq f=true)(hs:es.all (fun e=>!isStarred e)=true)
  (h:Wp B G N (spliced (backTo pos (starEach es G.env))) (fun vs s₁=>wpAny (model B.D.prog B.D.w) G.A (call f (first++vs)) Q E s₁) E):Wp B G N (callWith pos f first (backTo pos (starEach es G.env)) []) Q E:=by
 have args:wpAny (model B.D.prog B.D.w) G.A (evalArgs f true (backTo pos (starEach es G.env)) []) (fun a s₁=>wpAny (model B.D.prog B.D.w) G.A (call f (first++a.pos) a.kw) Q E s₁) E N.s:=by
  cases es with
  | nil =>
   show wpAny _ G.A (spliced [] >>= _) _ E N.s
   exact wpAny_bind (wpAny_mono h (fun vs s' h'=>wpAny_holding (wpAny_bind (wpAny_pure (wpAny_bind (wpAny_pure (wpAny_pure h')))))) fun _ _ x=>x)
  | cons e r =>
   rw[aX (bE (aB hs))]at h ⊢
   exact Calls.evalArgs_plain h
 cases f with
 | builtin id=>exact Calls.callWith_builtin (jN es hs) args
 | type t=>exact PySem.callWith_type (jN es hs) args
 | _=>exact absurd hk Bool.false_ne_true
theorem fF{x:Str}{v:PV}{xs:List X}{es:List PE}{np pos:Pos}{K:List V→St→Prop}(F:Facts B g)(BB:BiOk B.D c x v)(hv:aKq v=true)(hs:es.all (fun e=>!isStarred e)=true)(h3:TEs B u c xs (fun env=>spliced (backTo pos (starEach es env))))
  (H:Go B u c G N) (q:kXs B G N xs K) (z:∀ds Y vs,K ds Y.σ→Aft B.D N noA Y→Vals B Y ds vs→wpAny (model B.D.prog B.D.w) G.A (call v vs) Q E Y.s):Wp B G N (eval (.Call (.Name x np) es [] pos) G.env) Q E :=
 wpAny_bind (wpAny_Name (gP H F BB.k BB.g BB.b (gC hv hs (h3 G N _ E _ H q fun ds Y vs k _ a r=>z ds Y vs k a r))) BB.d)
noncomputable def hM(B:Bd)(u:Nat)(f:PV)(b:Bi):Prop :=
 ∀(G:Ev) (N:Nx) (ds:List V) (vs:List PV) (Q E:PV→Shared→Prop) (K:V→Prop),Room B.n u G.A→oK (biE N.σ b ds) K→Sm B.D N→Vals B N ds vs →
  (∀d Y v,K d→Aft B.D N noA Y→Y.σ=N.σ→Val B Y d v→Q v Y.s)→Wp B G N (call f vs) Q E
noncomputable def aFd(B:Bd)(u:Nat)(f:PV)(b:Bi):Prop :=
 ∀(G:Ev) (N:Nx) (ds:List V) (vs:List PV) (Q E:PV→Shared→Prop) (K:V→Prop),Room B.n u G.A→oK (biE N.σ b ds) K→Sm B.D N→Vals B N ds vs →
  (∀d Y a,K d→Aft B.D N noA Y→Y.σ=N.σ→¬ N.has a→Pv Y a→RC B.D Y a d→Q (.ref a) Y.s)→Wp B G N (call f vs) Q E
theorem qZ{b:Bi}{x:Str}{f:PV}{xs:List X}{es:List PE}{np pos:Pos}(F:Facts B g)(BB:BiOk B.D c x f)(hf:aKq f=true)(hs:es.all (fun e=>!isStarred e)=true)(h3:TEs B u c xs (fun env=>spliced (backTo pos (starEach es env))))(hc:hM B u f b) :
  TE B u c (.bi b xs) (fun env=>eval (.Call (.Name x np) es [] pos) env):=fun G N Q E K H q z =>
 fF F BB hf hs h3 H q fun ds Y vs k a r=>hc G Y ds vs Q E _ H.rm k a.sm r fun d Z v k2 a2 es r2=>z d Z v (by refine rwS es ?_; exact k2) (a.trans a2) r2
theorem aPt{b:Bi}{x:Str}{f:PV}{xs:List X}{es:List PE}{np pos:Pos}(F:Facts B g)(BB:BiOk B.D c x f)(hf:aKq f=true)(hs:es.all (fun e=>!isStarred e)=true)(h3:TEs B u c xs (fun env=>spliced (backTo pos (starEach es env))))(hc:aFd B u f b) :
  TF B u c (.bi b xs) (fun env=>eval (.Call (.Name x np) es [] pos) env):=fun G N Q E K H q z =>
 fF F BB hf hs h3 H q fun ds Y vs k a r=>hc G Y ds vs Q E _ H.rm k a.sm r fun d Z b k2 a2 es n p rc=>z d Z b (by refine rwS es ?_; exact k2) (a.trans a2) (fun h=>n (a.ex _ h)) p rc
theorem aIl{l:List V}{f:V→Option V}{K:V→Prop}(h:oK (one l f) K):∃v,l=[v]∧oK (f v) K:=match l,h with
 | [v],h=>⟨v,rfl,h⟩
theorem Vals.one{d:V}{vs:List PV}(r:Vals B N [d] vs):∃v,vs=[v]∧Val B N d v:=r.elim fun v q=>q.elim fun t q=>⟨v,q.1.trans (congrArg (v::·) q.2.2),q.2.1⟩
theorem uno{f:V→Option V}{ds:List V}{vs:List PV}{K:V→Prop}{Z:Prop}(e:oK (one ds f) K)(r:Vals B N ds vs)(z:∀d v,vs=[v]→oK (f d) K→Val B N d v→Z):Z :=
 (aIl e).elim fun d q=>(Vals.one (N:=N) (d:=d) (by refine rwT q.1 ?_; exact r)).elim fun v w=>z d v w.1 q.2 w.2
theorem gG{l:List V}{vs:Array PV}(rs:Vals B N l vs.toList):vs.size=l.length:=Array.length_toList.symm.trans (aV rs)
theorem bM{D:Wd}{d:List (V × V)}:∀{v:List (Str × PV)},RVd D N d v→v.length=d.length:=by
 induction d with
 | nil=>exact fun r=>congrArg List.length r
 | cons x l ih =>
  intro v r
  refine e34 r fun n w t e_3 _ _ r2=>?_; subst e_3
  exact congrArg (· + 1) (ih r2)
theorem kM{n m:Nat}(e:n=m)(h:m≤aU):n≤sizeLine:=bR (e▸h)
theorem xP{n m:Nat}(e:n=m)(h:m≤aU):(n:Int)<2 ^ 63:=Int.lt_of_le_of_lt (Int.ofNat_le.mpr (Nat.le_trans (Nat.le_of_eq e) h)) (by decide)
theorem aQj:hM B u (.builtin "max") .max:=fun G N ds vs Q E K rm e sm rs z=>match ds,e,rs with
 | [a,b],e,rs=>by
  obtain⟨v,_,rfl,r1,w,_,rfl,r2,e3⟩:=rs
  obtain rfl:=(e3:_=[])
  refine e23 (bD (B:=B) (aR e) r1) fun i t e_2 e_3 e=>?_; subst e_2; subst e_3
  refine e23 (bD (B:=B) (bO e) r2) fun j t' e_2 e_3 e=>?_; subst e_2; subst e_3
  have w:∃tk,(if j > i then Value.int j t' else .int i t)=.int (if i<j then j else i) tk:=(Decidable.em (i<j)).elim (fun h=>⟨t',by exact rwS (if_pos h) (rwS (if_pos h) rfl)⟩) fun h=>⟨t,by exact rwS (if_neg h) (rwS (if_neg h) rfl)⟩
  exact max_two_ints rm.hand fun h' tk kp=>z _ (N.at { N.s with heap:=h',toks:=tk }) _ e ((⟨kp,rfl,rfl⟩:More N { N.s with heap:=h',toks:=tk }).aft sm) rfl w
theorem aQv:hM B u (.builtin "len") .len:=fun G N ds vs Q E K rm e0 sm r0 z=>uno e0 r0 fun d v hv e rv=>by
 subst hv
 have fin:∀{n m:Nat} {t:Nat},n=m→K (.int m)→Q (.int n t) { N.s with toks:=t+1 }:=fun hn hk=>z _ (N.tk _) _ hk (bY sm _) rfl ⟨_,congrArg (fun k:Nat=>Value.int k _) hn⟩
 have seq:oK (((cH N.σ d).bind cR).map fun l=>V.int l.length) K→Wp B G N (call (.builtin "len") [v]) Q E:=fun e=>tT sm (aR (bO e)) rv fun l a arr e hx t rs=>by
  subst hx
  have w:=bI e
  have hlen:=gG rs
  exact t.elim (fun t=>call_len_list t (xP hlen w.1) (fin hlen w.2)) fun t=>len_tuple t (xP hlen w.1) (fin hlen w.2)
 cases d with
 | dict l =>
  refine e02 (bI e) fun hl e=>?_
  refine e24 rv fun a kvs e_2 wa t rs=>?_; subst e_2
  exact call_len_dict (dR t.1) t.2 (xP (bM rs) hl) (fin (bM rs) e)
 | _=>exact seq e
theorem aMb:aFd B u (.type "list") .list:=fun G N ds vs Q E K rm e0 sm r0 z=>uno e0 r0 fun d v hv e rv=>tT sm (aR (bO e)) rv fun l a arr e hx t rs=>by
 subst hv hx
 have w:=bI e
 have go:∀T o (n:Nat),(T="list"∨T="tuple")→N.s.heap.get? a=some o→o.cls=.type T→o.data=.seq arr n→Wp B G N (call (.type "list") [.ref a]) Q E:=fun T o n hT ho hc hd =>
  call_list_seq a hT ho hc hd (fun h' c' kp e1 =>
   have m:More N { N.s with heap:=h' }:=⟨kp,rfl,rfl⟩
   z _ (N.at _) _ w.2 (m.aft sm) rfl aY (m.pv sm aY e1) ⟨arr,⟨c',e1⟩,Vals.on (m.aft sm) rs⟩) (kM (gG rs) w.1)
 exact t.elim (fun ⟨o,ho,hc,n,hd⟩=>go "list" o n (.inl rfl) ho hc hd) fun ⟨o,ho,hc,n,hd⟩=>go "tuple" o n (.inr rfl) ho hc hd
theorem aEj:hM B u (.type "tuple") .tuple:=fun G N ds vs Q E K rm e0 sm r0 z=>uno e0 r0 fun d v hv e rv=>by
 subst hv
 have lst:oK (((rU N.σ d).bind cR).map V.tup) K→Wp B G N (call (.type "tuple") [v]) Q E:=fun e=>qK sm (aR (bO e)) rv fun l a e hx rc=>by
  subst hx
  refine e12 rc fun arr t rs=>?_
  exact call_tuple_list t.list (fun h' kp=>have m:=tI (N:=N) (⟨kp,rfl,rfl⟩:More N { N.s with heap:=h' }) sm rs; z _ _ _ (bI e).2 m.1 rfl m.2) (kM (gG rs) (bI e).1)
 cases d with
 | tup k =>
  refine e24 (id rv) fun a arr e_2 wa t rs=>?_; subst e_2
  exact call_tuple_same (IsTp.tup t) (z _ N _ (bI (bO e)).2 (.refl sm) rfl rv)
 | list k=>exact lst e
 | loc k=>exact lst e
 | _=>exact False.elim e
theorem aNb{l:List (V × V)}{a:List V}{K:V→Prop}(h:oK (aXt l a) K):∃s v,a=[.str s,v]∧K ((aK (.str s) l).getD v):=match a,h with
 | [k,v],h=>by
  have h:oK (aZs l k v) K:=h
  cases k <;> first | exact⟨_,_,rfl,h⟩ | exact False.elim h
theorem kT{a:Addr}{kvs:List (Str × PV)}(t:IsDc B.D N.s.heap a kvs):N.s.TypeIs (.ref a) "dict"∧∀b,Value.ref a=.ref b→∃o,N.s.heap.get? b=some o∧o.dict=none :=
 ⟨t.2.typeIs,fun b e=>by cases e; refine e33 t.2 fun o es ep ho ex _=>?_; exact⟨o,ho,ex.2.1⟩⟩
theorem wK{a:Addr}{vs:Array PV}(t:IsLs N.s.heap a vs):N.s.TypeIs (.ref a) "list"∧∀b,Value.ref a=.ref b→∃o,N.s.heap.get? b=some o∧o.dict=none :=
 ⟨t.list.typeIs,fun b e=>by cases e; exact t.elim fun k ho=>⟨_,ho,rfl⟩⟩
theorem gY{o:PE}{y:X}{x:Str}{t id:String}{xs:List X}{es:List PE}{apos pos:Pos}(pa:PlainAttrs t)(slot:Slot t x id)(hty:typeOf (.builtin id)=pure (.type "method_descriptor"))
  (hb:aZ o=true) (hl:(apos.endLine==pos.line)=true) (hn:es.length<29) (hs:es.all (fun e=>!isStarred e)=true) (h1:TE B u c y (fun env=>eval o env)) (h3:TEs B u c xs (fun env=>spliced (backTo pos (starEach es env))))
  {J:V→St→Prop} (H:Go B u c G N) (q:kX B G N y J)
  (z:∀d Y v,J d Y.σ→Aft B.D N noA Y→Val B Y d v→(Y.s.TypeIs v t∧∀a,v=.ref a→∃o,Y.s.heap.get? a=some o∧o.dict=none)∧∃K,kXs B G Y xs K ∧
   ∀ds Z vs,K ds Z.σ→Aft B.D Y noA Z→Vals B Z ds vs→wpAny (model B.D.prog B.D.w) G.A (call (.builtin id) (v::vs)) Q E Z.s):Wp B G N (eval (.Call (.Attribute o x apos) es [] pos) G.env) Q E:=by
 refine rwS (nJ hb hl hn hs) ?_
 exact wpAny_bind (h1 G N _ E _ H q fun d Y v k1 a r=>(z d Y v k1 a r).elim fun w q=>q.elim fun K q =>
  wpAny_bind (wpAny_standAt (wpAny_bind (wpAny_holding (getMethod_builtin w.1 pa slot hty w.2 (gC (G:=G) (N:=Y) (first:=[v]) rfl hs (h3 G Y _ E _ (H.to a) q.1 fun ds Z vs k2 _ a2 r2=>q.2 ds Z vs k2 a2 r2)))))))
end
theorem tL:typeLookup (.type "list") "keys"=pure none:=by rw[typeLookup_type,builtinLookup_eq_fast]; kernel_rfl
theorem lP{prog:Program}{w:World}{A:Around}{E:PV→Shared→Prop}{s:Shared}{a:Addr}{xs:Array PV}{k:Nat}{sl:Array (Option PV)}{Q:Option PV→Shared→Prop}(hx:s.heap.get? a=some { cls:=.type "list",dict:=none,data:=.seq xs k,slots:=sl })(hA:A.handled=none)
  (q:∀h' tk,(∀b o,s.heap.get? b=some o→h'.get? b=some o)→Q none { s with heap:=h',toks:=tk }):wpAny (model prog w) A (getAttr? (.ref a) "keys") Q E s:=by
 obtain⟨hp,g,d,tk,os⟩:=s
 have hT:∀tk',(⟨hp,g,d,tk',os⟩:Shared).TypeIs (.ref a) "list":=fun _=>⟨_,hx,rfl⟩
 have f1:=sub_AttributeError
 have f3:=F.slot_list_getattribute.lookup
 have f4:=F.slot_list_getattribute.bind (.ref a)
 have f5:=am_list_getattr_none
 delta getAttr? getAttrBy? getAttrBy
 repeat (any_goals (first | assumption | exact hT _ | ((with_reducible show wpAny _ _ (call (Value.builtin "list.__getattribute__") _ _) _ _ _); refine call_meets F.slot_list_getattribute (hT _) am_entry_list_getattribute (F.args_list_getattribute_2 _ _) (meets_getattribute_miss_list a xs k sl "keys" _ tL (by decide) (by decide)) ⟨hx,hA,fun h' tk' e hx'=>?_⟩) | wp_step))
 refine e21 hx'.there fun t' u' he=>?_
 show wpAny _ _ (getattributeRaised _ _ _ _ _ _ _) _ _ _
 delta getattributeRaised
 repeat (any_goals (first | assumption | wp_step))
 exact q h' tk' hx'.of.keeps
theorem iW:entryFor table "dict.update.loop"=some Builtin.«dict.update.loop»:=entryFor_of_tree (by kernel_rfl)
theorem cM:plainId "dict.update.loop"=true:=by decide +kernel
theorem aNx{x:V}{K:Nat × V→Prop}(e:oK (aWq x) K):∃s v,x=.tup [.str s,v]∧K (s,v):=by
 cases x with
 | tup l=>match l,(show oK (kvL l) K from e) with
  | [k,v],e =>
   have e:oK (kvS k v) K:=e
   cases k <;> first | exact⟨_,_,rfl,e⟩ | exact False.elim e
 | _=>exact False.elim e
theorem aUx{arr:Array PV}{k:Nat}{v:PV}{t:List PV}(e:arr.toList.drop k=v::t):arr[k]?=some v∧arr.toList.drop (k+1)=t :=
 ⟨Array.getElem?_toList.symm.trans ((List.getElem?_drop.symm.trans (congrArg (·[0]?) e):arr.toList[k+0]?=_)),(List.drop_drop ..).symm.trans (congrArg (·.drop 1) e)⟩
theorem aMp{arr:Array PV}{k:Nat}(e:arr.toList.drop k=[]):arr[k]?=none:=Array.getElem?_toList.symm.trans (List.getElem?_eq_none (List.drop_eq_nil_iff.mp e))
section
variable{B:Bd}{u:Nat}{c:Ck}{G:Ev}{N Y Z:Nx}{Q E:PV→Shared→Prop}{g:Gt}
theorem Le.of{h':Heap}{tk:Nat}(k:∀b o,N.W b→N.s.heap.get? b=some o→h'.get? b=some o):Le N (N.at { N.s with heap:=h',toks:=tk }):=⟨fun b o w e=>⟨k b o w e,w⟩,fun _ _ e=>e⟩
theorem fQ{D:Wd}{h:Heap}{a:Addr}{kvs:List (Str × PV)}(t:IsDc D h a kvs):(kvs.map (·.1)).Nodup:=t.2.elim fun _ q=>q.elim fun _ q=>q.elim fun _ q=>q.2.2.2.2.2
theorem pU{dd it l:Addr}{arr:Array PV}{result:PV}(hdi:dd≠it)(hdl:dd≠l)(hil:it≠l){R:Result→Shared→Prop}{K:List (V × V)→Prop} :
  ∀(ds:List V) (k:Nat) (acc:List (V × V)) (kvs:List (Str × PV)) (A:Around) (i:Int) (N:Nx),¬ N.W dd→¬ N.W it→A.handled=none→Vals B N ds (arr.toList.drop k)→oK (oT acc ds) K →
   RVd B.D N acc kvs→IsDc B.D N.s.heap dd kvs→N.s.heap.IsListIter it l k→N.s.heap.IsList l arr→kvs.length+ds.length≤sizeLine →
   (∀d h' tk kvs',K d→(∀b o,b≠dd→b≠it→N.s.heap.get? b=some o→h'.get? b=some o)→IsDc B.D h' dd kvs'→RVd B.D (N.at { N.s with heap:=h',toks:=tk }) d kvs'→R (.ok (.ret result)) { N.s with heap:=h',toks:=tk }) →
   codeAny (model B.D.prog B.D.w) A (.builtin "dict.update.loop" ⟨[.ref dd,.ref it,rawInt i,result],[]⟩) R N.s
 | [],k,acc,kvs,A,i,N,wd,wi,hh,rs,hp,ra,td,ti,tl,hz,q=>by
  refine codeAny_builtin iW ?_
  refine rwS (Around.under_plainId cM _) ?_
  show wpAny _ A.in1 (pyNext (.ref it) >>= _) _ _ N.s
  refine wpAny_bind (wpAny_pyNext_list_end hh ti tl (aMp rs) fun h' eb=>?_)
  show wpAny _ A.in1 (Builtin.Dict.addKeywords dd [] >>= _) _ _ _
  exact wpAny_bind (wpAny_pure (wpAny_pure (q acc h' _ kvs hp (fun b o _ n2 e=>eb b o n2 e) (td.at fun o e=>eb _ o hdi e) (cX (Le.of fun b o w e=>eb b o (fun z=>wi (z▸w)) e) _ _ ra))))
 | x::ds,k,acc,kvs,A,i,N,wd,wi,hh,rs,hp,ra,td,ti,tl,hz,q=>by
  refine nnG fun nG=>?_; refine e22 (aNx (aR hp)) fun n d e_2 hp=>?_; subst e_2
  obtain⟨v,t,e,⟨a,pa,rfl,wa,⟨n0,ta⟩,_,_,ep,⟨z,tk,rfl,hz1,rfl⟩,v2,_,rfl,r2,rfl⟩,r3⟩:=rs
  refine e02 (aUx e) fun hv ht=>?_
  refine nG ?_; refine codeAny_builtin iW ?_
  refine rwS (Around.under_plainId cM _) ?_
  show wpAny _ A.in1 (pyNext (.ref it) >>= _) _ _ N.s
  refine wpAny_bind (wpAny_pyNext_list_item ti tl hv fun h1 ti1 sb=>?_)
  have ta1:h1.get? a=some { cls:=.type "tuple",dict:=none,data:=.seq pa n0,slots:=#[] }:=sb.extBut a _ (fun z=>wi (z▸wa)) ta
  show wpAny _ A.in1 (holding [Value.ref a] _ >>= _) _ _ _
  refine wpAny_bind (wpAny_holding (wpAny_bind (wpAny_tryCatch ?_)))
  delta Builtin.Dict.pairItems
  refine wpAny_bind (wpAny_typeOf (T:="tuple") ⟨_,ta1,rfl⟩ ?_)
  refine rwS (if_pos (by decide)) ?_
  refine wpAny_bind (wpAny_seqItems ta1 rfl (wpAny_pure ?_))
  show wpAny _ A.in1 (match pa.toList with | [k,v]=>_ | l=>_) _ _ _
  refine rwS ep ?_
  refine wpAny_holding (wpAny_dictSet_pairs (strKind_is _ _ _ _) (td.2.at fun o e=>sb.extBut _ o hdi e) (fun h2 td2 sb2=>?_) (by simp only[List.length_cons]at hz; (first | lia | omega)))
  have up:∀b o,b≠dd→b≠it→N.s.heap.get? b=some o→h2.get? b=some o:=fun b o n1 n2 e=>sb2.extBut b o n1 (sb.extBut b o n2 e)
  have l:=Le.of (N:=N) (tk:=N.s.toks+1) fun b o w e=>up b o (fun z=>wd (z▸w)) (fun z=>wi (z▸w)) e
  refine e12 ti1 fun o1 ho1 w1=>?_
  refine e12 tl fun o2 ho2 w2=>?_
  exact wpAny_pure ⟨plainId_quiet cM _,pU hdi hdl hil ds (k+1) (aS (.str (aL z)) d acc) (stored kvs z v2) A (i+1) (N.at _) wd wi hh (by refine rwS ht ?_; exact fI l _ _ r3) hp
   (eI hz1 (cL l _ _ r2) (cX l _ _ ra) (fQ td)) ⟨td.1,td2⟩ ⟨o1,sb2.extBut _ _ (Ne.symm hdi) ho1,w1⟩ ⟨o2,up _ o2 (Ne.symm hdl) (Ne.symm hil) ho2,w2⟩
   (by have:=stored_length_le kvs z v2; simp only[List.length_cons]at hz; (first | lia | omega)) fun d h' tk' kvs' hk kp td' rd=>q d h' tk' kvs' hk (fun b o n1 n2 e=>kp b o n1 n2 (up b o n1 n2 e)) td' rd⟩
noncomputable def aAn(l:Addr):Obj:={ cls:=.type "list_iterator",data:=.fields #[.ref l,.int 0 0] }
theorem nV{l:Addr}{arr:Array PV}{ds:List V}{K:List (V × V)→Prop}(sm:Sm B.D N)(hh:G.A.handled=none)(il:IsLs N.s.heap l arr)(rs:Vals B N ds arr.toList)
  (hp:oK (oT [] ds) K) (hz:ds.length≤aU) (z:∀d Y a,K d→Aft B.D N noA Y→Y.σ=N.σ→¬ N.has a→Pv Y a→RC B.D Y a (.dict d)→Q (.ref a) Y.s):Wp B G N (call (.type "dict") [.ref l]) Q E:=by
 refine callType_codes (Q₁:=fun obj s₁=>obj=.ref N.s.heap.objs.size∧s₁={ N.s with heap:=N.s.heap.push dF }) PySem.F.kt_called_dict (PySem.F.kt_typeCall_dict_1 _) PySem.F.entry_dict_init (kt_code_dict_new _ ⟨rfl,rfl⟩) ?_
 rintro obj s₁ ⟨rfl,rfl⟩
 have hnew:(N.s.heap.push dF).DictOf (SK B.D) N.s.heap.objs.size []:=Heap.DictOf.new N.s.heap
 refine e1 (id il) fun kk ho=>?_
 have m1:=(More.refl N).push dF
 have ho1:=m1.k _ _ ho
 refine⟨hnew.typeIs,PySem.F.args_dict_init_2 _ _,?_⟩
 delta Builtin.«dict.__init__»
 refine wpAny_bind ?_
 delta Builtin.Dict.selfAndRest
 refine wpAny_bind (wpAny_notOrdered_dict hnew.typeIs ?_)
 show wpAny _ _ (pure (N.s.heap.objs.size,[Value.ref l])) _ _ _
 refine wpAny_pure ?_
 show wpAny _ _ (Builtin.Dict.updateFrom "dict.__init__" N.s.heap.objs.size (.ref l) [] .none) _ _ _
 delta Builtin.Dict.updateFrom
 refine wpAny_bind (wpAny_typeOf (T:="list") ⟨_,ho1,rfl⟩ ?_)
 refine rwS (if_pos (by decide)) ?_
 refine wpAny_bind (lP ho1 hh fun h1 tk1 k1=>?_)
 have il1:IsLs h1 l arr:=⟨kk,k1 _ _ ho1⟩
 have dn1:=hnew.at (h':=h1) fun o e=>k1 _ _ e
 simp only[Option.isNone_none,if_true]
 refine wpAny_bind (wpAny_rule ?_)
 refine wpAny_bind (wpAny_pyIter_list (IsLs.list il1) (wpAny_pure ⟨plainId_quiet cM _,?_⟩))
 have m2:More N { N.s with heap:=h1.push (aAn l),toks:=tk1 }:=⟨fun b o e=>Heap.get?_push_of_some _ (k1 b o (m1.k b o e)),rfl,rfl⟩
 have ni:¬ N.has h1.objs.size:=(⟨fun b o e=>k1 b o (m1.k b o e),rfl,rfl⟩:More N { N.s with heap:=h1 }).no
 have a2:=m2.aft sm
 refine pU (B:=B) (arr:=arr) (l:=l) (Nat.ne_of_lt (dn1.elim fun o q=>q.elim fun _ q=>q.elim fun _ q=>Heap.lt_size q.1)) (Nat.ne_of_gt (Heap.lt_size ho)) (Nat.ne_of_gt (Heap.lt_size (k1 _ _ ho1)))
  ds 0 [] [] _ 0 (N.at { N.s with heap:=h1.push (aAn l),toks:=tk1 }) (fun w=>aY (sm.wd _ w)) (fun w=>ni (sm.wd _ w)) hh (Vals.on a2 rs) hp rfl ⟨sm.one,dn1.push _⟩ ⟨_,Heap.get?_push_size _ rfl,rfl,rfl⟩ ((IsLs.list il1).at fun o e=>Heap.get?_push_of_some _ e) ?_ fun d h' tk kvs' hk kp td rd=>?_
 ·rw[List.length_nil,Nat.zero_add]; exact bR hz
 ·have m3:More N { N.s with heap:=h',toks:=tk }:=⟨fun b o e=>kp b o (fun q=>aY (q▸cI e)) (fun q=>ni (q▸cI e)) (m2.k b o e),rfl,rfl⟩
  exact⟨rfl,z d (N.at _) _ hk (m3.aft sm) rfl aY (td.2.elim fun o q=>q.elim fun _ q=>q.elim fun _ q=>m3.pv sm aY q.1) ⟨_,td,rd⟩⟩
theorem aCj{v0:V}{v:PV}{K:V→Prop}(sm:Sm B.D N)(e:oK ((aO N.σ v0).bind fun l=>if l.length≤aU then some (V.dict l) else none) K)(rv:Val B N v0 v)
  (z:∀d Y a,K d→Aft B.D N noA Y→Y.σ=N.σ→¬ N.has a→Pv Y a→RC B.D Y a d→Q (.ref a) Y.s):Wp B G N (call (.type "dict") [v]) Q E :=
 fB sm (aR e) rv fun l x kvs e hx t rs=>by
  refine e02 (bI e) fun hl e=>?_
  subst hx
  refine kt_call_dict (dR t.1) t.2 (kM (bM rs) hl) fun h' dh sb=>?_
  have m:More N { N.s with heap:=h' }:=⟨fun b o e=>sb.extBut b o (fun q=>aY (q▸cI e)) (Heap.get?_push_of_some _ e),rfl,rfl⟩
  exact z _ (N.at _) _ e (m.aft sm) rfl aY (dh.elim fun o q=>q.elim fun _ q=>q.elim fun _ q=>m.pv sm aY q.1) ⟨_,⟨sm.one,dh⟩,cX (m.aft sm).le _ _ rs⟩
theorem aMo:aFd B u (.type "dict") .dict:=fun G N ds vs Q E K rm e0 sm r0 z=>uno e0 r0 fun d v hv e rv=>by
 subst hv
 have cp:oK ((aO N.σ d).bind fun l=>if l.length≤aU then some (V.dict l) else none) K→Wp B G N (call (.type "dict") [v]) Q E:=fun e=>aCj sm e rv z
 cases d with
 | list l =>
  refine e02 (bI (aR (bO e))) fun hz e=>?_
  refine e24 rv fun a arr e_2 wa il rs=>?_; subst e_2
  exact nV sm rm.hand il rs e hz fun d Y a hk f es n p r=>z _ Y a hk f es n p r
 | _=>exact cp e
theorem aPx{y:X}{xs:List X}{o:PE}{es:List PE}{apos pos:Pos}(hb:aZ o=true)(hl:(apos.endLine==pos.line)=true)(hn:es.length<29)(hs:es.all (fun e=>!isStarred e)=true)(h1:TE B u c y (fun env=>eval o env))
  (h3:TEs B u c xs (fun env=>spliced (backTo pos (starEach es env)))):TE B u c (.get y xs) (fun env=>eval (.Call (.Attribute o "get" apos) es [] pos) env):=fun G N Q E K H q z =>
 gY F.plainAttrs_dict F.slot_dict_get F.type_dict_get hb hl hn hs h1 h3 H q fun d Y w k1 a r=>by
  obtain⟨hd,k1⟩:=eQ k1
  refine⟨fB (K:=fun _=>True) a.sm (by cases e:aO Y.σ d with | none=>rw[e]at hd; exact nob hd | some l=>trivial) r fun l x kvs _ hx t rd=>hx▸kT t,_,k1,fun ds Z vs k2 a2 rs=>?_⟩
  refine fB a2.sm k2 (Val.on a2 r) fun l x kvs k2 hx t rd=>?_
  refine nnG fun nG=>?_; subst hx
  refine e22 (aNb k2) fun s dv e_2 k2=>?_; subst e_2
  obtain⟨vk,_,rfl,⟨n,tk,rfl,hz,rfl⟩,vv,_,rfl,rv,e⟩:=rs
  refine nG ?_; obtain rfl:=(e:_=[])
  exact call_meetsIn F.slot_dict_get t.2.typeIs F.entry_dict_get (F.args_dict_get_3 _ _ _) (meets_dict_get_default (SK B.D) x (strKind_is _ _ _ _) (dR t.1) vv) ⟨_,t.2.mapOf,
   z _ (Z.tk (Z.s.toks+1)) _ k2 ((a.trans a2).trans (bY (y:=Z) a2.sm (Z.s.toks+1))) (Val.on (bY (y:=Z) a2.sm (Z.s.toks+1)) (oI hz rd (fun h1 h2=>by refine rwS h1 (rwS h2 ?_); exact rv) fun d w h1 h2 r=>by refine rwS h1 (rwS h2 ?_); exact r))⟩
end
theorem aCa:∀(k:Nat) (l:List Nat),(∀c∈l,c<2097151)→zT k (fU l.reverse)=(l.take k).reverse
 | 0,_,_=>rfl
 | k+1,[],_=>rfl
 | k+1,x::r,h=>by
  rw[List.reverse_cons,gK,zT,if_neg (show ¬ fU r.reverse*2097152+(x+1)=0 from Nat.succ_ne_zero _),(gV (a:=fU r.reverse) (h x (List.mem_cons_self ..))).1,(gV (a:=fU r.reverse) (h x (List.mem_cons_self ..))).2,aCa k r fun c hc=>h c (List.mem_cons_of_mem _ hc),List.take_succ_cons,List.reverse_cons]
theorem aHe{x:Str}(h:strOk x=true):∀c∈x.cps.toList,c<2097151:=fun c hc=>Nat.lt_trans (of_decide_eq_true (List.all_eq_true.mp h c hc)) (by decide)
theorem aBp{x:Str}(h:strOk x=true)(k:Nat):zT k (aL x)=(x.cps.toList.reverse.take k).reverse:=by
 have:=aCa k x.cps.toList.reverse fun c hc=>aHe h c (List.mem_reverse.mp hc)
 rwa [List.reverse_reverse]at this
theorem vI{x:Str}(h:strOk x=true)(s:eU (aL x)=true):x.length≤1000:=by
 have s:=of_decide_eq_true s
 rw[aBp h,List.length_reverse,List.length_take,List.length_reverse]at s
 exact Nat.le_trans (Nat.le_of_eq Array.length_toList.symm) (Nat.le_of_not_lt fun q=>absurd (Nat.le_trans (Nat.le_min.mpr ⟨Nat.le_refl _,q⟩) s) (by decide))
theorem xB{x y:Str}(hy:strOk y=true)(s:eU (aL y)=true):aL (x++y)=zV (aL x) (aL y):=by
 have e:zT 1001 (aL y)=y.cps.toList:=by
  rw[aBp hy,List.take_of_length_le,List.reverse_reverse]
  refine rwS List.length_reverse (rwS Array.length_toList ?_)
  exact Nat.le_trans (vI hy s) (by decide)
 delta zV
 refine rwS e ?_
 show fU (x.cps++y.cps).toList=_
 refine rwS Array.toList_append ?_
 exact List.foldl_append
theorem lL{x y:Str}(hx:strOk x=true)(hy:strOk y=true):strOk (x++y)=true:=by
 show ((x.cps++y.cps).toList.all fun c=>decide (c<1114112))=true
 refine rwS Array.toList_append (rwS List.all_append ?_)
 exact Bool.and_eq_true_iff.mpr ⟨hx,hy⟩
theorem aKs(c:Char):c.toNat<1114112:=by
 have h:c.toNat.isValidChar:=c.valid
 delta Nat.isValidChar at h
 (first | lia | omega)
theorem aIg(k:Nat):strOk (Str.ofString (toString ((k:Nat):Int)))=true∧aL (Str.ofString (toString ((k:Nat):Int)))=fU (aCt k):=by
 delta strOk aL
 rw[KIN.signs_num]
 refine⟨?_,rfl⟩
 rw[List.all_map,List.all_eq_true]
 intro c _
 exact decide_eq_true (aKs c)
section
variable{B:Bd}{u:Nat}{c:Ck}{G:Ev}{N Y Z:Nx}{Q E:PV→Shared→Prop}{g:Gt}
noncomputable def TP(B:Bd)(u:Nat)(c:Ck)(x:X)(t:PE):Prop :=
 ∀(G:Ev) (N:Nx) (Q E:PV→Shared→Prop) (K:Nat→St→Prop),Go B u c G N→kX B G N x (fun d σ=>oK (aOi d) fun z=>K z σ) →
  (∀y t Y,K (aL y) Y.σ→Aft B.D N noA Y→strOk y=true→eU (aL y)=true→y.length≤sizeLine→Q (.str y t) Y.s)→Wp B G N (eval t G.env) Q E
theorem aIq{x:Str}{k:Nat}(h:x.length≤k)(hk:k≤1000000):x.length≤sizeLine:=bR (Nat.le_trans h hk)
theorem fN{x:Str}(h:strOk x=true)(s:eU (aL x)=true):x.length≤sizeLine:=aIq (vI h s) (by decide)
theorem aSf{x:Str}{z k:Nat}{p:Pos}(h1:strOk x=true)(h2:aL x=z):TP B u c (.cst (.str z)) (.Constant (.str x) k p):=fun G N Q E K H q y =>
 have w:=bI (show oK (if eU z then some z else none) (fun z=>K z N.σ) from q)
 wpAny_Constant_str (y x _ (N.tk _) (h2▸w.2) (H.toks _) h1 (h2▸w.1) (fN h1 (h2▸w.1)))
theorem aVb{x:X}{t:PE}{p:Pos}(h:TE B u c x (fun env=>eval t env)):TP B u c x (.FormattedValue t (-1) none p):=fun G N Q E K H q z =>
 FormattedValue_plain (h G N _ E _ H q fun d Y v k1 a r=>by
  have fin:=fun y t tk hk (h1:strOk y=true) (hs:eU (aL y)=true)=>z y t (Y.tk tk) hk (a.trans (bY a.sm tk)) h1 hs (fN h1 hs)
  cases d with
  | str k =>
   refine e23 r fun y t e_2 hy e_4=>?_; subst e_2; subst e_4
   refine e02 (bI (show oK (if eU (aL y) then some (aL y) else none) (fun z=>K z Y.σ) from k1)) fun hl k1=>?_
   exact formatField_str (fun t' tk=>fin y t' tk k1 hy hl) (fN hy hl)
  | int i =>
   refine e1 r fun t e_1=>?_; subst e_1
   refine e02 (bI (show oK (if (0≤i∧i≤1000000)∧eU (fU (aCt i.toNat))=true then some (fU (aCt i.toNat)) else none) (fun z=>K z Y.σ) from k1)) fun hi k1=>?_
   have hi':i=((i.toNat:Nat):Int):=(Int.toNat_of_nonneg hi.1.1).symm
   have hd:i.natAbs.log2<1920:=(Decidable.em (i.natAbs=0)).elim (fun h0=>by refine rwS h0 ?_; decide) fun h0=>Nat.lt_of_lt_of_le ((Nat.log2_lt h0).mpr (Nat.lt_of_le_of_lt (show i.natAbs≤1000000 by (first | lia | omega)) (show 1000000<2 ^ 20 by decide))) (by decide)
   refine e02 (aIg i.toNat) fun d1 d2=>?_
   rw[← hi']at d1 d2
   exact formatField_int_small hd (fin _ _ _ (d2▸k1) d1 (d2▸hi.2))
  | _=>exact False.elim k1)
theorem aEr{xs:List X}{es:List PE}(h:All2 (TP B u c) xs es):∀(G:Ev) (N:Nx) (out:Str) (Q E:PV→Shared→Prop) (K:Nat→St→Prop),Go B u c G N→kFs B.P B.T xs (aL out) G.ρ N.σ K→strOk out=true →
  (∀y t Y,K (aL y) Y.σ→Aft B.D N noA Y→strOk y=true→Q (.str y t) Y.s)→Wp B G N (joinParts out (evalEach es G.env)) Q E:=by
 induction h with
 | nil=>exact fun G N out Q E K H q ho z=>have w:=eQ q; joinParts_nil (z out _ (N.tk _) w.2 (H.toks _) ho) (fN ho w.1)
 | cons h1 h2 ih=>exact fun G N out Q E K H q ho z=>joinParts_cons (h1 G N _ E _ H q fun y t Y k1 a hy hs hyl=>by
   rw[← xB hy hs]at k1
   exact⟨fN (lL ho hy) (eQ k1).1,ih G Y (out++y) Q E K (H.to a) (eQ k1).2 (lL ho hy) fun y2 t2 Y2 k2 a2 h2=>z y2 t2 Y2 k2 (a.trans a2) h2⟩)
theorem aNg{x1 x2:X}{xs:List X}{e1 e2:PE}{es:List PE}{p:Pos}(h1:TP B u c x1 e1)(h2:TP B u c x2 e2)(h:All2 (TP B u c) xs es):TE B u c (.fstr (x1::x2::xs)) (fun env=>eval (.JoinedStr (e1::e2::es) p) env):=fun G N Q E K H q z =>
 JoinedStr_many (aEr (.cons h1 (.cons h2 h)) G N Str.empty Q E _ H q rfl fun y t Y k1 a hy=>z _ Y _ k1 a ⟨y,t,rfl,hy,rfl⟩)
end
noncomputable def Nx.wis(y:Nx)(P:Addr→Prop):Nx:=⟨y.μ,fun a=>y.W a∨P a,y.σ,y.s⟩
theorem Le.wis{y:Nx}{P:Addr→Prop}:Le y (y.wis P):=⟨fun _ _ w e=>⟨e,.inl w⟩,fun _ _ e=>e⟩
theorem Aft.wis{D:Wd}{F P:Addr→Prop}{x y:Nx}(a:Aft D x F y)(p:∀b,P b→Pv y b)(h:∀b,P b→¬ x.has b):Aft D x F (y.wis P) :=
 have m:=a.sm
 ⟨⟨m.gi,m.big.elim fun a h=>⟨a,h.1,.inl h.2⟩,m.len,m.nodup,m.new,m.apart,fun a w=>w.elim (m.wk a) fun e=>(p a e).nc,fun a w=>w.elim (m.wd a) fun e=>(p a e).lt,fun a h=>.inl (m.cs a h),m.lt,fun n o q e1 e2=>qB Le.wis (fun _ e=>e) (fun _ e=>e) (m.obj n o q e1 e2)⟩,
  a.le.trans Le.wis,a.kp,a.ex,a.mn,fun c w=>w.elim (a.wn c) fun e=>.inr (h c e),a.gens,a.os⟩
section
variable{B:Bd}{u:Nat}{c:Ck}{G:Ev}{N Y Z:Nx}{Q E:PV→Shared→Prop}{g:Gt}
theorem aSy{x:X}{t:PE}{p:Pos}(h:TE B u c x (fun env=>eval t env)):TE B u c (.not x) (fun env=>eval (.UnaryOp .Not t p) env):=fun G N Q E K H q z =>
 UnaryOp_ (h G N _ E _ H q fun d Y v k a r=>by
  refine e12 (jP k) fun b e_1 k=>?_; subst e_1
  obtain rfl:=(r:v=.bool b)
  exact not_of (wpAny_truthy_bool (z (.bool (!b)) Y _ k a rfl)))
theorem aSq{x:X}{t:PE}{p:Pos}(h:TB B u c x (fun env=>isTrue t env (eval t env))):TB B u c (.not x) (fun env=>isTrue (.UnaryOp .Not t p) env (eval (.UnaryOp .Not t p) env)):=fun G N Q E K H q z =>
 wpAny_isTrue_Not (h G N _ E (fun b σ=>K (!b) σ) H q fun b Y k a=>z (!b) Y k a)
theorem aQd:hM B u (.builtin "abs") .abs:=fun G N ds vs Q E K rm e0 sm r0 z=>uno e0 r0 fun d v hv e rv=>by
 refine e23 (bD (bO e) rv) fun i t e_2 e_3 e=>?_; subst e_2; subst e_3
 subst hv
 exact call_abs_int fun w tk=>z _ (N.tk tk) _ e (bY sm tk) rfl ⟨w,rfl⟩
theorem aAc:(([("A",0),("B",1),("f",2)]:List (Str × Nat)).all fun q=>(PySem.Builtin.Str.occurrences ("ABf":Str) q.1 0 ("ABf":Str).length 1 == [q.2])&&(strOk q.1))=true:=by decide +kernel
theorem aJg{z:Nat}{x:Str}{K:V→Prop}(e:oK (zD z) K)(h1:aL x=z)(h2:strOk x=true):∃k,K (.int (k:Nat))∧PySem.Builtin.Str.occurrences ("ABf":Str) x 0 ("ABf":Str).length 1=k::[]:=by
 have key:∀q∈([("A",0),("B",1),("f",2)]:List (Str × Nat)),z=aL q.1→K (.int (q.2:Nat))→∃k,K (.int (k:Nat))∧PySem.Builtin.Str.occurrences ("ABf":Str) x 0 ("ABf":Str).length 1=k::[]:=fun q hq hz hk=>by
  refine rwS (cN h2 (aA (List.all_eq_true.mp aAc q hq)) (h1.trans hz)) ?_
  exact⟨q.2,hk,eq_of_beq (aB (List.all_eq_true.mp aAc q hq))⟩
 delta zD at e
 refine vW e (fun hc k=>key ("A",0) (by decide) hc k) fun _ e=>vW e (fun hc k=>key ("B",1) (by decide) hc k) fun _ e=>vW e (fun hc k=>key ("f",2) (by decide) hc k) fun _ e=>False.elim e
theorem aFs{e:X}{f:PE}{k:Nat}{cp apos pos:Pos}(hl:(apos.endLine==pos.line)=true)(hs:isStarred f=false)(h:TE B u c e (fun env=>eval f env)):TE B u c (.sfind e) (fun env=>eval (.Call (.Attribute (.Constant (.str "ABf") k cp) "index" apos) [f] [] pos) env):=fun G N Q E K H q z =>
 gY (y:=.cst (.str (aL "ABf"))) (xs:=[e]) (es:=[f]) F.plainAttrs_str F.slot_str_index F.type_str_index rfl hl (Nat.le_of_ble_eq_true rfl) (by refine rwS List.all_cons (rwS hs ?_); rfl) (aHi (x:="ABf") (by decide +kernel) rfl) (eP hs h eY) (J:=fun d σ=>d=.str (aL "ABf")∧kE B.P B.T e G.ρ σ fun v σ=>oK (yC v) fun w=>K w σ) H ⟨rfl,q⟩ fun d Y v k a r=>by
  refine nnG fun nG=>?_; obtain⟨rfl,k⟩:=k
  refine e23 r fun x t e_2 hx rx=>?_; subst e_2
  cases cN hx (show strOk "ABf"=true by decide +kernel) rx
  refine nG ?_; refine⟨⟨typeIs_str _ _ _,fun _ e=>nomatch e⟩,fun ds σ=>oK (one ds yC) fun w=>K w σ,k,fun ds Z vs k a2 r2=>uno k r2 fun d v hv e rv=>?_⟩
  subst hv
  cases d with
  | str z0 =>
   refine e23 rv fun y t2 e_2 hy ry=>?_; subst e_2
   refine e12 (aJg e ry hy) fun i k3 ho=>?_
   exact SC.index ho (z _ (Z.tk _) _ k3 ((a.trans a2).trans (bY a2.sm _)) ⟨_,rfl⟩)
  | _=>exact False.elim e
theorem aFy{D:Wd}{N Z:Nx}{h:Heap}(hz:Z.s.heap=h)(le:Le N Z):∀{l:List (V × V)} {kvs:List (Str × PV)} {as:List Addr},RVd D N l kvs→as.length=kvs.length→(∀a∈as,Z.W a) →
  (∀(j:Nat) (a:Addr),as[j]?=some a→∃key k x,kvs[j]?=some (k,x)∧(SK D).is k key=true∧h.get? a=some { cls:=.type "tuple",data:=.seq #[key,x] })→RVs D Z (l.map fun (q:V × V)=>V.tup [q.1,q.2]) (as.map Value.ref):=by
 intro l
 induction l with
 | nil =>
  intro kvs as r hl _ _
  obtain rfl:=(show kvs=[] from r)
  obtain rfl:=List.length_eq_zero_iff.mp hl
  rfl
 | cons kd l ih =>
  intro kvs as r hl hw hp
  refine e34 r fun n v t e_3 hk r1 r2=>?_; subst e_3
  cases as with
  | nil=>cases hl
  | cons a as =>
   refine nnG fun nG=>?_; refine e33 (hp 0 a rfl) fun key k x e1 e2 e3=>?_
   cases (show some (n,v)=some (k,x) from e1)
   obtain⟨tk,rfl⟩:=Value.isStrOf_shape e2
   refine nG ?_; exact⟨_,_,rfl,⟨a,_,rfl,hw a (List.mem_cons_self ..),⟨0,hz▸e3⟩,⟨_,_,rfl,hk.1▸⟨n,tk,rfl,hk.2,rfl⟩,_,_,rfl,cL le _ _ r1,rfl⟩⟩,
    ih r2 (Nat.succ.inj hl) (fun a m=>hw a (List.mem_cons_of_mem _ m)) fun j a e=>hp (j+1) a e⟩
theorem aIb{y:X}{o:PE}{x:Str}{np ap p1 pos:Pos}(F:Facts B g)(BB:BiOk B.D c x (.type "list"))(hb:aZ o=true)(hl:(ap.endLine==p1.line)=true)(h:TE B u c y (fun env=>eval o env)) :
  TE B u c (.bi .items [y]) (fun env=>eval (.Call (.Name x np) [.Call (.Attribute o "items" ap) [] [] p1] [] pos) env):=fun G N Q E K H q z=>by
 refine wpAny_bind (wpAny_Name (gP H F BB.k BB.g BB.b (gC rfl rfl ?_)) BB.d)
 show wpAny _ G.A (spliced (backTo pos (starEach [_] G.env))) _ E N.s
 refine rwS (aX rfl) ?_
 refine Calls.spliced_cons (gY (xs:=[]) PySem.F.plainAttrs_dict PySem.F.slot_dict_items PySem.F.type_dict_items hb hl (by decide) rfl h eY (J:=fun v σ=>oK ((aO σ v).bind fun l=>if l.length≤aU then some (V.list (l.map fun (q:V × V)=>V.tup [q.1,q.2])) else none) fun w=>K w σ) H q fun d Y v k a r=>?_)
 refine⟨fB (K:=fun _=>True) a.sm (iG (aR k) fun l hl _=>by refine rwS hl ?_; trivial) r fun l x kvs _ hx t rd=>hx▸kT t,fun l' σ=>(oK ((aO σ d).bind fun l=>if l.length≤aU then some (V.list (l.map fun (q:V × V)=>V.tup [q.1,q.2])) else none) fun w=>K w σ)∧l'=[],⟨k,rfl⟩,fun ds Z vs k a2 r2=>?_⟩
 refine fB a2.sm (aR k.1) (Val.on a2 r) fun l b kvs k0 hx t rs=>?_
 subst hx
 refine e02 (bI k0) fun hz k0=>?_
 cases k.2
 obtain rfl:=(r2:vs=[])
 refine call_meetsIn PySem.F.slot_dict_items t.2.typeIs PySem.F.entry_dict_items (PySem.F.args_dict_items_1 _) (meets_dict_items (SK B.D) b (dR t.1)) ⟨⟨kvs,t.2⟩,?_⟩
 refine e1 t.2.dictAt fun ep da=>?_
 refine wpAny_pure ?_
 have m:=(More.refl Z).push { cls:=.type "dict_items",data:=.fields #[.ref b] }
 refine kdx_call (knd:=SK B.D) (kvs:=kvs) (ep:=ep) H.rm.hand ⟨_,bB rfl,rfl,rfl⟩ (da.push _) (kM (bM rs) hz) fun h' tk acc cc as hk hS hl hG hacc=>?_
 have m2:More Z { Z.s with heap:=h',toks:=tk }:=⟨fun b o e=>hk b o (m.k b o e),rfl,rfl⟩
 have hs:∀{b:Nat},Z.s.heap.objs.size≤b→¬ Z.has b:=fun hb h=>absurd (jF h) (Nat.not_lt.mpr hb)
 have sz:Z.s.heap.objs.size≤(Z.s.heap.push { cls:=.type "dict_items",data:=.fields #[.ref b] }).objs.size:=by rw[Heap.size_push]; exact Nat.le_succ _
 generalize (Z.s.heap.push { cls:=.type "dict_items",data:=.fields #[.ref b] }).objs.size=S at hS hG sz
 have pv:∀b,(b∈as∨b=S)→Pv (Z.at { Z.s with heap:=h',toks:=tk }) b∧¬ Z.has b:=fun b hb=>hb.elim (fun hb=>by
  refine e1 (List.mem_iff_getElem?.mp hb) fun j hj=>?_
  refine e33 (hG.pairs j b hj) fun _ _ _ _ _ e=>?_
  exact⟨m2.pv a2.sm (hs (Nat.le_trans sz (Nat.le_of_lt (hG.above b hb)))) e,(hs (Nat.le_trans sz (Nat.le_of_lt (hG.above b hb))))⟩) fun hb=>by
  exact hb▸⟨m2.pv a2.sm (hs sz) hS,(hs sz)⟩
 have fw:=(m2.aft a2.sm).wis (P:=fun b=>b∈as∨b=S) (fun b h=>(pv b h).1) (fun b h=>(pv b h).2)
 refine z _ ((Z.at { Z.s with heap:=h',toks:=tk }).wis fun b=>b∈as∨b=S) _ k0 ((a.trans a2).trans fw) ⟨S,acc,rfl,.inr (.inr rfl),⟨cc,hS⟩,?_⟩
 refine rwS hacc ?_
 exact aFy rfl fw.le rs hl (fun a m=>.inr (.inl m)) hG.pairs
end
theorem nK(f:Nat→Int):∀n,preSum f (n+1)=f 0+preSum (fun i=>f (i+1)) n
 | 0=>Int.add_comm ..
 | n+1=>(congrArg (· + f (n+1)) (nK f n)).trans (Int.add_assoc ..)
noncomputable def aWm(i:Int)(f:Nat→Int):Nat→Int
 | 0=>i
 | n+1=>f n
section
variable{B:Bd}{u:Nat}{c:Ck}{G:Ev}{N Y Z:Nx}{Q E:PV→Shared→Prop}{g:Gt}
theorem aEk:∀{l:List V} {vs:List PV} {a:Int} {K:V→Prop},oK (yF a l) K→Vals B N l vs→∃f:Nat→Int,(∀(i:Nat) v,vs[i]?=some v→∃t,v=.int (f i) t)∧K (.int (a+preSum f vs.length))
 | [],vs,a,K,e,r=>by
  obtain rfl:=(show vs=[] from r)
  exact⟨fun _=>0,fun i v h=>(nos h),(Int.add_zero a).symm▸e⟩
 | d::l,vs,a,K,e,⟨v,t,e1,r1,r2⟩=>by
  refine e23 (bD (B:=B) (N:=N) (aR (show oK ((cY d).bind fun i=>yF (a+i) l) K from e)) r1) fun i tk e2 hd e=>?_
  refine e12 (aEk (l:=l) e r2) fun f h1 h2=>?_
  subst e1
  refine⟨aWm i f,fun j v h=>match j,h with
   | 0,h=>⟨tk,(Option.some.inj h).symm.trans e2⟩
   | j+1,h=>h1 j v h,?_⟩
  rw[List.length_cons,nK,← Int.add_assoc]
  exact h2
theorem aUr:hM B u (.builtin "sum") .sum:=fun G N ds vs Q E K rm e0 sm r0 z=>uno e0 r0 fun d v hv e rv=>by
 subst hv
 cases d with
 | list l =>
  refine e24 rv fun a arr e_2 wa t rs=>?_; subst e_2
  refine e12 (aEk e rs) fun f h1 h2=>?_
  rw[Int.zero_add,Array.length_toList]at h2
  have lt:a<N.s.heap.objs.size:=t.elim fun k e=>Heap.lt_size e
  have hne:a≠N.s.heap.objs.size:=Nat.ne_of_lt lt
  refine call_sum_walkG (wpAny_pyIter_list t.list ⟨_,_,_,_,_,_,f,rfl,Walks.list (show G.A.in1.handled=none from rm.hand) _ a hne arr,⟨⟨_,bB rfl,rfl,rfl⟩,t.list.push _⟩,fun b hb=>?_,fun i v h=>h1 i v (Array.getElem?_toList.trans h),fun h' tk t' hk=>?_⟩)
  ·rw[Heap.size_push]
   exact(List.mem_cons.mp hb).elim (fun e=>e▸Nat.lt_succ_self _) fun hb=>List.mem_singleton.mp hb▸Nat.lt_succ_of_lt lt
  ·have m:More N { N.s with heap:=h',toks:=tk }:=⟨fun b o e=>hk b o (fun hm=>absurd (List.mem_singleton.mp hm) (Nat.ne_of_lt (Heap.lt_size e))) (Heap.get?_push_of_some _ e),rfl,rfl⟩
   exact z _ (N.at _) _ h2 (m.aft sm) rfl ⟨t',rfl⟩
 | _=>exact False.elim e
end
end Mine.Internal
namespace Mine.Internal
open PySem PySem.W PyProof.Rows
noncomputable def Fr(c:Ck)(env:bA)(b:Addr):Prop:=b=env.locals∨∃x,(c.own x=true∧c.sc.names.lookup x=some .cell)∧env.cells.lookup x=some b
structure Gs(B:Bd)(u:Nat)(c:Ck)(G:Ev)(N:Nx):Prop where
 go:Go B u c G N
 pv:∀b,Fr c G.env b→Pv N b
 ns:∃m,N.s.heap.Ns G.env.locals m
 cl:∀x,c.own x=true→c.sc.names.lookup x=some .cell→∃b v,G.env.cells.lookup x=some b∧N.s.heap.IsCell b v
 ap:∀x y b,c.own x=true→c.sc.names.lookup x=some .cell→G.env.cells.lookup x=some b→G.env.cells.lookup y=some b→x=y
structure Nm(c:Ck)(x:Str)(i:Nat):Prop where
 at_:c.names.lookup x=some i
 inj:∀y,c.names.lookup y=some i→y=x
 kind:c.sc.names.lookup x=some .local∨(c.own x=true∧c.sc.names.lookup x=some .cell)
noncomputable def Ev.set(G:Ev)(i:Nat)(d:V):Ev:=⟨G.env,G.A,G.ρ.set i (some d)⟩
noncomputable def Ev.to(G:Ev)(ρ:aP):Ev:=⟨G.env,G.A,ρ⟩
section
variable{B:Bd}{u:Nat}{c:Ck}{G:Ev}{N Y Z:Nx}{i:Nat}{x:Str}{d:V}{v:PV}{E:PV→Shared→Prop}
theorem aLe{h:Heap}{a:Addr}{mm:Str→Option PV}{v:Option PV}(x:h.Ns a mm)(y:h.IsCell a v):False:=by
 refine e33 x fun o es ep ho hd _=>?_
 refine e12 y fun o' ho' hd'=>?_
 cases ho.symm.trans ho'
 cases hd.symm.trans hd'
theorem uK{h:Heap}{a:Addr}{m:Str→Option PV}(n:h.Ns a m):∃o,h.get? a=some o:=n.elim fun o q=>q.elim fun _ q=>q.elim fun _ q=>⟨o,q.1⟩
theorem qG{h:Heap}{a:Addr}{v:Option PV}(n:h.IsCell a v):∃o,h.get? a=some o:=n.elim fun o q=>⟨o,q.1⟩
theorem Aft.mono{D:Wd}{F F':Addr→Prop}(a:Aft D N F Z)(h:∀b,F b→F' b):Aft D N F' Z:=⟨a.sm,a.le,fun b o e n f=>a.kp b o e n fun q=>f (h b q),a.ex,a.mn,a.wn,a.gens,a.os⟩
theorem pN{ρ:aP}{o:Option V}{j:Nat}{w:V}(e:(ρ.set i o)[j]?=some (some w)):(i=j∧o=some w)∨(i≠j∧ρ[j]?=some (some w)):=by
 by_cases h:i=j
 ·subst h
  exact .inl ⟨rfl,by rw[List.getElem?_set]at e; simp at e; exact e.2⟩
 ·exact .inr ⟨h,(List.getElem?_set_ne h).symm.trans e⟩
theorem Gs.to(H:Gs B u c G N)(a:Aft B.D N noA Y):Gs B u c G Y :=
 ⟨H.go.to a,fun b f=>(H.pv b f).go a,H.ns.elim fun m n=>⟨m,n.at fun o e=>a.old (H.pv _ (.inl rfl)).nc e⟩,fun x w h=>(H.cl x w h).elim fun b q=>q.elim fun v q=>⟨b,v,q.1,q.2.elim fun o r=>⟨o,a.old (H.pv _ (.inr ⟨x,⟨w,h⟩,q.1⟩)).nc r.1,r.2⟩⟩,H.ap⟩
theorem sW{Q:Unit→Shared→Prop}{o:Option V}(H:Gs B u c G N)(nm:Nm c x i)(rv:∀d,o=some d→Val B N d v)(z:∀Y,Y.σ=N.σ→Aft B.D N (Fr c G.env) Y→Gs B u c (G.to (G.ρ.set i o)) Y→At Y.s.heap G.env x v→Q () Y.s):Wp B G N (storeName G.env x v) Q E:=by
 refine e1 H.ns fun mm ns=>?_
 have kd:=H.go.eo.kd
 have go:∀{h':Heap} {b:Addr} {tk:Nat},Heap.SameBut b N.s.heap h'→Fr c G.env b→(∃o,h'.get? b=some o)→(∃m,h'.Ns G.env.locals m)→(∀y b v,c.own y=true→c.sc.names.lookup y=some .cell→G.env.cells.lookup y=some b→N.s.heap.IsCell b v→∃v',h'.IsCell b v') →
   (∀y w,y≠x→At N.s.heap G.env y w→At h' G.env y w)→At h' G.env x v→Q () { N.s with heap:=h',toks:=tk }:=fun {h' b tk} sb hb he hns hc hat hx=>by
  have a:=Aft.turn1 (t:=tk) H.go.sm (H.pv b hb) (fun c o n e=>sb.extBut c o n e) he
  exact z (N.at _) rfl (a.mono fun c e=>e▸hb) ⟨⟨H.go.rm,H.go.eo.go a,fun y j d' h1 h2 h3=>by
   rcases pN h3 with ⟨rfl,e⟩ | ⟨hj,h3⟩
   ·cases nm.inj y h1
    exact⟨v,hx,Val.on (B:=B) a (rv _ e)⟩
   ·refine e12 (H.go.fe y j d' h1 h2 h3) fun w at_ r=>?_
    exact⟨w,hat y w (fun e=>hj (Option.some.inj (nm.at_.symm.trans (e▸h1)))) at_,Val.on (B:=B) a r⟩,a.sm⟩,fun b f=>(H.pv b f).go a,hns,fun y w hy=>(H.cl y w hy).elim fun b q=>q.elim fun v q=>(hc y b v w hy q.1 q.2).elim fun v' r=>⟨b,v',q.1,r⟩,H.ap⟩ hx
 have nc:∀b w,N.s.heap.IsCell b w→b≠G.env.locals:=fun b w ic e=>by subst e; exact aLe ns ic
 rcases nm.kind with hk | ⟨hoc,hk⟩
 ·have k0:=(kd x).trans hk
  refine wpAny_storeName_local k0 ns (fun h' ns' sb=>?_) (by refine rwS H.go.eo.kind ?_; rfl)
  refine go sb (.inl rfl) (uK ns') ⟨_,ns'⟩ (fun y b w _ _ hb ⟨o,ho,r⟩=>⟨w,o,by refine rwS (sb.2 b (nc b _ ⟨o,ho,r⟩)) ?_; exact ho,r⟩) (fun y w hy at_=>?_) (.inl ⟨k0,_,ns',if_pos rfl⟩)
  rcases at_ with ⟨k1,m1,n1,e1⟩ | ⟨k1,cc,e1,o,ho,r⟩
  ·exact .inl ⟨k1,_,ns',by refine rwS (if_neg hy) (rwS (ns.agree n1 y) ?_); exact e1⟩
  ·exact .inr ⟨k1,cc,e1,o,by refine rwS (sb.2 cc (nc cc _ ⟨o,ho,r⟩)) ?_; exact ho,r⟩
 ·refine e22 (H.cl x hoc hk) fun b v0 k2 k3=>?_
  have k0:=(kd x).trans hk
  refine wpAny_storeName_cell H.go.eo.kind k0 k2 k3 fun h' ic' sb=>?_
  have nl:G.env.locals≠b:=(nc b _ k3).symm
  refine go (tk:=N.s.toks) sb (.inr ⟨x,⟨hoc,hk⟩,k2⟩) (qG ic') ⟨mm,ns.at fun o e=>(sb.2 _ nl).trans e⟩ (fun y b' w' _ _ hb ⟨o,ho,r⟩=>?_) (fun y w' hy at_=>?_) (.inr ⟨.inl k0,b,k2,ic'⟩)
  ·by_cases hb':b'=b
   ·subst hb'; exact⟨_,ic'⟩
   ·exact⟨w',o,by refine rwS (sb.2 b' hb') ?_; exact ho,r⟩
  ·rcases at_ with ⟨k1',m1,n1,e1⟩ | ⟨k1',cc,e1,o,ho,r⟩
   ·exact .inl ⟨k1',m1,n1.at (fun o e=>(sb.2 _ nl).trans e),e1⟩
   ·exact .inr ⟨k1',cc,e1,o,by refine rwS (sb.2 cc (fun e=>by subst e; exact hy (H.ap x y cc hoc hk k2 e1).symm)) ?_; exact ho,r⟩
theorem gM{Q:Unit→Shared→Prop}(H:Gs B u c G N)(nm:Nm c x i)(rv:Val B N d v)(z:∀Y,Y.σ=N.σ→Aft B.D N (Fr c G.env) Y→Gs B u c (G.set i d) Y→Q () Y.s):Wp B G N (storeName G.env x v) Q E :=
 sW (o:=some d) H nm (fun _ e=>Option.some.inj e▸rv) fun Y e a g _=>z Y e a g
noncomputable def OutOk(B:Bd)(u:Nat)(c:Ck)(G:Ev)(N:Nx)(K:Out→Prop)(Q:Flow→Shared→Prop):Prop :=
 (∀ρ Y,K (.next ρ Y.σ)→Aft B.D N (Fr c G.env) Y→Gs B u c (G.to ρ) Y→Q .next Y.s)∧∀d Y v,K (.ret d Y.σ)→Aft B.D N (Fr c G.env) Y→Val B Y d v→Q (.ret v) Y.s
noncomputable def TS(B:Bd)(u:Nat)(c:Ck)(x:S)(t:bA→Sem Flow):Prop :=
 ∀(G:Ev) (N:Nx) (Q:Flow→Shared→Prop) (E:PV→Shared→Prop) (K:Out→Prop),Gs B u c G N→kS B.P B.T x G.ρ N.σ K→OutOk B u c G N K Q→Wp B G N (t G.env) Q E
noncomputable def TSs(B:Bd)(u:Nat)(c:Ck)(x:List S)(t:bA→Sem Flow):Prop :=
 ∀(G:Ev) (N:Nx) (Q:Flow→Shared→Prop) (E:PV→Shared→Prop) (K:Out→Prop),Gs B u c G N→kSs B.P B.T x G.ρ N.σ K→OutOk B u c G N K Q→Wp B G N (t G.env) Q E
theorem OutOk.after{K:Out→Prop}{Q:Flow→Shared→Prop}{ρ:aP}(h:OutOk B u c G N K Q)(a:Aft B.D N (Fr c G.env) Y):OutOk B u c (G.to ρ) Y K Q:=⟨fun ρ Z k b g=>h.1 ρ Z k (a.trans b) g,fun d Z v k b r=>h.2 d Z v k (a.trans b) r⟩
theorem aKb:TSs B u c [] (fun env=>execs [] env):=fun G N Q E K H q z=>wpAny_execs_nil (z.1 G.ρ N q (.refl H.go.sm) H)
theorem aFx{x:S}{xs:List S}{st:Stmt}{r:List Stmt}(h1:TS B u c x (fun env=>exec st env))(h2:TSs B u c xs (fun env=>execs r env)):TSs B u c (x::xs) (fun env=>execs (st::r) env):=fun G N Q E K H q z =>
 wpAny_execs_cons (h1 G N _ E _ H q ⟨fun ρ Y k1 a H1=>h2 (G.to ρ) Y Q E K H1 k1 (z.after a),fun d Z v k1 a rv=>z.2 d Z v k1 a rv⟩)
theorem aUt{x:X}{t:PE}{pos:Pos}(h:TE B u c x (fun env=>eval t env)):TS B u c (.ret x) (fun env=>exec (.Return (some t) pos) env):=fun G N Q E K H q z =>
 wpAny_Return_some (h G N _ E _ H.go q fun d Z v k1 a r=>z.2 d Z v k1 a.up r)
theorem aHp{t:bA→Sem Flow}:TS B u c .raise t:=fun G N Q E K H q z=>False.elim q
theorem aKe{x:X}{t:PE}{pos:Pos}(h:TE B u c x (fun env=>eval t env))(hs:∀env:bA,env.scope=c.sc→swapsWith t none pos.line env=pure false):TS B u c (.expr x) (fun env=>exec (.Expr t pos) env):=fun G N Q E K H q z =>
 wpAny_Expr_any (h G N _ E _ H.go q fun d Z v k1 a r=>z.1 G.ρ Z k1 a.up (H.to a)) (by delta interactive; refine rwS H.go.eo.kind ?_; rfl) (hs _ H.go.eo.sc)
theorem aSu{x:X}{s1 s2:List S}{t:PE}{body orelse:List Stmt}{pos:Pos}(h:TB B u c x (fun env=>isTrue t env (eval t env)))(h1:TSs B u c s1 (fun env=>execs body env))(h2:TSs B u c s2 (fun env=>execs orelse env)) :
  TS B u c (.ite x s1 s2) (fun env=>exec (.If t body orelse pos) env):=fun G N Q E K H q z =>
 wpAny_If (h G N _ E _ H.go q fun b Z k1 a=>match b,k1 with
  | true,k1=>h1 G Z Q E K (H.to a) k1 (z.after (ρ:=G.ρ) a.up)
  | false,k1=>h2 G Z Q E K (H.to a) k1 (z.after (ρ:=G.ρ) a.up))
theorem aJn{x:X}{y:Str}{t:PE}{py pos:Pos}(nm:Nm c y i)(h:TE B u c x (fun env=>eval t env))(hs:∀env:bA,env.scope=c.sc→swapsWith t (some (.Name y py)) pos.line env=pure false) :
  TS B u c (.asg (.name i) x) (fun env=>exec (.Assign [.Name y py] t pos) env):=fun G N Q E K H q z =>
 wpAny_Assign_Name (h G N _ E _ H.go q fun d Z v k1 a r=>gM (H.to a) nm r fun Y es b H2=>z.1 (G.set i d).ρ Y (by refine rwS es ?_; exact k1) (a.up.trans b) H2) (hs _ H.go.eo.sc)
theorem zN{c:aP→St→(Bool→St→Prop)→Prop}{body:aP→St→(Out→Prop)→Prop}{n:Nat}{ρ:aP}{σ:St}{k:Out→Prop}(h:kWhile c body n ρ σ k):oP c body n ρ σ k:=by
 delta kWhile at h; exact h
theorem aHf{x:X}{b:List S}{t:PE}{body:List Stmt}{pos:Pos}(h:TB B u c x (fun env=>isTrue t env (eval t env)))(h1:TSs B u c b (fun env=>execs body env)) :
  TS B u c (.while_ x b) (fun env=>exec (.While t body [] pos) env):=fun G N Q E K H q z =>
 wpAny_While (codeAny_whileLoop (I:=fun k s1=>∃ρ Y,s1=Y.s∧Aft B.D N (Fr c G.env) Y∧oP (fun ρ σ k=>kE B.P B.T x ρ σ fun t σ=>oK t.truthy fun t=>k t σ) (fun ρ σ k=>kSs B.P B.T b ρ σ k) k ρ Y.σ K∧Gs B u c (G.to ρ) Y) (fun k s1 I=>by
  refine e24 I fun ρ Y e_2 a q H=>?_; subst e_2
  cases k with
  | zero=>exact False.elim q
  | succ k=>exact h (G.to ρ) Y _ _ _ H.go q fun t Z k1 a2=>match t,k1 with
   | false,k1=>wpAny_execs_nil (z.1 ρ Z k1 (a.trans a2.up) (H.to a2))
   | true,k1=>h1 (G.to ρ) Z _ _ _ (H.to a2) k1 ⟨fun ρ2 Y2 k2 a3 H2=>⟨k,Nat.lt_succ_self k,ρ2,Y2,rfl,(a.trans a2.up).trans a3,k2,H2⟩,fun d Z2 v k2 a3 rv=>z.2 d Z2 v k2 ((a.trans a2.up).trans a3) rv⟩) 5000 ⟨G.ρ,N,rfl,.refl H.go.sm,zN q,H⟩)
end
end Mine.Internal
namespace Mine.Internal
open PySem PySem.W PyProof.Rows PySem.Calls
theorem lookup_cons{k f:Nat}{v:V}{r:List (Nat × V)}:((k,v)::r).lookup f=if f=k then some v else r.lookup f:=by
 refine rwS List.lookup_cons ?_
 by_cases h:f=k
 ·subst h; exact rwS BEq.rfl (rwS (if_pos rfl) rfl)
 ·exact rwS (if_neg h) (rwS (beq_eq_false_iff_ne.mpr h) rfl)
theorem wR{f g:Nat}{v:V}:∀{fs:List (Nat × V)},gD (mD fs f v) g=if g=f then some v else gD fs g
 | []=>lookup_cons
 | (k,w)::r=>by
  unfold mD gD
  refine rwS lookup_cons ?_
  by_cases hk:k=f
  ·subst hk
   refine rwS (if_pos rfl) (rwS lookup_cons ?_)
   by_cases h:g=k
   ·exact rwS (if_pos h) (rwS (if_pos h) rfl)
   ·exact rwS (if_neg h) (rwS (if_neg h) (rwS (if_neg h) rfl))
  ·refine rwS (if_neg hk) (rwS lookup_cons (rwS (show List.lookup g (mD r f v)=_ from wR (fs:=r)) ?_))
   by_cases h:g=k
   ·subst h; exact rwS (if_pos rfl) (rwS (if_neg hk) (rwS (if_pos rfl) rfl))
   ·refine rwS (if_neg h) (rwS (if_neg h) ?_); rfl
theorem vL{f:Nat}{v:V}:∀{fs:List (Nat × V)},(mD fs f v).length=if (gD fs f).isSome then fs.length else fs.length+1
 | []=>rfl
 | (k,w)::r=>by
  unfold mD gD
  refine rwS lookup_cons ?_
  by_cases hk:k=f
  ·subst hk
   refine rwS (if_pos rfl) (rwS (if_pos rfl) ?_); rfl
  ·refine rwS (if_neg hk) (rwS (if_neg (Ne.symm hk)) (rwS List.length_cons (rwS (vL (fs:=r)) ?_)))
   show _=if (gD r f).isSome=true then _ else _
   by_cases h:(gD r f).isSome=true
   ·refine rwS (if_pos h) (rwS (if_pos h) ?_); rfl
   ·refine rwS (if_neg h) (rwS (if_neg h) ?_); rfl
theorem wG{K:Frag}{C:Addr}{x:Str}(h:aAi K C x=true):takerIn K C x=some none:=by
 have h:yI K (findIn K (.ref C) x)=true:=h
 show (findIn K (.ref C) x).bind _=_
 cases e:findIn K (.ref C) x with
 | none=>rw[e]at h; exact nob h
 | some o=>cases o with
  | none=>rfl
  | some a =>
   rw[e]at h
   have h:(takesIn K a==some false&&(specialIn K a "__get__").isSome)=true:=h
   show (takesIn K a).map _=_
   refine rwS (show takesIn K a=some false from beq_iff_eq.mp (aB h)) ?_; rfl
section
variable{D:Wd}{N:Nx}
noncomputable def Nx.ob(N:Nx)(k:Nat)(o:SObj)(s:Shared):Nx:=⟨N.μ,N.W,N.σ.set k o,s⟩
theorem aFa{μ:Mp}{k j:Nat}{p q:Addr × Addr}(nd:(μ.map (·.2)).Nodup)(h1:μ[k]?=some p)(h2:μ[j]?=some q)(e:p.2=q.2):k=j:=by
 refine(List.getElem?_inj (l:=μ.map (·.2)) ?_ nd).mp ?_
 ·rw[List.length_map]; exact(List.getElem?_eq_some_iff.mp h1).1
 ·refine rwS (List.getElem?_map) (rwS (List.getElem?_map) (rwS h1 (rwS h2 ?_))); exact congrArg some e
theorem Aft.ob(m:Sm D N){k:Nat}{p:Addr × Addr}{o:SObj}{s:Shared}(hp:N.μ[k]?=some p)(kp:∀b o,b≠p.2→N.s.heap.get? b=some o→s.heap.get? b=some o)(he:∃o,s.heap.get? p.2=some o)(g:s.gens=N.s.gens)(os:s.os=N.s.os)
  (ho:Le N (N.ob k o s)→OR D (N.ob k o s) p o):Aft D N noA (N.ob k o s):=by
 have mp:=List.mem_of_getElem? hp
 have np:∀a,N.W a→a≠p.2:=fun a w e=>m.wk a w ⟨p,mp,e.symm⟩
 have l:Le N (N.ob k o s):=⟨fun a o w e=>⟨kp a o (np a w) e,w⟩,fun _ _ e=>e⟩
 have ex:∀a,N.has a→(N.ob k o s).has a:=fun a h=>(Classical.em (a=p.2)).elim (fun e=>by refine rwS e ?_; exact Option.isSome_iff_exists.mpr he) fun e=>(Option.isSome_iff_exists.mp h).elim fun o g=>Option.isSome_iff_exists.mpr ⟨o,kp a o e g⟩
 refine⟨⟨fun a o e=>kp a o (fun q=>absurd ((m.new p mp).symm.trans (show D.base.get? p.2=some o from q▸e)) (fun h=>(nos h))) (m.gi a o e),m.big,m.len.trans List.length_set.symm,m.nodup,m.new,m.apart,m.wk,fun a w=>ex a (m.wd a w),m.cs,fun q h=>⟨ex _ (m.lt q h).1,ex _ (m.lt q h).2⟩,fun j o' q e1 e2=>?_⟩,
  l,fun a o e n _=>kp a o (fun q=>n ⟨p,mp,q.symm⟩) e,ex,fun _ h=>.inl h,fun _ h=>.inl h,g,os⟩
 by_cases hj:k=j
 ·subst hj
  cases hp.symm.trans e2
  cases (List.getElem?_set_self (m.len▸(List.getElem?_eq_some_iff.mp hp).1)).symm.trans e1
  exact ho l
 ·have n2:q.2≠p.2:=fun e=>hj (aFa m.nodup hp e2 e.symm)
  exact qB l (fun o e=>kp _ o (fun e=>n2 ((m.apart q (List.mem_of_getElem? e2) p mp e).symm.trans e)) e) (fun o e=>kp _ o n2 e) (m.obj j o' q ((List.getElem?_set_ne hj).symm.trans e1) e2)
theorem aHj{Y:Nx}{p:Addr × Addr}{k f:Nat}{fs:List (Nat × V)}{x:Str}{mm:Str→Option PV}{d:V}{v:PV}(l:Le N Y)(kp:∀b o,b≠p.2→N.s.heap.get? b=some o→Y.s.heap.get? b=some o)(ho:strOk x=true)(he:aL x=f)(hn:N.s.heap.Ns p.2 mm)(hn':Y.s.heap.Ns1 p.2 (fun y=>if y=x then some v else mm y))
  (r:OR D N p (.inst k fs)) (rv:RV D Y d v):OR D Y p (.inst k (mD fs f d)):=by
 refine nnG fun nG=>?_; obtain⟨⟨hk,e⟩,ne,m2,ns,n1,fo,w1,w2⟩:=r
 refine nG ?_; obtain rfl:=(funext fun y=>n1.ns.agree hn y:m2=mm)
 have fx:=fo x ho
 rw[he]at fx
 refine⟨⟨hk,kp _ _ ne e⟩,ne,_,(if (gD fs f).isSome then ns else x::ns),hn',fun y hy=>?_,fun y hy=>?_,?_⟩
 ·refine rwS wR ?_
  dsimp only
  by_cases hyx:y=x
  ·subst hyx
   refine rwS (if_pos he) ?_
   exact⟨v,if_pos rfl,rv⟩
  ·refine rwS (if_neg fun e=>hyx (cN hy ho (e.trans he.symm))) (rwS (if_neg hyx) ?_)
   exact wB l fo y hy
 ·dsimp only at hy
  by_cases hs:(gD fs f).isSome=true
  ·refine rwS (if_pos hs) ?_
   by_cases hyx:y=x
   ·refine e1 (Option.isSome_iff_exists.mp hs) fun d2 hd2=>?_
    rw[hd2]at fx
    refine e12 fx fun v2 e1 _=>?_
    exact hyx▸w1 x (by refine rwS e1 ?_; exact fun h=>(aXq h))
   ·rw[if_neg hyx]at hy; exact w1 y hy
  ·refine rwS (if_neg hs) ?_
   by_cases hyx:y=x
   ·exact hyx▸List.mem_cons_self ..
   ·rw[if_neg hyx]at hy; exact List.mem_cons_of_mem _ (w1 y hy)
 ·refine rwS vL ?_
  by_cases hs:(gD fs f).isSome=true
  ·refine rwS (if_pos hs) (rwS (if_pos hs) ?_); exact w2
  ·refine rwS (if_neg hs) (rwS (if_neg hs) ?_); exact Nat.succ_le_succ w2
end
section
variable{B:Bd}{u:Nat}{c:Ck}{G:Ev}{N Y Z:Nx}{Q E:PV→Shared→Prop}{g:Gt}
theorem aDi{q:Addr × Addr}{j k f:Nat}{fs:List (Nat × V)}{x:Str}{d:V}{v:PV}{Q:Unit→Shared→Prop}(F:Facts B g)(sm:Sm B.D N)(hx:x∈g.flds)(ho:strOk x=true)(he:aL x=f)(hz:fs.length≤1000)
  (hq:N.μ[j]?=some q) (hs:N.σ[j]?=some (.inst k fs)) (rv:Val B N d v) (z:∀s',Aft B.D N noA (N.ob j (.inst k (mD fs f d)) s')→Q () s'):Wp B G N (setAttr (.ref q.1) x v) Q E:=by
 have r:=sm.obj j _ q hs hq
 refine nnG fun nG=>?_; refine e21 (xM (B:=B) r) fun od mm I=>?_
 obtain⟨⟨hk,ge⟩,ne,m2,nl,n1,fo2,w1,w2⟩:=id r
 refine nG ?_; have C:=F.ck k hk
 have X:=F.x sm
 refine set_plain X I.at_ C.sa (osa_open (s:={ N.s with toks:=N.s.toks+1 }) X I.at_ C.po (wG (F.fl x hx k hk)) fun b=>?_)
 refine e12 (any_some C.hd) fun cd hc hd'=>?_
 refine wpAny_bind (wpAny_pure (wpAny_bind (wpAny_bind (wpAny_loadPart (s:={ N.s with toks:=N.s.toks+1 }) ge (wpAny_bind ((looks_clsIn X hc).here (s:={ N.s with toks:=N.s.toks+1 }) ?_))))))
 refine rwS hd' ?_
 refine wpAny_pure (a:=some q.2) (wpAny_bind (wpAny_pure (wpAny_bind ?_)))
 refine wpAny_nsSet1 (s:={ N.s with toks:=N.s.toks+1 }) n1 fun h1 hn1 sb=>?_
 refine e33 (hn1.count (w1.cons x v)) fun o1 es1 ep1 e1 e2 e3=>?_
 refine wpAny_bind (wpAny_lookBehind (s:=⟨h1,N.s.gens,N.s.drawn,N.s.toks+1+1,N.s.os⟩) e1 (by refine rwS e2 ?_; exact pastItsLine_dict (by refine rwS sizeLine_eq ?_; simp only[List.length_cons]at e3; (first | lia | omega))) ?_)
 exact wpAny_pure (z _ (.ob sm hq (fun b o n e=>sb.extBut b o n e) ⟨_,e1⟩ rfl rfl fun l=>aHj l (fun b o n e=>sb.extBut b o n e) ho he n1.ns hn1 r (cL l _ _ rv)))
theorem yP{f:Nat}{v:V}{n:Nat}{σ:St}{o:Option SObj}{K:St→Prop}(h:oK (nZ f v n σ o) K):∃c fs,o=some (.inst c fs)∧fs.length≤1000∧K (σ.set n (.inst c (mD fs f v))):=by
 cases o with
 | none=>exact False.elim h
 | some o=>cases o with
  | inst c fs=>have w:=bI h; exact⟨c,fs,rfl,of_decide_eq_true w.1,w.2⟩
  | _=>exact False.elim h
theorem rV{o:X}{f:Nat}{oe:PE}{attr:Str}{d:V}{v:PV}{Q:Unit→Shared→Prop}{K:aP→St→Prop}(F:Facts B g)(hx:attr∈g.flds)(hos:strOk attr=true)(he:aL attr=f)(h2:TE B u c o (fun env=>eval oe env))
  (H:Go B u c G N) (r:Val B N d v) (q:aKp B.P B.T d G.ρ N.σ K (.attr o f)) (z:∀Y,K G.ρ Y.σ→Aft B.D N noA Y→Q () Y.s):Wp B G N (eval oe G.env) (fun ov s₂=>wpAny (model B.D.prog B.D.w) G.A (setAttr ov attr v) Q E s₂) E :=
 h2 G N _ E _ H q fun d2 Y2 w k2 a2 rw=>by
  cases d2 with
  | loc k =>
   refine e23 (yP (show oK (nZ f d k Y2.σ Y2.σ[k]?) _ from k2)) fun cc fs hk hz k4=>?_
   refine e12 rw fun p e_1 hp=>?_; subst e_1
   exact aDi (G:=G) F a2.sm hx hos he hz hp hk (Val.on a2 r) fun s' b=>z (Y2.ob k _ s') k4 (a2.trans b)
  | _=>exact False.elim k2
theorem aMt{x o:X}{f:Nat}{e oe:PE}{attr:Str}{ap pos:Pos}(F:Facts B g)(hx:attr∈g.flds)(hos:strOk attr=true)(he:aL attr=f)(h:TE B u c x (fun env=>eval e env))(h2:TE B u c o (fun env=>eval oe env))
  (hs:∀env:bA,env.scope=c.sc→swapsWith e (some (.Attribute oe attr ap)) pos.line env=pure false):TS B u c (.asg (.attr o f) x) (fun env=>exec (.Assign [.Attribute oe attr ap] e pos) env):=fun G N Q E K H q z =>
 plainObj_wpAny_Assign_Attribute (h G N _ E _ H.go q fun d Y v k1 a r=>rV (K:=fun ρ σ=>K (.next ρ σ)) F hx hos he h2 (H.go.to a) r k1 fun Z k b=>z.1 G.ρ Z k (a.trans b).up (H.to (a.trans b))) (hs _ H.go.eo.sc)
theorem rS{o k:X}{oe ke:PE}{d:V}{v:PV}{Q:Unit→Shared→Prop}{K:aP→St→Prop}(hu:30≤u)(h2:TE B u c o (fun env=>eval oe env))(h3:TE B u c k (fun env=>eval ke env))
  (H:Go B u c G N) (r:Val B N d v) (q:aKp B.P B.T d G.ρ N.σ K (.item o k)) (z:∀Y,K G.ρ Y.σ→Aft B.D N noA Y→Q () Y.s):Wp B G N (eval oe G.env) (fun ov s₂=>wpAny (model B.D.prog B.D.w) G.A (eval ke G.env) (fun iv s₃=>wpAny (model B.D.prog B.D.w) G.A (setItem ov iv v) Q E s₃) E s₂) E :=
 h2 G N _ E _ H q fun d2 Y2 w k2 a2 rw=>h3 G Y2 _ E _ (H.to a2) k2 fun d3 Y3 y k3 a3 ry=>by
  cases d2 with
  | loc j =>
   refine e12 (Val.on a3 rw) fun p e_1 hp=>?_; subst e_1
   refine(iR (f:=fun s=>oK (lV d3 d j Y3.σ s) fun σ=>K G.ρ σ) a3.sm hp k3 id).elim fun s w=>?_
   cases s with
   | dict l =>
    obtain⟨k4,⟨e12,kvs,t,rs⟩,hj⟩:=w
    have fin:∀{o s'},K G.ρ (Y3.σ.set j o)→Aft B.D Y3 noA (Y3.ob j o s')→Q () s':=fun {o s'} k4 b=>z (Y3.ob j o s') k4 ((a2.trans a3).trans b)
    refine vW k4 (fun hc k4=>?_) fun _ k6=>?_
    ·refine e24 (zX (aB hc) ry) fun s tk e_2 hzs e_4 is=>?_; subst e_2; subst e_4
     refine wpAny_setItem_pairs is t.2 (fun h' t' sb=>?_) (kM (bM rs) (of_decide_eq_true (aA hc)))
     have t2:IsDc B.D h' p.1 _:=⟨t.1,t'⟩
     exact fin (s':={ Y3.s with heap:=h',toks:=_ }) k4 (.ob a3.sm hp (fun b o n e=>sb.extBut b o (e12▸n) e) (by refine rwT e12 ?_; exact t'.elim fun o q=>q.elim fun _ q=>q.elim fun _ q=>⟨o,q.1⟩) rfl rfl fun l=>⟨e12,_,t2,eI hzs (cL l _ _ (Val.on (a2.trans a3) r)) (cX l _ _ rs) (fQ t)⟩)
    ·refine e02 (bI k6) fun hc k5=>?_
     refine e22 (aAm (aB hc) ry) fun c0 ks e_2 ik=>?_; subst e_2
     cases l with
     | nil =>
      obtain rfl:=(rs:kvs=[])
      exact wpAny_setItem_heap (knd:=tupleKind (SK B.D)) (k:=ks) (H.rm.un (Nat.le_trans (by decide:1≤30) hu)) ik (qP t.2) (fun h' t' sb=>fin (s':={ Y3.s with heap:=h',toks:=_ }) k5 (.ob a3.sm hp (fun b o n e=>sb.extBut b o (e12▸n) e) (by refine rwT e12 ?_; exact t'.elim fun o q=>q.elim fun _ q=>q.elim fun _ q=>⟨o,q.1⟩) rfl rfl fun l=>trivial)) (bR (by decide))
     | cons _ _=>exact absurd (aA hc) Bool.false_ne_true
   | _=>exact w.1.elim
  | _=>exact False.elim k3
theorem aNr{x o k:X}{e oe ke:PE}{sp pos:Pos}(hu:30≤u)(h:TE B u c x (fun env=>eval e env))(h2:TE B u c o (fun env=>eval oe env))(h3:TE B u c k (fun env=>eval ke env))
  (hs:∀env:bA,env.scope=c.sc→swapsWith e (some (.Subscript oe ke sp)) pos.line env=pure false):TS B u c (.asg (.item o k) x) (fun env=>exec (.Assign [.Subscript oe ke sp] e pos) env):=fun G N Q E K H q z =>
 wpAny_Assign_Subscript (h G N _ E _ H.go q fun d Y v k1 a r=>rS (Q:=fun _=>Q .next) (K:=fun ρ σ=>K (.next ρ σ)) hu h2 h3 (H.go.to a) r k1 fun Z k b=>z.1 G.ρ Z k (a.trans b).up (H.to (a.trans b))) (hs _ H.go.eo.sc)
end
noncomputable def aEb:Mth→String
 | .app=>"list.append" | .ext=>"list.extend" | .upd=>"dict.update" | .rem=>"list.remove"
noncomputable def aQu:Mth→String
 | .upd=>"dict" | _=>"list"
section
variable{B:Bd}{u:Nat}{c:Ck}{G:Ev}{N Y Z:Nx}{Q E:PV→Shared→Prop}{g:Gt}
noncomputable def wI(B:Bd)(u:Nat)(m:Mth):Prop :=
 ∀(G:Ev) (N:Nx) (k:Nat) (p:Addr × Addr) (d:V) (v:PV) (Q E:PV→Shared→Prop) (K:St→Prop),Room B.n u G.A→Sm B.D N→N.μ[k]?=some p→oK (rK N.σ d k m N.σ[k]?) K→Val B N d v →
  (∀o s',K (N.σ.set k o)→Aft B.D N noA (N.ob k o s')→Q .none s')→Wp B G N (call (.builtin (aEb m)) [.ref p.1,v]) Q E
theorem sA{b:Addr}{j:Nat}{p:Addr × Addr}{arr:Array PV}{ka:Nat}{k:List V}(f:Array PV→Array PV)(sm:Sm B.D N)(hp:N.μ[j]?=some p)(e12:p.1=p.2)(il:N.s.heap.get? p.1=some { cls:=.type "list",dict:=none,data:=.seq arr ka,slots:=#[] })(rs:Vals B N k (f arr).toList)(tk:Tok) :
  Aft B.D N noA (N.ob j (.list k) { N.s with heap:=N.s.heap.update p.1 (Obj.mapSeq f),toks:=tk }):=by
 have sb:Heap.SameBut p.1 N.s.heap (N.s.heap.update p.1 (Obj.mapSeq f)):=Heap.SameBut.update ..
 obtain⟨k',e'⟩:∃k',Obj.mapSeq f { cls:=.type "list",data:=.seq arr ka }={ cls:=.type "list",data:=.seq (f arr) k' }:=⟨_,rfl⟩
 have e2:=Heap.get?_update_self (Obj.mapSeq f) il (by refine rwS e' ?_; rfl)
 rw[e']at e2
 exact .ob sm hp (fun b o n e=>sb.extBut b o (e12▸n) e) ⟨_,by refine rwT e12 ?_; exact e2⟩ rfl rfl fun l=>⟨e12,f arr,⟨k',e2⟩,fI l _ _ rs⟩
theorem uL{σ:St}{d:V}{k:Nat}{m:Mth}{o:SObj}{K:St→Prop}(hm:m≠.upd)(h:oK (rK σ d k m (some o)) K):∃l,o=.list l:=by
 cases o with
 | list l=>exact⟨l,rfl⟩
 | dict l=>cases m <;> first | exact absurd rfl hm | exact False.elim h
 | _=>exact False.elim h
theorem aRy:wI B u .app:=fun G N k p d v Q E K rm sm hp hh rv z=>(iR (f:=fun o=>oK (rK N.σ d k .app o) K) sm hp hh id).elim fun o w=>by
 refine nnG fun nG=>?_; refine e03 w fun h r hs=>?_
 refine e1 (uL (m:=.app) (fun h=>nomatch h) h) fun l e_1=>?_; subst e_1
 obtain⟨e12,arr,⟨ka,il⟩,rs⟩:=r
 refine e02 (bI (bO h)) fun hz h=>?_
 refine nG ?_; refine wpAny_list_append_plain ⟨ka,il⟩ (fun h' il' sb=>?_) (bR (by have hz:(l++[d]).length≤1000000:=hz; rw[List.length_append]at hz; refine rwS (gG (B:=B) rs) ?_; exact Nat.le_of_succ_le hz))
 exact z (.list (l++[d])) _ h (.ob sm hp (fun b o n e=>sb.extBut b o (e12▸n) e) (by refine rwT e12 ?_; exact il'.elim fun _ e=>⟨_,e⟩) rfl rfl fun le=>⟨e12,arr.push v,il',by refine rwS Array.toList_push ?_; exact cK (fI le _ _ rs) ⟨v,[],rfl,cL le _ _ rv,rfl⟩⟩)
theorem bAm{v:V}{x:PV}{K:List V→Prop}{Z:Prop}(sm:Sm B.D N)(e:oK (cH N.σ v) K)(r:Val B N v x)(z:∀l b vs,K l→x=.ref b→(IsLs N.s.heap b vs∨IsTp N.s.heap b vs)→Vals B N l vs.toList→Z):Z:=by
 cases v with
 | tup k=>exact r.elim fun a q=>q.elim fun vs q=>z k a vs e q.1 (.inr q.2.2.1) q.2.2.2
 | list k=>exact qK (v:=.list k) sm e r fun l a k q rc=>rc.elim fun vs w=>z l a vs k q (.inl w.1) w.2
 | loc k=>exact qK (v:=.loc k) sm e r fun l a k q rc=>rc.elim fun vs w=>z l a vs k q (.inl w.1) w.2
 | _=>exact False.elim e
theorem aSb:wI B u .ext:=fun G N k p d v Q E K rm sm hp hh rv z=>(iR (f:=fun o=>oK (rK N.σ d k .ext o) K) sm hp hh id).elim fun o w=>by
 refine nnG fun nG=>?_; refine e03 w fun h r hs=>?_
 refine e1 (uL (m:=.ext) (fun h=>nomatch h) h) fun l e_1=>?_; subst e_1
 obtain⟨e12,arr,⟨ka,il⟩,rs⟩:=r
 refine nG ?_; refine bAm sm (aR h) rv fun k' c arr2 h hx t rs2=>?_
 subst hx
 refine e02 (bI (bO h)) fun hz h=>?_
 have hz2:=pR hz rs rs2
 have hs1:¬(!arr.isEmpty&&Builtin.List.listTooLong (arr.size+arr2.size))=true:=fun h=>Nat.not_lt.mpr hz2 (of_decide_eq_true (aA h))
 have fin:∀tk,Q .none { N.s with heap:=N.s.heap.update p.1 (Obj.mapSeq fun x=>x++arr2),toks:=tk }:=fun tk=>z _ _ h (sA (b:=c) (fun x=>x++arr2) sm hp e12 il (by refine rwS Array.toList_append ?_; exact cK rs rs2) tk)
 rcases t with ⟨kb,t⟩ | ⟨kb,t⟩
 ·exact call_meets PySem.F.slot_list_extend ⟨_,il,rfl⟩ PySem.F.entry_list_extend (PySem.F.args_list_extend_2 _ _) (AutoSeq1.list_extend_list_list_0 p.1 arr ka c arr2 kb hs1 (Nat.le_trans (Nat.le_add_right _ _) hz2) (Nat.le_succ_of_le hz2)) ⟨il,t,fin _⟩
 ·exact call_meets PySem.F.slot_list_extend ⟨_,il,rfl⟩ PySem.F.entry_list_extend (PySem.F.args_list_extend_2 _ _) (AutoSeq1.list_extend_list_tuple_0 p.1 arr ka c arr2 kb hs1 (Nat.le_trans (Nat.le_add_right _ _) hz2) (Nat.le_succ_of_le hz2)) ⟨il,t,fin _⟩
theorem wZ{d:List V}:∀{vs:List PV} (j:Nat),Vals B N d vs→Vals B N (d.eraseIdx j) (vs.eraseIdx j):=by
 induction d with
 | nil=>intro vs j r; obtain rfl:=(show vs=[] from r); rfl
 | cons x l ih =>
  intro vs j r
  refine e23 r fun v t e_2 r1 r2=>?_; subst e_2
  cases j with
  | zero=>exact r2
  | succ j=>exact⟨v,t.eraseIdx j,rfl,r1,ih j r2⟩
noncomputable def aIw(z:Str):PV→Bool
 | .str x _=>x==z
 | _=>false
theorem aJi{d:V}{v:PV}(hd:isS d=true)(r:Val B N d v):∃x t,v=.str x t∧strOk x=true∧d=.str (aL x):=by
 cases d with
 | str s=>exact r.elim fun x q=>q.elim fun t q=>⟨x,t,q.1,q.2.1,by exact rwS q.2.2 rfl⟩
 | _=>exact absurd hd Bool.false_ne_true
theorem aUq:wI B u .rem:=fun G N k p d v Q E K rm sm hp hh rv z=>(iR (f:=fun o=>oK (rK N.σ d k .rem o) K) sm hp hh id).elim fun o w=>by
 refine nnG fun nG=>?_; refine e03 w fun h r hs=>?_
 refine e1 (uL (m:=.rem) (fun h=>nomatch h) h) fun l e_1=>?_; subst e_1
 obtain⟨e12,arr,⟨ka,il⟩,rs⟩:=r
 refine e02 (bI (bO h)) fun hc h0=>?_
 refine nG ?_; clear h
 refine iG (bO h0) fun j hj h=>?_
 have hlen:=gG (B:=B) rs
 refine nnG fun nG=>?_; refine e23 (aJi (aA (aB hc)) rv) fun s tz e_2 hzs e_4=>?_; subst e_2; subst e_4
 obtain⟨hjl,hp2,hbefore⟩:=List.findIdx?_eq_some_iff_getElem.mp hj
 refine nG ?_; -- the items' tests agree
 have tst:∀i (h2:i<arr.size),(∃x t,arr[i]=.str x t)∧aIw s arr[i]=V.beq (l[i]'(hlen▸h2)) (.str (aL s)):=fun i h2=>by
  have h1:i<l.length:=hlen▸h2
  refine nnG fun nG=>?_; obtain⟨w,e1,r1⟩:=eF rs (List.getElem?_eq_getElem h1)
  refine e23 (aJi ((List.all_eq_true.mp (aB (aB hc))) _ (List.getElem_mem h1)) r1) fun x t e3 hx e4=>?_
  refine nG ?_; have e2:arr[i]=.str x t:=Option.some.inj (((Array.getElem?_eq_getElem h2).symm.trans Array.getElem?_toList.symm).trans (e1.trans (congrArg some e3)))
  refine rwS e2 (rwS e4 ?_)
  exact⟨⟨x,t,rfl⟩,tV hx hzs⟩
 have he:∀y,y∈arr→MeetsSeq.EqGives y (.str s tz) (aIw s y):=fun y hy=>by
  obtain⟨i,h2,rfl⟩:=Array.mem_iff_getElem.mp hy
  refine e21 ((tst i h2).1) fun x t e=>?_
  refine rwS e ?_
  exact eqGives_str x s t tz
 have hja:j<arr.size:=hlen.symm▸hjl
 refine call_meets PySem.F.slot_list_remove ⟨_,il,rfl⟩ PySem.F.entry_list_remove (PySem.F.args_list_remove_2 _ _) (MeetsSeq.list_remove p.1 arr ka (.str s tz) (aIw s) he j hja ((tst j hja).2.trans hp2)
  (fun i h1 h2=>(tst i h1).2.trans (Bool.not_eq_true _▸hbefore i h2)) (kM hlen (of_decide_eq_true (aA hc)))) ⟨il,z _ _ h (sA (b:=p.1) (fun xs=>xs.eraseIdxIfInBounds j) sm hp e12 il ?_ _)⟩
 refine rwS (show (arr.eraseIdxIfInBounds j).toList=arr.toList.eraseIdx j by rw[Array.eraseIdxIfInBounds,dif_pos hja]; simp) ?_
 exact wZ j rs
theorem zO{v:V}{K:List V→Prop}(e:oK (fW v) K):∃l,v=.list l∧K l:=by
 cases v <;> first | exact⟨_,rfl,e⟩ | exact False.elim e
theorem aQi:wI B u .upd:=fun G N k p d v Q E K rm sm hp hh rv z=>(iR (f:=fun o=>oK (rK N.σ d k .upd o) K) sm hp hh id).elim fun o w=>by
 refine e03 w fun h r hs=>?_
 cases o with
 | dict dd =>
  refine nnG fun nG=>?_; obtain⟨e12,kvs,td,rs⟩:=r
  obtain⟨l,rfl,h⟩:=zO (aR h)
  refine e02 (bI h) fun hz h=>?_
  refine e24 rv fun b arr e_2 wb il rsl=>?_; subst e_2
  obtain⟨kk,ho⟩:=id il
  refine nG ?_; have nw:¬ N.W p.1:=fun w=>sm.wk _ w ⟨p,List.mem_of_getElem? hp,e12.symm⟩
  have hp1:=(sm.lt p (List.mem_of_getElem? hp)).1
  have nab:p.1≠b:=fun e=>nw (e▸wb)
  refine wpAny_call (codeAny_call_builtin PySem.F.slot_dict_update.plain PySem.F.entry_dict_update (PySem.F.slot_dict_update.check _ _ _ _ _ _ _ _ td.2.typeIs (PySem.F.args_dict_update_2 _ _) ?_))
  delta Builtin.«dict.update»
  refine wpAny_bind ?_
  delta Builtin.Dict.selfAndRest
  refine wpAny_bind (wpAny_notOrdered_dict td.2.typeIs ?_)
  show wpAny _ _ (pure (p.1,[Value.ref b])) _ _ _
  refine wpAny_pure ?_
  show wpAny _ _ (Builtin.Dict.updateFrom "dict.update" p.1 (.ref b) [] .none) _ _ _
  delta Builtin.Dict.updateFrom
  refine wpAny_bind (wpAny_typeOf (T:="list") ⟨_,ho,rfl⟩ ?_)
  refine rwS (if_pos (by decide)) ?_
  refine wpAny_bind (lP ho rm.hand fun h1 tk1 k1=>?_)
  have il1:IsLs h1 b arr:=⟨kk,k1 _ _ ho⟩
  simp only[Option.isNone_none,if_true]
  refine wpAny_bind (wpAny_rule ?_)
  refine wpAny_bind (wpAny_pyIter_list (IsLs.list il1) (wpAny_pure ⟨plainId_quiet cM _,?_⟩))
  have m:More N { N.s with heap:=h1.push (aAn b),toks:=tk1 }:=⟨fun b o e=>Heap.get?_push_of_some _ (k1 b o e),rfl,rfl⟩
  have ni:¬ N.has h1.objs.size:=(⟨k1,rfl,rfl⟩:More N { N.s with heap:=h1 }).no
  have a:=m.aft sm
  refine pU (B:=B) (arr:=arr) (l:=b) (fun e:p.1=h1.objs.size=>ni (e▸hp1)) nab (fun e:h1.objs.size=b=>ni (by refine rwS e ?_; exact sm.wd _ wb)) l 0 dd kvs _ 0 (N.at { N.s with heap:=h1.push (aAn b),toks:=tk1 }) nw (fun w=>ni (sm.wd _ w)) rm.hand (Vals.on a rsl) (bO h) (cX a.le _ _ rs) (td.at fun o e=>m.k _ _ e)
   ⟨_,Heap.get?_push_size _ rfl,rfl,rfl⟩ ((IsLs.list il1).at fun o e=>Heap.get?_push_of_some _ e) ?_ fun d2 h' tk kvs' k2 kp td' rd=>?_
  ·refine rwS (bM rs) ?_; exact bR hz
  ·have kp2:∀x o,x≠p.2→N.s.heap.get? x=some o→h'.get? x=some o:=fun x o n e=>kp x o (e12▸n) (fun q=>ni (q▸cI e)) (m.k x o e)
   exact z (.dict d2) { N.s with heap:=h',toks:=tk } k2 (.ob sm hp kp2 (by refine rwT e12 ?_; exact td'.2.elim fun o q=>q.elim fun _ q=>q.elim fun _ q=>⟨o,q.1⟩) rfl rfl fun l=>⟨e12,kvs',td',cX (by exact⟨fun _ _ w e=>⟨e,w⟩,fun _ _ e=>e⟩) _ _ rd⟩)
 | _=>exact False.elim h
theorem aKl{m:Mth}{d:V}{v:PV}(sm:Sm B.D N)(h:sV m d N.σ=true)(r:Val B N d v):N.s.TypeIs v (aQu m)∧∀a,v=.ref a→∃o,N.s.heap.get? a=some o∧o.dict=none:=by
 cases d with
 | loc k =>
  refine e12 r fun p e_1 hp=>?_; subst e_1
  refine e13 (iR (f:=fun o=>aFu m o=true) sm hp h fun h=>(nob h)) fun o h r _=>?_
  cases o with
  | list l=>cases m <;> first | exact wK r.2.elim.1 | exact absurd h Bool.false_ne_true | exact r.2.elim fun _ w=>wK w.1
  | dict l=>cases m <;> first | exact absurd h Bool.false_ne_true | exact r.2.elim fun _ w=>kT w.1
  | _=>exact absurd h Bool.false_ne_true
 | _=>exact absurd h Bool.false_ne_true
theorem tM{m:Mth}{y x:X}{o e:PE}{meth:Str}{apos cpos pos:Pos}(mo:wI B u m)(pa:PlainAttrs (aQu m))(slot:Slot (aQu m) meth (aEb m))(hty:typeOf (.builtin (aEb m))=pure (.type "method_descriptor"))(hb:aZ o=true)(hl:(apos.endLine==cpos.line)=true)(hst:isStarred e=false)
  (h1:TE B u c y (fun env=>eval o env)) (h:TE B u c x (fun env=>eval e env)):TS B u c (.mth m y x) (fun env=>exec (.Expr (.Call (.Attribute o meth apos) [e] [] cpos) pos) env):=fun G N Q E K H q z =>
 wpAny_Expr_any (gY pa slot hty hb hl (show 1<29 by decide) (by refine rwS List.all_cons (rwS hst ?_); rfl) h1 (eP hst h eY) H.go q fun d Y w k1 a r=>by
  refine e02 (eQ k1) fun hc k1=>?_
  refine⟨aKl a.sm hc r,fun ds σ=>match ds with | [v]=>oK (yK m d v σ) fun σ=>K (.next G.ρ σ) | _=>False,k1,fun ds Z vs k2 a2 rs=>?_⟩
  match ds,k2,rs with
  | [dv],k2,rs =>
   refine e12 rs.one fun vv e_1 rv=>?_; subst e_1
   cases d with
   | loc k =>
    refine e12 (Val.on a2 r) fun p e_1 hp=>?_; subst e_1
    exact mo G Z k p dv vv _ E _ H.go.rm a2.sm hp k2 rv fun o s' k3 b=>z.1 G.ρ (Z.ob k o s') k3 ((a.trans a2).trans b).up (H.to ((a.trans a2).trans b))
   | _=>exact False.elim k2) (by delta interactive; refine rwS H.go.eo.kind ?_; rfl) rfl
end
inductive NmS(c:Ck):List Nat→List PE→Prop
 | nil:NmS c [] []
 | cons {x:Str} {i:Nat} {is:List Nat} {es:List PE} {p:Pos}:Nm c x i→NmS c is es→NmS c (i::is) (.Name x p::es)
inductive TgOk(c:Ck):Tg→PE→Prop
 | one {x:Str} {i:Nat} {p:Pos}:Nm c x i→TgOk c (.one i) (.Name x p)
 | many {is:List Nat} {es:List PE} {k:Nat} {p:Pos}:NmS c is es→TgOk c (.many is) (.Tuple es k p)
section
variable{B:Bd}{u:Nat}{c:Ck}{G:Ev}{N Y Z:Nx}{E:PV→Shared→Prop}
theorem oA{is:List Nat}{es:List PE}(h:NmS c is es)(env:bA):(assignEach es env).length=is.length∧(assignEach es env).findIdx? (·.1)=none:=by
 induction h with
 | nil=>exact⟨rfl,rfl⟩
 | @cons x i is es p h1 _ ih =>
  refine⟨congrArg (· + 1) ih.1,?_⟩
  show ((false,assign (.Name x p) env)::assignEach es env).findIdx? (·.1)=none
  refine rwS (List.findIdx?_cons) (rwS ih.2 ?_); rfl
theorem aHb{is:List Nat}{es:List PE}(h:NmS c is es):∀(G:Ev) (N:Nx) (l:List V) (vs:List PV) (Q:Unit→Shared→Prop),is.length=l.length→Gs B u c G N→Vals B N l vs →
  (∀Y,Y.σ=N.σ→Aft B.D N (Fr c G.env) Y→Gs B u c (G.to (fX is l G.ρ)) Y→Q () Y.s)→Wp B G N (assignInOrder ((assignEach es G.env).map (·.2)) vs) Q E:=by
 induction h with
 | nil=>exact fun G N l vs Q hl H rs q=>assignInOrder_nil (q N rfl (.refl H.go.sm) H)
 | @cons y i is es p h1 _ ih=>exact fun G N l vs Q hl H rs q=>match l,hl,rs with
  | d::l,hl,⟨v,t,e,r1,r2⟩=>by
   subst e
   show wpAny _ G.A (assignInOrder (assign (.Name y p) G.env::(assignEach es G.env).map (·.2)) (v::t)) Q E N.s
   exact assignInOrder_cons (wpAny_assign_Name (gM H h1 r1 fun Y e1 a1 H1=>ih (G.set i d) Y l t Q (Nat.succ.inj hl) H1 (Vals.on a1 r2) fun Z e2 a2 H2=>q Z (e2.trans e1) (a1.trans a2) H2))
theorem fD{t:Addr}{items:Array PV}{targets:List (Bool × (PV→Sem Unit))}{Q:Unit→Shared→Prop}(hh:G.A.handled=none)(ht:N.s.heap.IsTuple t items)(hn:targets.length=items.size)(hstar:targets.findIdx? (·.1)=none)
  (h:∀s',More N s'→wpAny (model B.D.prog B.D.w) G.A (assignInOrder (targets.map (·.2)) items.toList) Q E s'):Wp B G N (unpack (.ref t) targets) Q E:=by
 delta Wp unpack
 refine rwS hn (rwS hstar ?_)
 exact wpAny_bind (wpAny_holding (wpAny_unpackItems_tuple hh ht fun h' e=>h { N.s with heap:=h' } ⟨fun b o g=>e b o (fun q=>aY (q▸cI g)) g,rfl,rfl⟩))
theorem pF{tg:Tg}{target:PE}(h:TgOk c tg target){d:V}{v:PV}{Q:Unit→Shared→Prop}{K:aP→Prop}(H:Gs B u c G N)(ev:oK (dQ G.ρ tg d) K)(rv:Val B N d v)
  (z:∀ρ Y,K ρ→Y.σ=N.σ→Aft B.D N (Fr c G.env) Y→Gs B u c (G.to ρ) Y→Q () Y.s):Wp B G N (assign target G.env v) Q E:=by
 cases h with
 | one hb=>exact wpAny_assign_Name (gM H hb rv fun Y e a H1=>z _ Y ev e a H1)
 | @many is es k p hb =>
  cases d with
  | tup l =>
   refine e02 (bI ev) fun hl ev=>?_
   refine e24 rv fun a arr e_2 wa t rs=>?_; subst e_2
   delta Wp
   rw[assign_Tuple]
   refine wpAny_bind (wpAny_standAt (fD (N:=N) H.go.rm.hand (IsTp.tup t) ((oA hb G.env).1.trans (hl.trans (gG rs).symm)) (oA hb G.env).2 fun s' m=>?_))
   have a:=m.aft H.go.sm
   exact aHb hb G (N.at s') l _ Q hl (H.to a) (Vals.on a rs) fun Y e2 a2 H2=>z _ Y ev e2 (a.up.trans a2) H2
  | _=>exact False.elim ev
theorem aMi{is:List Nat}{x:X}{es:List PE}{t:PE}{k:Nat}{tp pos:Pos}(hb:NmS c is es)(h:TE B u c x (fun env=>eval t env))(hs:∀env:bA,env.scope=c.sc→swapsWithSole [.Tuple es k tp] t pos.line env=pure false)(hw:∀env:bA,env.scope=c.sc→swappedStores [.Tuple es k tp] t env=pure none) :
  TS B u c (.asgT is x) (fun env=>exec (.Assign [.Tuple es k tp] t pos) env):=fun G N Q E K H q z =>
 Assign_Tuple (h G N _ E _ H.go q fun d Y v k1 a r=>pF (TgOk.many (k:=k) (p:=tp) hb) (H.to a) k1 r fun ρ Z k2 e b H2=>z.1 ρ Z (by refine rwS e ?_; exact k2) (a.up.trans b) H2) (hs _ H.go.eo.sc) (hw _ H.go.eo.sc)
inductive NmN(c:Ck):List Nat→List Str→Prop
 | nil:NmN c [] []
 | cons {x:Str} {i:Nat} {is:List Nat} {xs:List Str}:Nm c x i→NmN c is xs→NmN c (i::is) (x::xs)
theorem NmN.len{is:List Nat}{xs:List Str}(h:NmN c is xs):is.length=xs.length:=by
 induction h with
 | nil=>rfl
 | cons _ _ ih=>exact congrArg (· + 1) ih
theorem wT{is:List Nat}{xs:List Str}(h:NmN c is xs):∀(G:Ev) (N:Nx) (l:List V) (vs:List PV) (Q:Unit→Shared→Prop),is.length=l.length→Gs B u c G N→Vals B N l vs →
  (∀Y,Y.σ=N.σ→Aft B.D N (Fr c G.env) Y→Gs B u c (G.to (fX is l G.ρ)) Y→Q () Y.s)→Wp B G N (assignInOrder (xs.map fun n=>bindName G.env n) vs) Q E:=by
 induction h with
 | nil=>exact fun G N l vs Q hl H rs q=>assignInOrder_nil (q N rfl (.refl H.go.sm) H)
 | @cons y i is xs h1 _ ih =>
  intro G N l vs Q hl H rs q
  cases l with
  | nil=>cases hl
  | cons d l =>
   refine e23 rs fun v t e_2 r1 r2=>?_; subst e_2
   show wpAny _ G.A (assignInOrder (bindName G.env y::xs.map fun n=>bindName G.env n) (v::t)) Q E N.s
   exact assignInOrder_cons (bindName_ (gM H h1 r1 fun Y e1 a1 H1=>ih (G.set i d) Y l t Q (Nat.succ.inj hl) H1 (Vals.on a1 r2) fun Z e2 a2 H2=>q Z (e2.trans e1) (a1.trans a2) H2))
theorem aKo{D:Wd}{l:List V}:∀{vs:List PV},RVs D N l vs→RVs D N l.reverse vs.reverse:=by
 induction l with
 | nil=>intro vs r; obtain rfl:=(show vs=[] from r); rfl
 | cons d l ih =>
  intro vs r
  refine e23 r fun v t e_2 r1 r2=>?_; subst e_2
  refine rwS List.reverse_cons (rwS List.reverse_cons ?_)
  exact cK (ih r2) ⟨v,[],rfl,r1,rfl⟩
theorem vE{w:Bool}{is:List Nat}{xs:List X}{es vs:List PE}{k k':Nat}{tp vp pos:Pos}{names:List Str}(hb:match w with | false=>NmS c is es | true=>NmN c is.reverse names.reverse)
  (h:TEs B u c xs (fun env=>spliced (backTo vp (starEach vs env)))) (hl:xs.length≤1000) (hs:∀env:bA,env.scope=c.sc→swapsWithSole [.Tuple es k tp] (.Tuple vs k' vp) pos.line env=pure false)
  (hw:∀env:bA,env.scope=c.sc→swappedStores [.Tuple es k tp] (.Tuple vs k' vp) env=pure (match w with | false=>none | true=>some names)) :
  TS B u c (.asgTs w is xs) (fun env=>exec (.Assign [.Tuple es k tp] (.Tuple vs k' vp) pos) env):=fun G N Q E K H q z=>by
 have tup:∀{Q':PV→Shared→Prop},(∀d Y t us,is.length=d.length∧K (.next (fX (rvs w is) (rvs w d) G.ρ) Y.σ)→Aft B.D N noA Y→IsTp Y.s.heap t us→Vals B Y d us.toList→Q' (.ref t) Y.s)→Wp B G N (eval (.Tuple vs k' vp) G.env) Q' E:=fun q' =>
  Tuple_ (h G N _ E _ H.go q fun d Y v k1 l1 a r=>have b:=zM (o:=tpO v.toArray) a.sm rfl; have w:=eQ k1
   wpAny_newTuple (q' d (Y.tre _) _ v.toArray ⟨of_decide_eq_true w.1,w.2⟩ (a.trans b) ⟨_,bB rfl⟩ (Vals.on b r)) (uI r l1 hl))
 cases w with
 | false =>
  refine Assign_Tuple (tup fun d Y t us k1 a it rs=>?_) (hs _ H.go.eo.sc) (hw _ H.go.eo.sc)
  rw[assign_Tuple]
  refine wpAny_bind (wpAny_standAt (fD (G:=G) (N:=Y) H.go.rm.hand (IsTp.tup it) ((oA (show NmS c is es from hb) G.env).1.trans (k1.1.trans (gG rs).symm)) (oA (show NmS c is es from hb) G.env).2 fun s' m=>?_))
  have b:=m.aft a.sm
  exact aHb (show NmS c is es from hb) G (Y.at s') d _ _ k1.1 (H.to (a.trans b)) (Vals.on b rs) fun Z e2 a2 H2=>z.1 _ Z (by refine rwS e2 ?_; exact k1.2) ((a.trans b).up.trans a2) H2
 | true =>
  refine Assign_Tuple_swapped (tup fun d Y t us k1 a it rs=>?_) (hs _ H.go.eo.sc) (hw _ H.go.eo.sc)
  have hn:NmN c is.reverse names.reverse:=hb
  have hl2:=hn.len
  rw[List.length_reverse,List.length_reverse]at hl2
  refine rwS (show names.length=us.size from hl2.symm.trans (k1.1.trans (gG rs).symm)) ?_
  refine wpAny_unpackItems_tuple H.go.rm.hand (IsTp.tup it) fun h' e=>?_
  have b:=More.aft (y:=Y) (s:={ Y.s with heap:=h' }) ⟨fun b o g=>e b o (fun q=>aY (q▸cI g)) g,rfl,rfl⟩ a.sm
  exact wT hn G (Y.at { Y.s with heap:=h' }) d.reverse _ _ (by refine rwS List.length_reverse (rwS List.length_reverse ?_); exact k1.1) (H.to (a.trans b)) (aKo (Vals.on b rs)) fun Z e2 a2 H2=>z.1 _ Z (by refine rwS e2 ?_; exact k1.2) ((a.trans b).up.trans a2) H2
end
noncomputable def TSt(B:Bd)(u:Nat)(c:Ck)(t:Tgt)(tg:PE):Prop :=
 isStarred tg=false∧∀(G:Ev) (N:Nx) (Q:Unit→Shared→Prop) (E:PV→Shared→Prop) (K:aP→St→Prop) (d:V) (v:PV),Gs B u c G N→Val B N d v→aKp B.P B.T d G.ρ N.σ K t →
  (∀ρ Y,K ρ Y.σ→Aft B.D N (Fr c G.env) Y→Gs B u c (G.to ρ) Y→Q () Y.s)→Wp B G N (assign tg G.env v) Q E
section
variable{B:Bd}{u:Nat}{c:Ck}{G:Ev}{N Y Z:Nx}{g:Gt}
theorem aJp{i:Nat}{x:Str}{p:Pos}(nm:Nm c x i):TSt B u c (.name i) (.Name x p):=⟨rfl,fun G N Q E K d v H r k z =>
 wpAny_assign_Name (gM H nm r fun Y e a H1=>z _ Y (by refine rwS e ?_; exact k) a H1)⟩
theorem aLt{o:X}{f:Nat}{oe:PE}{attr:Str}{ap:Pos}(F:Facts B g)(hx:attr∈g.flds)(hos:strOk attr=true)(he:aL attr=f)(h2:TE B u c o (fun env=>eval oe env)):TSt B u c (.attr o f) (.Attribute oe attr ap):=⟨rfl,fun G N Q E K d v H r k z=>by
 delta Wp
 rw[assign_Attribute]
 exact wpAny_bind (wpAny_holding (wpAny_mono (rV (Q:=Q) F hx hos he h2 H.go r k fun Y k a=>z _ Y k a.up (H.to a)) (fun ov s h=>wpAny_bind (wpAny_standAt (wpAny_bind (wpAny_holding (wpAny_mono h (fun _ s h=>wpAny_release h) fun _ _ x=>x))))) fun _ _ x=>x))⟩
theorem aLk{o k:X}{oe ke:PE}{sp:Pos}(hu:30≤u)(h2:TE B u c o (fun env=>eval oe env))(h3:TE B u c k (fun env=>eval ke env)):TSt B u c (.item o k) (.Subscript oe ke sp):=⟨rfl,fun G N Q E K d v H r k z=>by
 delta Wp
 rw[assign_Subscript]
 exact wpAny_bind (wpAny_holding (wpAny_mono (rS (Q:=Q) hu h2 h3 H.go r k fun Y k a=>z _ Y k a.up (H.to a)) (fun ov s h=>wpAny_bind (wpAny_holding (wpAny_mono h (fun iv s h=>wpAny_bind (wpAny_standAt (wpAny_bind (wpAny_holding (wpAny_mono h (fun _ s h=>wpAny_release h) fun _ _ x=>x))))) fun _ _ x=>x))) fun _ _ x=>x))⟩
theorem dD{t:PE}{r:List PE}{env:bA}(h:isStarred t=false):assignEach (t::r) env=(false,assign t env)::assignEach r env:=by
 cases t <;> first | rfl | exact aMl h
theorem aBl{ts:List Tgt}{es:List PE}(h:All2 (TSt B u c) ts es)(env:bA):(assignEach es env).length=ts.length∧(assignEach es env).findIdx? (·.1)=none:=by
 induction h with
 | nil=>exact⟨rfl,rfl⟩
 | cons h1 _ ih =>
  refine rwS (dD h1.1) ?_
  exact⟨congrArg (· + 1) ih.1,by refine rwS (List.findIdx?_cons) (rwS ih.2 ?_); rfl⟩
theorem aLj{ts:List Tgt}{es:List PE}(h:All2 (TSt B u c) ts es):∀(G:Ev) (N:Nx) (l:List V) (vs:List PV) (Q:Unit→Shared→Prop) (E:PV→Shared→Prop) (K:aP→St→Prop),ts.length=l.length→Gs B u c G N→Vals B N l vs→aKa B.P B.T ts l G.ρ N.σ K →
  (∀ρ Y,K ρ Y.σ→Aft B.D N (Fr c G.env) Y→Gs B u c (G.to ρ) Y→Q () Y.s)→Wp B G N (assignInOrder ((assignEach es G.env).map (·.2)) vs) Q E:=by
 induction h with
 | nil=>exact fun G N l vs Q E K hl H rs k z=>assignInOrder_nil (z _ N k (.refl H.go.sm) H)
 | @cons _ _ ts es h1 _ ih =>
  intro G N l vs Q E K hl H rs k z
  cases l with
  | nil=>cases hl
  | cons d l =>
   refine e23 rs fun v t e_2 r1 r2=>?_; subst e_2
   refine rwS (dD h1.1) ?_
   exact assignInOrder_cons (h1.2 G N _ E (fun ρ σ=>aKa B.P B.T ts l ρ σ K) d v H r1 k fun ρ Y k a H1=>ih (G.to ρ) Y l t Q E K (Nat.succ.inj hl) H1 (Vals.on a r2) k fun ρ Z k2 b H2=>z ρ Z k2 (a.trans b) H2)
theorem aLo{ts:List Tgt}{x:X}{es:List PE}{t:PE}{k:Nat}{tp pos:Pos}(hb:All2 (TSt B u c) ts es)(h:TE B u c x (fun env=>eval t env))(hs:∀env:bA,env.scope=c.sc→swapsWithSole [.Tuple es k tp] t pos.line env=pure false)(hw:∀env:bA,env.scope=c.sc→swappedStores [.Tuple es k tp] t env=pure none) :
  TS B u c (.asgM ts x) (fun env=>exec (.Assign [.Tuple es k tp] t pos) env):=fun G N Q E K H q z =>
 Assign_Tuple (h G N _ E _ H.go q fun d Y v k1 a r=>by
  cases d with
  | tup l =>
   refine e02 (eQ k1) fun hl k1=>?_
   have hl:=of_decide_eq_true hl
   refine e24 r fun b arr e_2 wa t rs=>?_; subst e_2
   rw[assign_Tuple]
   refine wpAny_bind (wpAny_standAt (fD (N:=Y) H.go.rm.hand (IsTp.tup t) ((aBl hb G.env).1.trans (hl.trans (gG rs).symm)) (aBl hb G.env).2 fun s' m=>?_))
   have b:=m.aft a.sm
   exact aLj hb G (Y.at s') l _ _ E _ hl (H.to (a.trans b)) (Vals.on b rs) k1 fun ρ Z k2 b2 H2=>z.1 ρ Z k2 ((a.trans b).up.trans b2) H2
  | _=>exact False.elim k1) (hs _ H.go.eo.sc) (hw _ H.go.eo.sc)
end
theorem eK{x k:Str}{w:PV}{t:List (Str × PV)}:valueAt ((x,w)::t) k=if x=k then some w else valueAt t k:=by
 delta valueAt
 by_cases h:x=k
 ·refine rwS (if_pos h) (rwS (List.find?_cons) (rwS (decide_eq_true h) ?_)); rfl
 ·exact rwS (if_neg h) (rwS (List.find?_cons) (rwS (decide_eq_false h) rfl))
theorem xH{k:Str}{v:PV}:∀{kvs:List (Str × PV)},(kvs.map (·.1)).Nodup→valueAt (stored kvs k v) k=some v
 | [],_=>eK.trans (if_pos rfl)
 | (x,w)::t,nd=>by
  by_cases h:x=k
  ·subst h; refine rwS (mT (List.nodup_cons.mp nd).1) ?_; exact eK.trans (if_pos rfl)
  ·refine rwS (lY h) ?_; exact eK.trans ((if_neg h).trans (xH (List.nodup_cons.mp nd).2))
theorem rY{k j:Str}{v:PV}(n:k≠j):∀{kvs:List (Str × PV)},(kvs.map (·.1)).Nodup→valueAt (stored kvs k v) j=valueAt kvs j
 | [],_=>eK.trans (if_neg n)
 | (x,w)::t,nd=>by
  by_cases h:x=k
  ·subst h; refine rwS (mT (List.nodup_cons.mp nd).1) ?_; exact eK.trans ((if_neg n).trans (eK.trans (if_neg n)).symm)
  ·refine rwS (lY h) ?_
   exact eK.trans (Eq.trans (by exact rwS (rY n (List.nodup_cons.mp nd).2) rfl) eK.symm)
section
variable{B:Bd}{u:Nat}{c:Ck}{G:Ev}{N Y Z:Nx}{g:Gt}{Q E:PV→Shared→Prop}
noncomputable def FrA(env:bA)(b:Addr):Prop:=b=env.locals∨∃x,env.cells.lookup x=some b
theorem At.stay{env:bA}{h h':Heap}{x:Str}{v:PV}(k:∀b o,FrA env b→h.get? b=some o→h'.get? b=some o)(a:At h env x v):At h' env x v :=
 a.keep (fun o e=>k _ o (.inl rfl) e) fun b o e1 e2=>k b o (.inr ⟨x,e1⟩) e2
theorem FrA.has(H:Gs B u c G N){b:Addr}(f:FrA G.env b):N.has b∧¬ chg N.μ b:=f.elim (fun e=>e▸H.go.eo.loc) fun ⟨x,e⟩=>H.go.eo.cells (x,b) (aC e)
theorem Gs.turn{F:Addr→Prop}(H:Gs B u c G N)(a:Aft B.D N F Y)(k:∀b o,FrA G.env b→N.s.heap.get? b=some o→Y.s.heap.get? b=some o):Gs B u c G Y :=
 ⟨⟨H.go.rm,H.go.eo.go a,fun x i d h1 h2 h3=>(H.go.fe x i d h1 h2 h3).elim fun w r=>⟨w,r.1.stay k,Val.on (B:=B) a r.2⟩,a.sm⟩,fun b f=>(H.pv b f).go a,H.ns.elim fun m n=>⟨m,n.at fun o e=>k _ o (.inl rfl) e⟩,
  fun x w h=>(H.cl x w h).elim fun b q=>q.elim fun v q=>⟨b,v,q.1,q.2.elim fun o r=>⟨o,k _ o (.inr ⟨x,q.1⟩) r.1,r.2⟩⟩,H.ap⟩
theorem oN(H:Gs B u c G N)(a:Aft B.D N noA Y):∀b o,FrA G.env b→N.s.heap.get? b=some o→Y.s.heap.get? b=some o:=fun b o f e=>a.old (f.has H).2 e
theorem pY{x:Str}{p:Pos}{v:PV}(H:Go B u c G N)(h3:(x==("__debug__":Str))=false)(h4:(x==("__classdict__":Str))=false)(at_:At N.s.heap G.env x v)(z:Q v N.s):Wp B G N (eval (.Name x p) G.env) Q E :=
 wpAny_Name (at_.elim (fun r=>r.2.elim fun m n=>wpAny_loadName_local H.eo.kind r.1 n.1 n.2 z) fun r=>r.2.elim fun b n =>
  r.1.elim (fun k=>wpAny_loadName_cell H.eo.kind k n.1 n.2 z) fun k=>wpAny_loadName_free H.eo.kind k n.1 n.2 z h4) h3
theorem Fr.fa{env:bA}{y:Addr}(f:Fr c env y):FrA env y:=f.imp id fun ⟨x,_,e⟩=>⟨x,e⟩
theorem Gs.wi{b:Addr}(H:Gs B u c G N)(sm:Sm B.D (N.wi b))(nf:∀y,FrA G.env y→y≠b):Gs B u c G (N.wi b) :=
 ⟨⟨H.go.rm,⟨H.go.eo.sc,H.go.eo.kind,H.go.eo.gl,H.go.eo.bi,H.go.eo.loc,H.go.eo.cells,H.go.eo.fr,H.go.eo.cx⟩,fun x i d h1 h2 h3=>(H.go.fe x i d h1 h2 h3).imp fun w r=>⟨r.1,cL Le.wi d w r.2⟩,sm⟩,
  fun y f=>⟨(H.pv y f).lt,fun w=>w.elim (H.pv y f).nw (nf y (Fr.fa f)),(H.pv y f).nm⟩,H.ns,H.cl,H.ap⟩
theorem Gs.tell{ρ:aP}{i:Nat}{x:Str}{v:PV}{d:V}(H:Gs B u c (G.to (ρ.set i none)) N)(nm:Nm c x i)(at_:At N.s.heap G.env x v)(rv:Val B N d v):Gs B u c (G.to (ρ.set i (some d))) N :=
 ⟨⟨H.go.rm,H.go.eo,fun y j d' h1 h2 h3=>by
  rcases pN h3 with ⟨rfl,e⟩ | ⟨hj,h3⟩
  ·cases nm.inj y h1
   obtain rfl:=Option.some.inj e
   exact⟨v,at_,rv⟩
  ·exact H.go.fe y j d' h1 h2 ((List.getElem?_set_ne hj).trans h3),H.go.sm⟩,H.pv,H.ns,H.cl,H.ap⟩
theorem uU{a:Addr}{kvs:List (Str × PV)}{key:Str}{tk:Tok}{v:PV}{Q:Unit→Shared→Prop}(sm:Sm B.D N)(pv:Pv N a)(t:IsDc B.D N.s.heap a kvs)(hl:kvs.length≤2000)
  (z:∀Y,Y.σ=N.σ→Aft B.D N (fun b=>b=a) Y→IsDc B.D Y.s.heap a (stored kvs key v)→(∀b o,b≠a→N.s.heap.get? b=some o→Y.s.heap.get? b=some o)→Q () Y.s):Wp B G N (setItem (.ref a) (.str key tk) v) Q E:=by
 refine wpAny_setItem_pairs (strKind_is _ _ _ _) t.2 (fun h' t' sb=>?_) (bR (Nat.le_trans hl (by decide)))
 have t2:IsDc B.D h' a (stored kvs key v):=⟨t.1,t'⟩
 exact z (N.at { N.s with heap:=h',toks:=N.s.toks+1 }) rfl (Aft.turn1 sm pv (fun c o n e=>sb.extBut c o n e) (t'.elim fun o q=>q.elim fun _ q=>q.elim fun _ q=>⟨o,q.1⟩)) t2 fun b o n e=>sb.extBut b o n e
theorem qR{oe ke:PE}{sp:Pos}{v:PV}{Q:Unit→Shared→Prop}(h:Wp B G N (eval oe G.env) (fun ov s₂=>wpAny (model B.D.prog B.D.w) G.A (eval ke G.env) (fun iv s₃=>wpAny (model B.D.prog B.D.w) G.A (setItem ov iv v) Q E s₃) E s₂) E):Wp B G N (assign (.Subscript oe ke sp) G.env v) Q E:=by
 delta Wp
 rw[assign_Subscript]
 exact wpAny_bind (wpAny_holding (wpAny_mono h (fun ov s h=>wpAny_bind (wpAny_holding (wpAny_mono h (fun iv s h=>wpAny_bind (wpAny_standAt (wpAny_bind (wpAny_holding (wpAny_mono h (fun _ s h=>wpAny_release h) fun _ _ x=>x))))) fun _ _ x=>x))) fun _ _ x=>x))
theorem vX{d:V}{K:List (V × V)→Prop}(e:oK (jM d) K):∃D,d=.dict D∧K D:=by
 cases d <;> first | exact⟨_,rfl,e⟩ | exact False.elim e
theorem aGn{d:V}{K:V × V→Prop}(e:oK (aPc d) K):∃a b,d=.tup [a,b]∧K (a,b):=by
 cases d with
 | tup l=>match l,e with
  | [a,b],e=>exact⟨a,b,rfl,e⟩
 | _=>exact False.elim e
theorem aAh{d:V}{v:PV}{K:Nat→Prop}(e:oK (aRm d) K)(r:Val B N d v):∃z tk,v=.str z tk∧strOk z=true∧K (aL z):=by
 cases d with
 | str s=>refine e23 r fun n tk e_2 hz e_4=>?_; subst e_2; subst e_4; exact⟨n,tk,rfl,hz,e⟩
 | _=>exact False.elim e
theorem aFg{i:Nat}{x:Str}{e gx nm m:X}{te tg tn1 tn2 tm:PE}{k1 k2 k3:Nat}{p1 p2 p3 p4 p5 p6 p7 p8 p9 pa pb pc pd pe pf:Pos}{xs:List S}{r:List Stmt}(nmx:Nm c x i)(h3:(x==("__debug__":Str))=false)(h4:(x==("__classdict__":Str))=false)
  (he:TF B u c e (fun env=>eval te env)) (hg:TF B u c gx (fun env=>eval tg env)) (hm:TE B u c m (fun env=>eval tm env)) (hn1:TE B u c nm (fun env=>eval tn1 env)) (hn2:TE B u c nm (fun env=>eval tn2 env))
  (s1:∀env:bA,env.scope=c.sc→swapsWith te (some (.Name x p1)) p2.line env=pure false) (s2:∀env:bA,env.scope=c.sc→swapsWith tg (some (.Subscript (.Name x p3) (.Constant (.str "") k1 p4) p5)) p6.line env=pure false)
  (s3:∀env:bA,env.scope=c.sc→swapsWithSole [.Tuple [.Subscript (.Name x p7) tn1 p8,.Subscript (.Subscript (.Name x p9) (.Constant (.str "") k2 pa) pb) tn2 pc] k3 pd] tm pe.line env=pure false)
  (s4:∀env:bA,env.scope=c.sc→swappedStores [.Tuple [.Subscript (.Name x p7) tn1 p8,.Subscript (.Subscript (.Name x p9) (.Constant (.str "") k2 pa) pb) tn2 pc] k3 pd] tm env=pure none)
  (h2:TSs B u c xs (fun env=>execs r env)) :
  TSs B u c (.letE i e gx nm m::xs) (fun env=>execs (.Assign [.Name x p1] te p2::.Assign [.Subscript (.Name x p3) (.Constant (.str "") k1 p4) p5] tg p6::.Assign [.Tuple [.Subscript (.Name x p7) tn1 p8,.Subscript (.Subscript (.Name x p9) (.Constant (.str "") k2 pa) pb) tn2 pc] k3 pd] tm pe::r) env):=fun G N Q E K H q z=>by
 refine wpAny_execs_cons (wpAny_Assign_Name (he G N _ E _ H.go q fun d Y a k0 af na pva rca=>?_) (s1 _ H.go.eo.sc))
 refine nnG fun nG=>?_; refine e12 (vX k0) fun D e_1 k0=>?_; subst e_1
 refine e12 rca fun kvs ta rda=>?_
 refine nG ?_; have nfa:∀b,FrA G.env b→b≠a:=fun b f e=>na (e▸(f.has H).1)
 refine sW (o:=none) (H.to af) nmx (fun _ e=>(nos e)) fun Y1 es1 b1 H1 at1=>?_
 have frA:∀b,Fr c G.env b→N.has b:=fun b f=>(H.pv b f).lt
 have keep1:∀b o,¬ N.has b→¬ chg Y.μ b→Y.s.heap.get? b=some o→Y1.s.heap.get? b=some o:=fun b o n nc e=>b1.kp b o e nc fun f=>n (frA b f)
 have ta1:IsDc B.D Y1.s.heap a kvs:=ta.at fun o e=>keep1 a o na pva.nc e
 have pva1:=pva.go b1
 rw[← es1]at k0
 refine wpAny_execs_cons (wpAny_Assign_Subscript (hg (G.to (G.ρ.set i none)) Y1 _ E _ H1.go k0 fun d2 Y2 b k0 af2 nb pvb rcb=>?_) (s2 _ H.go.eo.sc))
 refine nnG fun nG=>?_; refine e12 (vX k0) fun C e_1 k0=>?_; subst e_1
 refine e02 (eQ k0) fun lb k0=>?_
 have lD:D.length≤1000:=of_decide_eq_true (aB lb)
 have lC:C.length≤1000:=of_decide_eq_true (aA lb)
 refine e12 rcb fun kvb tb rdb=>?_
 refine nG ?_; have nab:b≠a:=fun e=>nb (e▸pva1.lt)
 have nfb:∀y,FrA G.env y→y≠b:=fun y f e=>nb (e▸(FrA.has H1 f).1)
 have H2:=H1.to af2
 have at2:=at1.stay (oN H1 af2)
 have ta2:IsDc B.D Y2.s.heap a kvs:=ta1.at fun o e=>af2.old pva1.nc e
 refine pY (G:=G.to (G.ρ.set i none)) H2.go h3 h4 at2 (wpAny_Constant_str ?_)
 have tk2:=H2.go.toks (Y2.s.toks+1)
 have lk:kvs.length≤1000:=bM rda▸lD
 refine uU (G:=G.to (G.ρ.set i none)) (N:=Y2.tk (Y2.s.toks+1)) tk2.sm ((pva1.go af2).go tk2) ta2 (Nat.le_trans lk (by decide)) fun Y3 es3 b3 ta3 kp3=>?_
 have H3:=(H2.to tk2).turn b3 fun y o f e=>kp3 y o (nfa y f) e
 have at3:At Y3.s.heap G.env x (.ref a):=At.stay (h:=Y2.s.heap) (fun y o f e=>kp3 y o (nfa y f) e) at2
 have tb3:IsDc B.D Y3.s.heap b kvb:=tb.at fun o e=>kp3 b o nab e
 have pva3:=((pva1.go af2).go tk2).go b3
 have pvb3:=(pvb.go tk2).go b3
 rw[show Y2.σ=Y3.σ from es3.symm]at k0
 refine wpAny_execs_cons (Assign_Tuple (hm (G.to (G.ρ.set i none)) Y3 _ E _ H3.go k0 fun d4 Y4 v k0 af4 rv=>?_) (s3 _ H.go.eo.sc) (s4 _ H.go.eo.sc))
 refine nnG fun nG=>?_; refine e22 (aGn k0) fun x1 x2 e_2 k0=>?_; subst e_2
 obtain⟨t0,arr,rfl,wa,tt,v1,l1,e1,r1,v2,l2,e2,r2,e3⟩:=rv
 refine nG ?_; have earr:arr.toList=[v1,v2]:=by exact rwS e1 (rwS e2 (rwS e3 rfl))
 rw[assign_Tuple]
 refine wpAny_bind (wpAny_standAt (fD (N:=Y4) H.go.rm.hand (IsTp.tup tt) (by refine rwS (dD rfl) (rwS (dD rfl) (rwT Array.length_toList (rwS earr ?_))); rfl) (by refine rwS (dD rfl) (rwS (dD rfl) ?_); rfl) fun s' mm=>?_))
 refine rwS (dD rfl) (rwS (dD rfl) (rwS earr ?_))
 have b4:=mm.aft af4.sm
 have a4:=af4.trans b4
 have H4:=H3.to a4
 have at4:=at3.stay (oN H3 a4)
 have ta4:IsDc B.D (Y4.at s').s.heap a _:=ta3.at fun o e=>a4.old pva3.nc e
 have tb4:IsDc B.D (Y4.at s').s.heap b kvb:=tb3.at fun o e=>a4.old pvb3.nc e
 refine assignInOrder_cons (qR (G:=G.to (G.ρ.set i none)) (N:=Y4.at s') (pY (G:=G.to (G.ρ.set i none)) H4.go h3 h4 at4 (hn1 (G.to (G.ρ.set i none)) (Y4.at s') _ E _ H4.go k0 fun n5 Y5 vk k0 af5 rk=>?_)))
 refine e23 (aAh k0 rk) fun z1 t1 e_2 hz1 k0=>?_; subst e_2
 refine e02 (eQ k0) fun nz k0=>?_
 have nz:aL z1≠0:=of_decide_eq_true nz
 have pva5:=(pva3.go a4).go af5
 have pvb5:=(pvb3.go a4).go af5
 have at5:=at4.stay (oN H4 af5)
 have ta5:IsDc B.D Y5.s.heap a _:=ta4.at fun o e=>af5.old (pva3.go a4).nc e
 have tb5:IsDc B.D Y5.s.heap b kvb:=tb4.at fun o e=>af5.old (pvb3.go a4).nc e
 have l5:(stored kvs ("":Str) (Value.ref b)).length≤2000:=Nat.le_trans (stored_length_le kvs "" (.ref b)) (Nat.le_trans (Nat.succ_le_succ lk) (by decide))
 refine uU (G:=G.to (G.ρ.set i none)) (N:=Y5) af5.sm pva5 ta5 l5 fun Y6 es6 b6 ta6 kp6=>?_
 have H6:=(H4.to af5).turn b6 fun y o f e=>kp6 y o (nfa y f) e
 have at6:At Y6.s.heap G.env x (.ref a):=At.stay (h:=Y5.s.heap) (fun y o f e=>kp6 y o (nfa y f) e) at5
 have tb6:IsDc B.D Y6.s.heap b kvb:=tb5.at fun o e=>kp6 b o nab e
 have nd1:=fQ ta
 have hv:valueAt (stored (stored kvs ("":Str) (Value.ref b)) z1 v1) ("":Str)=some (.ref b):=by
  exact rwS (rY (fun e=>nz (by rw[e]; rfl)) (fA nd1)) (rwS (xH nd1) rfl)
 rw[show Y5.σ=Y6.σ from es6.symm]at k0
 refine assignInOrder_cons (qR (G:=G.to (G.ρ.set i none)) (N:=Y6) (Subscript_ (pY (G:=G.to (G.ρ.set i none)) H6.go h3 h4 at6 (wpAny_Constant_str (tail_any ta6.2.typeIs slot_dict_getitem.lookup (wpAny_getItem_of (strKind_is _ _ _ _) ta6.2.mapOf hv ?_) (dK rfl))))))
 refine hn2 (G.to (G.ρ.set i none)) (Y6.tk (Y6.s.toks+1+1)) _ E _ (H6.to (H6.go.toks (Y6.s.toks+1+1))).go k0 fun n8 Y8 vk8 k0 af8 rk8=>?_
 refine e23 (aAh k0 rk8) fun z2 t2 e_2 hz2 k0=>?_; subst e_2
 have a8:=(H6.go.toks (Y6.s.toks+1+1)).trans af8
 have at8:=at6.stay (oN H6 a8)
 have ta8:IsDc B.D Y8.s.heap a _:=ta6.at fun o e=>a8.old (pva5.go b6).nc e
 have tb8:IsDc B.D Y8.s.heap b kvb:=tb6.at fun o e=>a8.old (pvb5.go b6).nc e
 have lkb:kvb.length≤1000:=bM rdb▸lC
 refine uU (G:=G.to (G.ρ.set i none)) (N:=Y8) af8.sm ((pvb5.go b6).go a8) tb8 (Nat.le_trans lkb (by decide)) fun Y9 es9 b9 tb9 kp9=>?_
 have at9:At Y9.s.heap G.env x (.ref a):=At.stay (h:=Y8.s.heap) (fun y o f e=>kp9 y o (nfb y f) e) at8
 have ta9:IsDc B.D Y9.s.heap a _:=ta8.at fun o e=>kp9 a o nab.symm e
 have le39:Le Y3 Y9:=((a4.le.trans af5.le).trans b6.le).trans (a8.le.trans b9.le)
 have le49:Le Y4 Y9:=((b4.le.trans af5.le).trans b6.le).trans (a8.le.trans b9.le)
 have pva9:=((pva5.go b6).go a8).go b9
 refine assignInOrder_nil ?_
 rw[show Y8.σ=Y9.σ from es9.symm]at k0
 have nbN:¬ N.has b:=fun h=>nb (b1.ex _ (af.ex _ h))
 have pvaB:Pv (Y9.wi b) a:=⟨pva9.lt,fun w=>w.elim pva9.nw fun e=>nab e.symm,pva9.nm⟩
 have lw:Le Y9 ((Y9.wi b).wi a):=Le.trans Le.wi Le.wi
 have ld:Le Y ((Y9.wi b).wi a):=((((b1.le.trans af2.le).trans tk2.le).trans b3.le).trans le39).trans lw
 have l2':Le Y2 ((Y9.wi b).wi a):=((tk2.le.trans b3.le).trans le39).trans lw
 have rb:Val B ((Y9.wi b).wi a) (.dict (aS (.str (aL z2)) x2 C)) (.ref b):=sZ (.inl (.inr rfl)) ⟨_,tb9,eI hz2 (cL (le49.trans lw) _ _ r2) (cX l2' _ _ rdb) (fQ tb)⟩
 have ra:Val B ((Y9.wi b).wi a) (.dict (tE D C (aL z1) (aL z2) (x1,x2))) (.ref a):=sZ (.inr rfl) ⟨_,ta9,eI hz1 (cL (le49.trans lw) _ _ r1) (eI (z:="") rfl rb (cX ld _ _ rda) nd1) (fA nd1)⟩
 exact h2 (G.to (G.ρ.set i (some (.dict (tE D C (aL z1) (aL z2) (x1,x2)))))) ((Y9.wi b).wi a) Q E K (((((H6.to a8).turn b9 fun y o f e=>kp9 y o (nfb y f) e).wi (((((((((((af.up.trans b1).trans af2.up).trans tk2.up).then b3 fun c e=>e▸na).trans af4.up).trans b4.up).trans af5.up).then b6 fun c e=>e▸na).trans a8.up).then b9 fun c e=>e▸nbN).wi (((pvb5.go b6).go a8).go b9) nbN).sm nfb).wi ((((((((((((af.up.trans b1).trans af2.up).trans tk2.up).then b3 fun c e=>e▸na).trans af4.up).trans b4.up).trans af5.up).then b6 fun c e=>e▸na).trans a8.up).then b9 fun c e=>e▸nbN).wi (((pvb5.go b6).go a8).go b9) nbN).wi pvaB na).sm nfa).tell nmx at9 ra) k0 (z.after (ρ:=G.ρ.set i (some (.dict (tE D C (aL z1) (aL z2) (x1,x2))))) ((((((((((((af.up.trans b1).trans af2.up).trans tk2.up).then b3 fun c e=>e▸na).trans af4.up).trans b4.up).trans af5.up).then b6 fun c e=>e▸na).trans a8.up).then b9 fun c e=>e▸nbN).wi (((pvb5.go b6).go a8).go b9) nbN).wi pvaB na))
end
mutual
theorem zH:∀(a:V) {b:V},V.beq a b=true→a=b
 | .none,b,h=>by cases b <;> first | rfl | exact absurd h Bool.false_ne_true
 | .bool x,b,h=>by cases b <;> first | exact congrArg V.bool (eq_of_beq h) | exact absurd h Bool.false_ne_true
 | .int x,b,h=>by cases b <;> first | exact congrArg V.int (of_decide_eq_true h) | exact absurd h Bool.false_ne_true
 | .str x,b,h=>by cases b <;> first | exact congrArg V.str (of_decide_eq_true h) | exact absurd h Bool.false_ne_true
 | .loc x,b,h=>by cases b <;> first | exact congrArg V.loc (of_decide_eq_true h) | exact absurd h Bool.false_ne_true
 | .tup l,b,h=>by cases b <;> first | exact congrArg V.tup (nX l h) | exact absurd h Bool.false_ne_true
 | .list l,b,h=>by cases b <;> first | exact congrArg V.list (nX l h) | exact absurd h Bool.false_ne_true
 | .dict l,b,h=>by cases b <;> first | exact congrArg V.dict (aAo l h) | exact absurd h Bool.false_ne_true
theorem nX:∀(a:List V) {b:List V},jQ a b=true→a=b
 | [],b,h=>by cases b <;> first | rfl | exact absurd h Bool.false_ne_true
 | x::r,b,h=>by cases b <;> first | exact(have w:=Bool.and_eq_true_iff.mp h; List.cons_eq_cons.mpr ⟨zH x w.1,nX r w.2⟩) | exact absurd h Bool.false_ne_true
theorem aAo:∀(a:List (V × V)) {b:List (V × V)},aGj a b=true→a=b
 | [],b,h=>by cases b <;> first | rfl | exact absurd h Bool.false_ne_true
 | (x,y)::r,b,h=>by cases b <;> first | exact(have w:=Bool.and_eq_true_iff.mp h; have z:=Bool.and_eq_true_iff.mp w.2; List.cons_eq_cons.mpr ⟨Prod.ext (zH x w.1) (zH y z.1),aAo r z.2⟩) | exact absurd h Bool.false_ne_true
end
theorem aGb{g:Option Nat}{l:List V}{σ:St}(h:dZ g l σ=true):rB g l σ:=by
 cases g with
 | none=>trivial
 | some n =>
  show σ[n]?=_
  have h:stO l σ[n]?=true:=h
  generalize σ[n]?=o at h ⊢
  cases o with
  | none=>exact absurd h Bool.false_ne_true
  | some o=>cases o <;> first | exact congrArg (fun l=>some (SObj.list l)) (nX _ h) | exact absurd h Bool.false_ne_true
theorem mH{g:Option Nat}{l:List V}{σ:St}{p:Prop}(h:bK (dZ g l σ) p):rB g l σ∧p:=⟨aGb (eQ h).1,(eQ h).2⟩
structure ItOk(D:Wd)(tg:PE)(I:Addr)(fp:Addr→Prop)(J:Nat→Nx→Prop)(vs:List V)(g:Option Nat):Prop where
 jm:∀(k:Nat) (N Y:Nx),Le N Y→(∀b,fp b→∀o,N.s.heap.get? b=some o→Y.s.heap.get? b=some o)→J k N→J k Y
 item:∀(A:Around) (k:Nat) (d:V) (N:Nx) (Q:PV→Shared→Prop) (E E':PV→Shared→Prop),A.handled=none→vs[k]?=some d→J k N→Sm D N→(∀b,fp b→Pv N b)→rB g vs N.σ →
  (∀v Y,J (k+1) Y→Aft D N fp Y→Y.σ=N.σ→RV D Y d v→Q v Y.s)→wpAny (model D.prog D.w) A (pyNext (.ref I)) (fun r s₁=>∃v,r=some v∧wpAny (model D.prog D.w) A (letOwnedTupleGo tg (.ref I) v) (fun _ s₂=>Q v s₂) E' s₁) E N.s
 stop:∀(A:Around) (N:Nx) (Q:Shared→Prop) (E:PV→Shared→Prop),A.handled=none→J vs.length N→Sm D N→rB g vs N.σ →
  (∀s₁:Shared,(∀b o,N.s.heap.get? b=some o→¬ fp b→s₁.heap.get? b=some o)→s₁.gens=N.s.gens→s₁.os=N.s.os→Q s₁)→wpAny (model D.prog D.w) A (pyNext (.ref I)) (fun r s₁=>r=none∧Q s₁) E N.s
 self:∀(A:Around) (k:Nat) (N:Nx) (Q:PV→Shared→Prop) (E:PV→Shared→Prop),J k N→Q (.ref I) N.s→wpAny (model D.prog D.w) A (pyIter (.ref I)) Q E N.s
noncomputable def kL(n:String):Bool:=["enumerate","zip","dict_itemiterator","dict_reverseitemiterator","odict_iterator","itertools.zip_longest","itertools.pairwise"].contains n
noncomputable def Itr(nm:String)(h:Heap)(a l:Addr)(i:Nat):Prop:=∃o,h.get? a=some o∧o.cls=.type nm∧o.data=.fields #[.ref l,.int i 0]
noncomputable def Cn(D:Wd)(g:Option Nat)(vs:List V)(T:Heap→Addr→Array PV→Prop)(l:Addr)(C:Nx→Prop):Prop :=
 (∀N Y,Le N Y→C N→C Y)∧∀N,Sm D N→rB g vs N.σ→C N→∃arr,T N.s.heap l arr∧RVs D N vs arr.toList
section
variable{D:Wd}{A:Around}{N:Nx}{tg:PE}{vs:List V}{g:Option Nat}{it l:Addr}{C:Nx→Prop}
theorem qJ{s:Shared}{I:Addr}{v:PV}{o:Obj}{n:String}{vs:Array PV}{Q:Unit→Shared→Prop}{E:PV→Shared→Prop}(ho:s.heap.get? I=some o)(hc:o.cls=.type n)(hd:o.data=.fields vs)(hn:kL n=false)(q:Q () s) :
  wpAny (model D.prog D.w) A (letOwnedTupleGo tg (.ref I) v) Q E s:=by
 have core:wpAny (model D.prog D.w) A (do
   let (.ref r,.ref a):=((.ref I,v):PV × PV) | return
   let o ← load r
   match o.cls,o.data with
   | .type n,.fields vs =>
    if ["enumerate","zip","dict_itemiterator","dict_reverseitemiterator","odict_iterator","itertools.zip_longest","itertools.pairwise"].contains n&&vs[0]? == some (rawInt a) then
     rule "for.unpacks-the-owned-tuple"
     updateField r 0 .none
   | _,_=>pure ():Sem Unit) Q E s:=by
  cases v with
  | ref T =>
   refine wpAny_bind (wpAny_load ho ?_)
   refine rwS hc (rwS hd ?_)
   show wpAny _ _ (if (kL n&&_)=true then _ else _) _ _ _
   refine rwS hn ?_
   exact wpAny_pure q
  | _=>exact wpAny_pure q
 cases tg <;> first | exact core | exact wpAny_pure q
theorem jK{arr:Array PV}{k:Nat}{x:Option PV}(h:arr.toList[k]?=x):arr[k]?=x:=by refine rwT (Array.getElem?_toList) ?_; exact h
theorem qD{arr:Array PV}(r:RVs D N vs arr.toList):arr[vs.length]?=none:=jK (List.getElem?_eq_none (Nat.le_of_eq (aV r)))
theorem aFz{nm:String}{T:Heap→Addr→Array PV→Prop}(hn:kL nm=false)(hc:Cn D g vs T l C)
  (hi:∀{A:Around} {s:Shared} {i:Nat} {arr:Array PV} {x:PV} {Q:Option PV→Shared→Prop} {E:PV→Shared→Prop},Itr nm s.heap it l i→T s.heap l arr→arr[i]?=some x→(∀h',Itr nm h' it l (i+1)→Heap.SameBut it s.heap h'→Q (some x) { s with heap:=h' })→wpAny (model D.prog D.w) A (pyNext (.ref it)) Q E s)
  (he:∀{A:Around} {s:Shared} {i:Nat} {arr:Array PV} {Q:Option PV→Shared→Prop} {E:PV→Shared→Prop},A.handled=none→Itr nm s.heap it l i→T s.heap l arr→arr[i]?=none→(∀h',Heap.ExtBut it s.heap h'→Q none { s with heap:=h' })→wpAny (model D.prog D.w) A (pyNext (.ref it)) Q E s)
  (hs:∀{A:Around} {s:Shared} {i:Nat} {Q:PV→Shared→Prop} {E:PV→Shared→Prop},Itr nm s.heap it l i→Q (.ref it) s→wpAny (model D.prog D.w) A (pyIter (.ref it)) Q E s) :
  ItOk D tg it (fun b=>b=it) (fun k N=>Itr nm N.s.heap it l k∧C N) vs g :=
 ⟨fun k N Y le hk j=>⟨j.1.elim fun o q=>⟨o,hk it rfl o q.1,q.2⟩,hc.1 N Y le j.2⟩,
  fun A k d N Q E E' hh hv j m pv st q=>(hc.2 N m st j.2).elim fun arr w=>(eF w.2 hv).elim fun x r=>hi j.1 w.1 (jK r.1) fun h' j2 sb =>
   have a:=Aft.turn1 (t:=N.s.toks) m (pv it rfl) (fun c o n e=>sb.extBut c o n e) (j2.elim fun o q=>⟨o,q.1⟩)
   ⟨x,rfl,j2.elim fun o w=>qJ w.1 w.2.1 w.2.2 hn (q x (N.at { N.s with heap:=h' }) ⟨j2,hc.1 _ _ a.le j.2⟩ a rfl (cL a.le d x r.2))⟩,
  fun A N Q E hh j m st q=>(hc.2 N m st j.2).elim fun arr w=>he hh j.1 w.1 (qD w.2) fun h' sb=>⟨rfl,q { N.s with heap:=h' } (fun b o e n=>sb b o n e) rfl rfl⟩,
  fun A k N Q E j q=>hs j.1 q⟩
theorem aAw(hc:Cn D g vs Heap.IsList l C):ItOk D tg it (fun b=>b=it) (fun k N=>Itr "list_iterator" N.s.heap it l k∧C N) vs g :=
 aFz (by decide) hc (fun a b c q=>wpAny_pyNext_list_item a b c q) (fun a b c d q=>wpAny_pyNext_list_end a b c d q) fun a q=>wpAny_pyIter_listiter a q
theorem aHw(hc:Cn D g vs Heap.IsTuple l C):ItOk D tg it (fun b=>b=it) (fun k N=>Itr "tuple_iterator" N.s.heap it l k∧C N) vs g :=
 aFz (by decide) hc (fun a b c q=>wpAny_pyNext_tuple_item a b c q) (fun a b c d q=>wpAny_pyNext_tuple_end a b c d q) fun a q=>wpAny_pyIter_tupleiter a q
theorem aGo{n k:Nat}{d:V}(h:((List.range n).map fun (k:Nat)=>V.int k)[k]?=some d):k<n∧d=.int k:=by
 have l:=(List.getElem?_eq_some_iff.mp h).1
 rw[List.length_map,List.length_range]at l
 rw[List.getElem?_map,List.getElem?_range l]at h
 exact⟨l,(Option.some.inj h).symm⟩
theorem aEw{n:Nat}:ItOk D tg it (fun b=>b=it) (fun k N=>IsRangeIter N.s.heap it k (n - k:Int) 1) ((List.range n).map fun (k:Nat)=>V.int k) none :=
 ⟨fun k N Y le hk j=>hk it rfl _ j,
  fun A k d N Q E E' hh hv j m pv st q=>have w:=aGo hv
   wpAny_pyNext_range_item j (Int.sub_pos.mpr (Int.ofNat_lt.mpr w.1)) fun h' j2 sb =>
    ⟨_,rfl,qJ j2 rfl rfl (by decide) (q _ (N.at { N.s with heap:=h',toks:=N.s.toks+1 }) (by
     show IsRangeIter h' it ((k+1:Nat):Int) ((n:Int) - ((k+1:Nat):Int)) 1
     rw[Int.natCast_add,← Int.sub_sub]; exact j2) (Aft.turn1 (t:=N.s.toks+1) m (pv it rfl) (fun c o n e=>sb.extBut c o n e) ⟨_,j2⟩) rfl (by refine rwS w.2 ?_; exact⟨_,rfl⟩))⟩,
  fun A N Q E hh j m st q=>wpAny_pyNext_range_end hh j (by rw[List.length_map,List.length_range]; exact Int.le_of_eq (Int.sub_self _)) fun h' sb=>⟨rfl,q { N.s with heap:=h' } (fun b o e n=>sb b o n e) rfl rfl⟩,
  fun A k N Q E j q=>wpAny_pyIter_rangeiter j q⟩
theorem pW{F:Addr→Prop}{s:Shared}{T:Addr}{a b:PV}(m:Sm D N)(hF:∀b,F b→Pv N b)(k:∀b o,N.s.heap.get? b=some o→¬ F b→s.heap.get? b=some o)(z:∀a,F a→∃o,s.heap.get? a=some o)(g:s.gens=N.s.gens)(os:s.os=N.s.os)(hT:IsPair s.heap T a b)(nT:¬ N.has T) :
  Aft D N F ((N.at s).wi T)∧∀{d1 d2},RV D ((N.at s).wi T) d1 a→RV D ((N.at s).wi T) d2 b→RV D ((N.at s).wi T) (.tup [d1,d2]) (.ref T) :=
 ⟨(Aft.turn m hF k (fun a f=>Option.isSome_iff_exists.mpr (z a f)) g os).wi ⟨Option.isSome_iff_exists.mpr ⟨_,hT⟩,fun w=>nT (m.wd T w),fun p hp=>⟨fun e=>nT (e▸(m.lt p hp).1),fun e=>nT (e▸(m.lt p hp).2)⟩⟩ nT,
  fun r1 r2=>⟨T,_,rfl,.inr rfl,⟨_,hT⟩,_,_,rfl,r1,_,_,rfl,r2,rfl⟩⟩
theorem aNm{k:Nat}{d:V}(h:((List.range vs.length).zip vs |>.map fun (q:Nat × V)=>V.tup [.int q.1,q.2])[k]?=some d):∃x,vs[k]?=some x∧d=.tup [.int k,x]:=by
 rw[List.getElem?_map]at h
 refine nnG fun nG=>?_; obtain⟨⟨a,x⟩,e1,e2⟩:=Option.map_eq_some_iff.mp h
 refine nG ?_; have e3:=List.getElem?_zip_eq_some.mp e1
 have l:=(List.getElem?_eq_some_iff.mp e3.1).1
 rw[List.length_range]at l
 exact⟨x,e3.2,by exact rwT e2 (rwT (Option.some.inj ((List.getElem?_range l).symm.trans e3.1)) rfl)⟩
theorem aLm{elts:List PE}{x1:Nat}{tp:Pos}{e:Addr}(hei:e≠it)(hc:Cn D none vs Heap.IsList l C) :
  ItOk D (.Tuple elts x1 tp) e (fun b=>b=e∨b=it) (fun k N=>(∃old,IsEnum N.s.heap e it (k:Int) old)∧Itr "list_iterator" N.s.heap it l k∧C N) ((List.range vs.length).zip vs |>.map fun (q:Nat × V)=>V.tup [.int q.1,q.2]) none :=
 ⟨fun k N Y le hk j=>⟨j.1.elim fun old q=>⟨old,hk e (.inl rfl) _ q⟩,j.2.1.elim fun o q=>⟨o,hk it (.inr rfl) o q.1,q.2⟩,hc.1 N Y le j.2.2⟩,
  fun A k d N Q E E' hh hv j m pv st q=>(aNm hv).elim fun y w=>(hc.2 N m trivial j.2.2).elim fun arr t=>(eF t.2 w.1).elim fun v r=>j.1.elim fun old h1 =>
   wpAny_pyNext_enum_item h1 j.2.1 t.1 (x:=v) (jK r.1) hei fun h' h3 h4 h5 h6 k1=>⟨_,rfl,wpAny_letOwnedTupleGo_enum h3 fun h'' h7 sb =>
    have hne:N.s.heap.objs.size≠e:=fun z=>aY (z▸cI h1)
    have i2:Itr "list_iterator" h'' it l (k+1):=h4.elim fun o q=>⟨o,sb.extBut it o hei.symm q.1,q.2⟩
    have a:=pW (s:={ N.s with heap:=h'',toks:=N.s.toks+1 }) m pv (fun b o eo n=>sb.extBut b o (fun z=>n (.inl z)) (k1 b o (fun z=>n (.inl z)) (fun z=>n (.inr z)) eo)) (fun a f=>f.elim (fun f=>⟨_,f▸h7⟩) fun f=>i2.elim fun o q=>⟨o,f▸q.1⟩) rfl rfl (sb.extBut _ _ hne h5) aY
    q _ _ ⟨⟨_,by rw[Int.natCast_add]; exact h7⟩,i2,hc.1 _ _ a.1.le j.2.2⟩ a.1 rfl (by refine rwS w.2 ?_; exact a.2 ⟨_,rfl⟩ (cL a.1.le y v r.2))⟩,
  fun A N Q E hh j m st q=>(hc.2 N m trivial j.2.2).elim fun arr t=>j.1.elim fun old h1=>by
   have z:((List.range vs.length).zip vs |>.map fun (q:Nat × V)=>V.tup [.int q.1,q.2]).length=vs.length:=by rw[List.length_map,List.length_zip,List.length_range,Nat.min_self]
   have j2:=j.2.1
   rw[z]at h1 j2
   exact wpAny_pyNext_enum_end hh h1 j2 t.1 (qD t.2) fun h' sb=>⟨rfl,q { N.s with heap:=h' } (fun b o e n=>sb b o (fun z=>n (.inr z)) e) rfl rfl⟩,
  fun A k N Q E j q=>j.1.elim fun _ h1=>wpAny_pyIter_enum h1 q⟩
end
noncomputable def TSr(B:Bd)(u:Nat)(c:Ck)(tg:PE)(x:Src)(t:PE):Prop :=
 ∀(G:Ev) (N:Nx) (Q E:PV→Shared→Prop) (K:List V × Option Nat→St→Prop),Go B u c G N→aTf B.P B.T x G.ρ N.σ K →
  (∀vs g Y I fp J,K (vs,g) Y.σ→ItOk B.D tg I fp J vs g→J 0 Y→Aft B.D N noA Y→(∀b,fp b→¬ N.has b∧Pv Y b)→Q (.ref I) Y.s) →
  Wp B G N (eval t G.env) (fun x s₁=>wpAny (model B.D.prog B.D.w) G.A (pyIter x) Q E s₁) E
noncomputable def aGs(l:List V)(p:V→Prop):Prop:=match l with
 | [v]=>p v
 | _=>False
theorem nY{l:List V}{p:V→Prop}(h:aGs l p):∃v,l=[v]∧p v:=match l,h with
 | [v],h=>⟨v,rfl,h⟩
section
variable{D:Wd}{A:Around}{N:Nx}{g:Option Nat}{it l:Addr}{C:Nx→Prop}
theorem aBd{vs:List V}{b:Addr}:Cn D none vs Heap.IsTuple b fun N=>N.W b∧∃arr,IsTp N.s.heap b arr∧RVs D N vs arr.toList :=
 ⟨fun N Y le h=>h.2.elim fun arr q=>have w:=q.1.le le h.1; ⟨w.1,arr,w.2,fI le _ _ q.2⟩,fun N m st h=>h.2.elim fun arr q=>⟨arr,q.1.tup,q.2⟩⟩
theorem sJ{vs:List V}{b:Addr}:Cn D none vs Heap.IsList b fun N=>N.W b∧∃arr,IsLs N.s.heap b arr∧RVs D N vs arr.toList :=
 ⟨fun N Y le h=>h.2.elim fun arr q=>have w:=q.1.le le h.1; ⟨w.1,arr,w.2,fI le _ _ q.2⟩,fun N m st h=>h.2.elim fun arr q=>⟨arr,q.1.list,q.2⟩⟩
theorem aOg{vs:List V}{n:Nat}{p:Addr × Addr}:Cn D (some n) vs Heap.IsList p.1 fun N=>N.μ[n]?=some p :=
 ⟨fun N Y le h=>le.m _ _ h,fun N m st h=>(m.obj n _ p st h).2.elim fun arr q=>⟨arr,q.1.list,q.2⟩⟩
theorem aTp:∀{d:List (V × V)} {v:List (Str × PV)},RVd D N d v→∀{i:Nat} {q:V × V},d[i]?=some q→∃y u,v[i]?=some (y,u)∧(q.1=.str (aL y)∧strOk y=true)∧RV D N q.2 u:=by
 intro d
 induction d with
 | nil=>intro v r i q e; exact nos e
 | cons x l ih =>
  intro v r i q e
  refine e34 r fun n w t e_3 hk r1 r2=>?_; subst e_3
  cases i with
  | zero=>obtain rfl:=Option.some.inj e; exact⟨n,w,rfl,hk,r1⟩
  | succ i=>exact ih r2 (i:=i) e
theorem qN:entryFor table "dict_itemiterator.__iter__"=some Builtin.«dict_keyiterator.__iter__» :=
 entryFor_alias (id':="dict_keyiterator.__iter__") (by kernel_rfl) (by first | rfl | decide +kernel | (unfold String.splitOn; simp +decide [String.splitOnAux])) (by decide +kernel) (by kernel_rfl)
theorem nQ{prog:Program}{w:World}{s:Shared}{d:Addr}{i n ep:Nat}{ok ov:PV}{Q:PV→Shared→Prop}{E:PV→Shared→Prop}(hit:IsItemIter s.heap it d i n ep ok ov)(h:Q (.ref it) s):wpAny (model prog w) A (pyIter (.ref it)) Q E s :=
 have hT:s.TypeIs (.ref it) "dict_itemiterator":=⟨_,hit,rfl⟩
 wpAny_pyIter_slot hT PySem.F.slot_dict_itemiterator_iter (wpAny_call_entry PySem.F.slot_dict_itemiterator_iter hT qN (show wpAny _ _ (ret (.ref it)) _ _ s from wpAny_pure ⟨_,rfl,"dict_itemiterator",_,hT,PySem.F.slot_dict_itemiterator_next.lookup,h⟩) (PySem.F.args_dict_itemiterator_iter_1 _))
theorem aGp{elts:List PE}{x1:Nat}{tp:Pos}{d:Addr}{vs:List (V × V)}{n ep:Nat} :
  ItOk D (.Tuple elts x1 tp) it (fun b=>b=it) (fun k N=>(∃ok ov,IsItemIter N.s.heap it d k n ep ok ov)∧N.W d∧∃kvs,N.s.heap.DictAt (SK D) d kvs ep∧RVd D N vs kvs∧n=kvs.length) (vs.map fun (q:V × V)=>V.tup [q.1,q.2]) none :=
 have go:∀{N Y:Nx},Le N Y→(N.W d∧∃kvs,N.s.heap.DictAt (SK D) d kvs ep∧RVd D N vs kvs∧n=kvs.length)→Y.W d∧∃kvs,Y.s.heap.DictAt (SK D) d kvs ep∧RVd D Y vs kvs∧n=kvs.length:=fun {N Y} le j =>
  ⟨j.2.elim fun kvs q=>q.1.elim fun o q=>q.elim fun es q=>(le.w d _ j.1 q.1).2,j.2.elim fun kvs q=>⟨kvs,q.1.elim fun o r=>r.elim fun es r=>⟨o,es,(le.w d _ j.1 r.1).1,r.2⟩,cX le _ _ q.2.1,q.2.2⟩⟩
 ⟨fun k N Y le hk j=>⟨j.1.elim fun ok q=>q.elim fun ov q=>⟨ok,ov,hk it rfl _ q⟩,go le j.2⟩,
  fun A k dd N Q E E' hh hv j m pv st q=>by
   refine nnG fun nG=>?_; obtain⟨⟨ok,ov,h1⟩,wd,kvs,t,rs,e0⟩:=id j
   refine nG ?_; rw[e0]at h1
   rw[List.getElem?_map]at hv
   refine nnG fun nG=>?_; refine e12 (Option.map_eq_some_iff.mp hv) fun p hp hd=>?_
   refine e23 (aTp rs hp) fun y v e1 hk rv=>?_
   refine nG ?_; refine wpAny_pyNext_items_item h1 t e1 fun key h' hkey h3 h5 h6 k1=>⟨_,rfl,wpAny_letOwnedTupleGo_items h3 fun h'' h7 sb=>?_⟩
   have hne:N.s.heap.objs.size≠it:=fun z=>aY (z▸cI h1)
   have a:=pW (s:={ N.s with heap:=h'' }) m pv (fun b o eo n=>sb.extBut b o n (k1 b o n eo)) (fun a f=>⟨_,f▸h7⟩) rfl rfl (sb.extBut _ _ hne h5) aY
   refine nnG fun nG=>?_; obtain⟨tk,rfl⟩:=Value.isStrOf_shape hkey
   refine nG ?_; rw[← e0]at h7
   exact q _ _ ⟨⟨_,_,h7⟩,go a.1.le j.2⟩ a.1 rfl (by refine rwT hd ?_; exact a.2 (by refine rwS hk.1 ?_; exact⟨y,tk,rfl,hk.2,rfl⟩) (cL a.1.le _ v rv)),
  fun A N Q E hh j m st q=>by
   refine nnG fun nG=>?_; obtain⟨⟨ok,ov,h1⟩,wd,kvs,t,rs,e0⟩:=j
   refine nG ?_; rw[List.length_map,← bM rs,e0]at h1
   exact wpAny_pyNext_items_end hh h1 t (List.getElem?_eq_none (Nat.le_refl _)) fun h' sb=>⟨rfl,q { N.s with heap:=h' } (fun b o e n=>sb b o n e) rfl rfl⟩,
  fun A k N Q E j q=>j.1.elim fun _ w=>w.elim fun _ w=>nQ w q⟩
end
section
variable{B:Bd}{u:Nat}{c:Ck}{G:Ev}{N Y Z:Nx}{g:Gt}
theorem aMh{tg:PE}{y:X}{e:PE}(h:TE B u c y (fun env=>eval e env)):TSr B u c tg (.val y) e:=fun G N Q E K H q z=>h G N _ E _ H q fun d Y v k a r=>by
 have fin:∀{l:List V} {g:Option Nat} {o:Obj} {J:Nat→Nx→Prop},o.isFreed=false→K (l,g) Y.σ→ItOk B.D tg Y.s.heap.objs.size (fun b=>b=Y.s.heap.objs.size) J l g→(Aft B.D Y noA (Y.psh o)→J 0 (Y.psh o))→Q (.ref Y.s.heap.objs.size) (Y.psh o).s:=fun {l g o J} hf k io j =>
  have w:=hE a.sm hf
  z l g (Y.psh o) _ _ J k io (j w.1) (a.trans w.1) fun b e=>⟨fun h=>aY (a.ex _ (e▸h)),e▸w.2⟩
 cases d with
 | tup l =>
  refine e24 r fun b arr e_2 w t rs=>?_; subst e_2
  exact wpAny_pyIter_tuple t.tup (fin rfl k (aHw aBd) fun a=>⟨⟨_,bB rfl,rfl,rfl⟩,aBd.1 _ _ a.le ⟨w,arr,t,rs⟩⟩)
 | list l =>
  refine e24 r fun b arr e_2 w t rs=>?_; subst e_2
  exact wpAny_pyIter_list t.list (fin rfl k (aAw sJ) fun a=>⟨⟨_,bB rfl,rfl,rfl⟩,sJ.1 _ _ a.le ⟨w,arr,t,rs⟩⟩)
 | loc n =>
  refine e12 r fun p e_1 hp=>?_; subst e_1
  refine e13 (iR (f:=fun o=>oK (rP o) fun l=>K (l,some n) Y.σ) a.sm hp k id) fun o k w e=>?_
  cases o with
  | list l=>exact(aOg.2 Y a.sm e hp).elim fun arr t=>wpAny_pyIter_list t.1 (fin rfl k (aAw (aOg (p:=p))) fun a=>⟨⟨_,bB rfl,rfl,rfl⟩,hp⟩)
  | _=>exact False.elim k
 | _=>exact False.elim k
theorem qO{n:Int}:Builtin.Range.rangeSize 0 n 1=(n.toNat:Int):=by
 delta Builtin.Range.rangeSize
 refine rwS (if_pos (by decide)) ?_
 split
 ·rename_i h
  have:(n - 0 - 1) / 1=n - 1:=by rw[Int.ediv_one]; (first | lia | omega)
  refine rwS this ?_; (first | lia | omega)
 ·(first | lia | omega)
theorem vP{n:Int}(h1:-1000000≤n)(h2:n≤1000000):Builtin.Range.small 0 n 1=true:=by
 have p:(2:Int) ^ 63=9223372036854775808:=by decide
 have h4:((n.toNat:Int))≤1000000:=by (first | lia | omega)
 have h3:(0:Int)≤(n.toNat:Int):=by (first | lia | omega)
 delta Builtin.Range.small
 refine rwS qO ?_
 delta Builtin.Range.rangeFitsLong
 refine rwS p (rwS (if_pos (by decide)) ?_)
 simp only[Bool.and_eq_true,Bool.or_eq_true,decide_eq_true_eq]
 refine⟨⟨⟨⟨⟨?_,?_⟩,?_,?_⟩,?_,?_⟩,?_,?_⟩,.inr ⟨?_,?_⟩⟩ <;> (first | lia | omega)
theorem aDj{tg:PE}{y:X}{e:PE}{x:Str}{np pos:Pos}(F:Facts B g)(BB:BiOk B.D c x (.type "range"))(hs:isStarred e=false)(h:TEs B u c [y] (fun env=>spliced (backTo pos (starEach [e] env)))) :
  TSr B u c tg (.range y) (.Call (.Name x np) [e] [] pos):=fun G N Q E K H q z =>
 fF (K:=fun l σ=>aGs l fun v=>oK (aGl v) fun l=>K (l,none) σ) F BB rfl (by refine rwS List.all_cons (rwS hs ?_); rfl) h H q fun ds Y vs k a r=>by
  refine nnG fun nG=>?_; refine e12 (nY k) fun d e_1 k=>?_; subst e_1
  refine e12 (Vals.one r) fun v e_1 rv=>?_; subst e_1
  refine e23 (bD (aR k) rv) fun n t e_2 e_3 k=>?_; subst e_2; subst e_3
  refine nG ?_; have w:=bI k
  refine call_range_1 (wpAny_pyIter_range (bB rfl) (vP w.1.1 w.1.2) ?_)
  have m:=((More.refl Y).push { cls:=.type "range",data:=.fields #[.int 0 Y.s.toks,.int n t,.int 1 (Y.s.toks+1)] }).toks (Y.s.toks+1+1)
  refine rwS qO ?_
  exact z _ none (Y.at _) _ _ _ w.2 aEw (by rw[Int.natCast_zero,Int.sub_zero]; exact bB rfl) (a.trans ((m.push _).aft a.sm)) fun b e=>⟨fun h=>m.no (a.ex _ (e▸h)),e▸(m.push _).pv a.sm m.no (bB rfl)⟩
theorem aHc{elts:List PE}{x1:Nat}{tp:Pos}{y:X}{e:PE}{x:Str}{np pos:Pos}(F:Facts B g)(BB:BiOk B.D c x (.type "enumerate"))(hs:isStarred e=false)(h:TEs B u c [y] (fun env=>spliced (backTo pos (starEach [e] env)))) :
  TSr B u c (.Tuple elts x1 tp) (.enum y) (.Call (.Name x np) [e] [] pos):=fun G N Q E K H q z =>
 fF (K:=fun l σ=>aGs l fun v=>oK (fW v) fun l=>K (((List.range l.length).zip l |>.map fun (q:Nat × V)=>V.tup [.int q.1,q.2]),none) σ) F BB rfl (by refine rwS List.all_cons (rwS hs ?_); rfl) h H q fun ds Y vs k a r=>by
  refine e12 (nY k) fun d e_1 k=>?_; subst e_1
  refine e12 (Vals.one r) fun v e_1 rv=>?_; subst e_1
  cases d with
  | list l =>
   refine e24 rv fun b arr e_2 wa t rs=>?_; subst e_2
   refine call_enumerate_list t.list fun h' h1 h2 h3 kp=>wpAny_pyIter_enum h1 ?_
   have m:More Y { Y.s with heap:=h' }:=⟨kp,rfl,rfl⟩
   have n1:∀{k:Nat},Y.s.heap.objs.size≤k→¬ Y.has k:=fun hk h=>absurd (jF h) (Nat.not_lt.mpr hk)
   have af:=m.aft a.sm
   exact z _ none (Y.at _) _ _ _ k (aLm (Nat.succ_ne_self _) sJ) ⟨⟨_,h1⟩,h2,sJ.1 _ _ af.le ⟨wa,arr,t,rs⟩⟩ (a.trans af) fun b e=>e.elim (fun e=>by
    refine rwS e ?_; exact⟨fun h=>n1 (Nat.le_succ _) (a.ex _ h),m.pv a.sm (n1 (Nat.le_succ _)) h1⟩) fun e=>by
    refine rwS e ?_; exact⟨fun h=>n1 (Nat.le_refl _) (a.ex _ h),h2.elim fun o q=>m.pv a.sm (n1 (Nat.le_refl _)) q.1⟩
  | _=>exact False.elim k
theorem aCn{elts:List PE}{x1:Nat}{tp:Pos}{y:X}{e:PE}{apos pos:Pos}(hb:aZ e=true)(hl:(apos.endLine==pos.line)=true)(h:TE B u c y (fun env=>eval e env)) :
  TSr B u c (.Tuple elts x1 tp) (.items y) (.Call (.Attribute e "items" apos) [] [] pos):=fun G N Q E K H q z =>
 gY (xs:=[]) PySem.F.plainAttrs_dict PySem.F.slot_dict_items PySem.F.type_dict_items hb hl (by decide) rfl h eY H q fun d Y v k a r=>by
  cases d with
  | dict l =>
   refine e24 r fun b kvs e_2 wa t rs=>?_; subst e_2
   refine⟨kT t,fun l' σ=>K ((l.map fun (q:V × V)=>V.tup [q.1,q.2]),none) σ∧l'=[],⟨k,rfl⟩,fun ds Z vs k a2 r2=>?_⟩
   cases k.2
   obtain rfl:=(r2:vs=[])
   refine e02 (t.le a2.le wa) fun wa t=>?_
   refine call_meetsIn PySem.F.slot_dict_items t.2.typeIs PySem.F.entry_dict_items (PySem.F.args_dict_items_1 _) (meets_dict_items (SK B.D) b (dR t.1)) ⟨⟨kvs,t.2⟩,?_⟩
   refine e1 t.2.dictAt fun ep da=>?_
   refine wpAny_pyIter_items ⟨_,bB rfl,rfl,rfl⟩ (da.push _) ?_
   have m:=(More.refl Z).push { cls:=.type "dict_items",data:=.fields #[.ref b] }
   have af:=(m.push { cls:=.type "dict_itemiterator",data:=.fields #[.none,.bool false,.ref b,.int 0 0,.int kvs.length 0,.int ep 0,.none,.none] }).aft a2.sm
   exact z _ none (Z.at _) _ _ _ k.1 aGp ⟨⟨_,_,bB rfl⟩,wa,kvs,(da.push _).push _,cX (af.le) _ _ (cX a2.le _ _ rs),rfl⟩ ((a.trans a2).trans af) fun b e=>⟨fun h=>m.no (a2.ex _ (a.ex _ (e▸h))),e▸(m.push _).pv a2.sm m.no (bB rfl)⟩
  | _=>exact False.elim k
end
section
variable{prog:Program}{w:World}{A:Around}{E:PV→Shared→Prop}{s:Shared}
theorem mX{T newId initId:String}{args:List PV}{kw:List (Str × PV)}{Q Q₁:PV→Shared→Prop}(ft:TypeCalled T newId initId)(hct:checkTypeCall T ⟨args,kw⟩=pure ())
  (hnew:codeAny (model prog w) A.in1 (.call (.builtin newId) ⟨.type T::args,kw⟩) (wants Q₁ E) s)
  (hnext:∀obj s₁,Q₁ obj s₁→s₁.TypeIs obj T∧codeAny (model prog w) A.in1 (.call (.builtin initId) ⟨obj::args,kw⟩) (wants (fun r s₂=>r=.none∧Q obj s₂) E) s₁):wpAny (model prog w) A (call (.type T) args kw) Q E s:=by
 refine e21 ft.mro fun c tl hmro=>?_
 have hmade:=ft.made
 have hsub:=ft.sub
 refine wpAny_call (codeAny_of_tree ?_)
 show wpAny _ _ (callAny (.type T) _) _ _ _
 refine wpAny_pure ⟨Code.quiet_builtin _ (by decide +kernel),codeAny_builtin F.entry_type_call ?_⟩
 refine rwS (Around.under_plain (weight_type_call_type T args kw) rfl) ?_
 have n1:=ft.notType
 have n2:=ft.canCreate
 repeat (any_goals (first | assumption | wp_step))
 refine codeAny_mono hnew fun r s₁ hr=>?_
 cases r with
 | error e=>exact hr
 | ok fl =>
  cases fl with
  | ret obj =>
   refine e02 (hnext _ _ hr) fun hT hsi=>?_
   have i1:=ft.init.lookup
   have i2:=ft.init.bind obj
   repeat (any_goals (first | assumption | wp_step))
   refine codeAny_mono hsi fun r₂ s₂ hr₂=>?_
   cases r₂ with
   | error e=>exact hr₂
   | ok fl₂ =>
    cases fl₂ with
    | ret r =>
     refine e02 hr₂ fun e_0 hq=>?_; subst e_0
     repeat (any_goals (first | assumption | wp_step))
    | _=>exact hr₂.elim
  | _=>exact hr.elim
theorem vM(a:PV){kw:List (Str × PV)}{Q₁:PV→Shared→Prop}(hc:checkBuiltinCall "dict.__new__" ⟨[.type "dict",a],kw⟩=pure ())(h:Q₁ (.ref s.heap.objs.size) { s with heap:=s.heap.push dF }) :
  codeAny (model prog w) A (.call (.builtin "dict.__new__") ⟨[.type "dict",a],kw⟩) (wants Q₁ E) s:=by
 refine codeAny_call_builtin PySem.F.kt_plain_dict_new PySem.F.kt_entry_dict_new (wpAny_of_eq hc ?_)
 have x1:=PySem.F.kt_sub_dict
 have x2:=PySem.F.kt_mro_dict
 obtain⟨hp,g,d,tk,os⟩:=s
 delta Builtin.«dict.__new__»
 wp_walk
 exact h
theorem aCh{D:Wd}{d:Addr}{Q:Unit→Shared→Prop}(kw:List (Str × PV)):∀(kvs:List (Str × PV)) (s:Shared),s.heap.DictOf (SK D) d kvs→kvs.length+kw.length≤2000→(∀q∈kw,q.1.length≤100) →
  (∀h' tk,h'.DictOf (SK D) d (kw.foldl (fun l q=>stored l q.1 q.2) kvs)→(∀b o,b≠d→s.heap.get? b=some o→h'.get? b=some o)→Q () { s with heap:=h',toks:=tk })→wpAny (model D.prog D.w) A (forIn kw PUnit.unit (fun (x:Str × PV) (__s:PUnit)=>match x with
   | (k,v)=>do
    let y ← mkStr k
    dictSet d y v
    pure (ForInStep.yield PUnit.unit))) Q E s:=by
 induction kw with
 | nil =>
  intro kvs s t hl _ q
  refine rwS List.forIn_nil ?_
  exact wpAny_pure (q _ _ t fun b o _ e=>e)
 | cons p kw ih =>
  intro kvs s t hl hk q
  obtain⟨k,v⟩:=p
  rw[List.length_cons]at hl
  rw[List.forIn_cons]
  have hk1:k.length≤100:=hk (k,v) (List.mem_cons_self ..)
  refine wpAny_bind (wpAny_bind (wpAny_mkStr (wpAny_bind (wpAny_dictSet_pairs (strKind_is _ _ _ _) (t:(Heap.DictOf (SK D) s.heap d kvs)) (fun h' t' sb=>wpAny_pure ?_) (bR (Nat.le_trans (show kvs.length≤2000 by (first | lia | omega)) (by decide))))) (bR (Nat.le_trans hk1 (by decide)))))
  refine ih _ _ t' (by have:=stored_length_le kvs k v; (first | lia | omega)) (fun q m=>hk q (List.mem_cons_of_mem _ m)) fun h2 tk2 t2 k2=>?_
  exact q h2 tk2 t2 fun b o n e=>k2 b o n (sb.extBut b o n e)
structure KwFit(kw:List (Str × PV)):Prop where
 tc:∀a:PV,checkTypeCall "dict" ⟨[a],kw⟩=pure ()
 nc:∀a:PV,checkBuiltinCall "dict.__new__" ⟨[.type "dict",a],kw⟩=pure ()
 ao:∀a b:PV,argsOk "dict.__init__" ⟨[a,b],kw⟩
 ln:(∀q∈kw,q.1.length≤100)∧kw.length≤2
theorem bBa(v:PV):KwFit [("y",v)]:=⟨fun a=>by kernel_rfl,fun a=>by kernel_rfl,fun a b=>by delta argsOk; kernel_rfl,List.forall_mem_cons.mpr ⟨by show ("y":Str).length≤100; decide +kernel,List.forall_mem_nil _⟩,by show 1≤2; decide⟩
theorem bBg(v w:PV):KwFit [("x",v),("y",w)]:=⟨fun a=>by kernel_rfl,fun a=>by kernel_rfl,fun a b=>by delta argsOk; kernel_rfl,List.forall_mem_cons.mpr ⟨by show ("x":Str).length≤100; decide +kernel,List.forall_mem_cons.mpr ⟨by show ("y":Str).length≤100; decide +kernel,List.forall_mem_nil _⟩⟩,by show 2≤2; decide⟩
theorem uS{D:Wd}{o:Addr}{more:List (Str × PV)}{kw:List (Str × PV)}{Q:PV→Shared→Prop}(hk:KwFit kw)(hoS:(o==sysModules)=false)(ho:s.heap.DictOf (SK D) o more)(hsz:more.length≤1000)
  (q:∀h' tk,h'.DictOf (SK D) s.heap.objs.size (kw.foldl (fun l q=>stored l q.1 q.2) more)→(∀b o,b≠s.heap.objs.size→(s.heap.push dF).get? b=some o→h'.get? b=some o)→Q (.ref s.heap.objs.size) { s with heap:=h',toks:=tk }) :
  wpAny (model D.prog D.w) A (call (.type "dict") [.ref o] kw) Q E s:=by
 refine mX (Q₁:=fun obj s₁=>obj=.ref s.heap.objs.size∧s₁={ s with heap:=s.heap.push dF }) PySem.F.kt_called_dict (hk.tc _) (vM _ (hk.nc _) ⟨rfl,rfl⟩) ?_
 rintro obj s₁ ⟨rfl,rfl⟩
 have hnew:(s.heap.push dF).DictOf (SK D) s.heap.objs.size []:=Heap.DictOf.new s.heap
 have ho':(s.heap.push dF).DictOf (SK D) o more:=ho.push _
 have hn:(more.map (·.1)).Nodup:=ho.elim fun _ q=>q.elim fun _ q=>q.elim fun _ q=>q.2.2.2.2.2
 have hdo:s.heap.objs.size≠o:=fun e=>ho.elim fun _ q=>q.elim fun _ q=>q.elim fun _ q=>absurd (Heap.lt_size q.1) (by refine rwS e ?_; exact Nat.lt_irrefl _)
 refine⟨hnew.typeIs,codeAny_call_builtin PySem.F.kt_called_dict.init.plain PySem.F.entry_dict_init (PySem.F.kt_called_dict.init.check _ _ _ _ _ _ _ _ hnew.typeIs (hk.ao _ _) ?_)⟩
 delta Builtin.«dict.__init__»
 refine wpAny_bind ?_
 delta Builtin.Dict.selfAndRest
 refine wpAny_bind (wpAny_notOrdered_dict hnew.typeIs ?_)
 show wpAny _ _ (pure (s.heap.objs.size,[Value.ref o])) _ _ _
 refine wpAny_pure ?_
 show wpAny _ _ (Builtin.Dict.updateFrom "dict.__init__" s.heap.objs.size (.ref o) kw .none) _ _ _
 delta Builtin.Dict.updateFrom
 refine wpAny_bind (wpAny_typeOf ho'.typeIs ?_)
 refine rwS (if_neg (by decide)) ?_
 refine wpAny_bind ?_
 delta Builtin.Dict.merge
 refine wpAny_bind ?_
 delta Builtin.Dict.readDirectly
 refine wpAny_bind (wpAny_isInstance ho'.typeIs isSubtype_dict_dict ?_)
 simp only[Bool.not_true,Bool.false_eq_true,if_false]
 refine wpAny_bind (wpAny_specialOf ho'.typeIs PySem.F.slot_dict_iter.lookup (wpAny_pure ?_))
 simp only[beq_self_eq_true,if_true]
 refine wpAny_bind (wpAny_pure ?_)
 refine wpAny_mergeDict (hsz:=by rw[List.length_nil,Nat.zero_add]; exact bR (Nat.le_trans hsz (by decide))) hdo hoS hnew ho' fun h' hd' _ hs'=>?_
 rw[merged_nil_of_nodup more hn]at hd'
 show wpAny _ _ (Builtin.Dict.addKeywords s.heap.objs.size kw >>= _) _ _ _
 delta Builtin.Dict.addKeywords
 refine wpAny_bind (wpAny_bind (aCh kw more _ hd' (Nat.le_trans (Nat.add_le_add hsz hk.ln.2) (by decide)) hk.ln.1 fun h2 tk t2 k2=>wpAny_pure (wpAny_pure ⟨rfl,q h2 tk t2 fun b o n e=>k2 b o n (hs'.extBut b o n e)⟩)))
theorem mZ{pos:Pos}{T:String}{first:List PV}{args:List (Bool × Sem PV)}{keywords:List (Option Str × Sem PV)}{Q:PV→Shared→Prop}(hp:args.any (·.1)=false)(hk:keywords.any (·.1.isNone)=false)
  (h:wpAny (model prog w) A (evalArgs (.type T) true args keywords) (fun a s₁=>wpAny (model prog w) A (call (.type T) (first++a.pos) a.kw) Q E s₁) E s):wpAny (model prog w) A (callWith pos (.type T) first args keywords) Q E s:=by
 delta callWith
 refine wpAny_bind (wpAny_holding (wpAny_mono h (fun a s₁ h₁=>wpAny_bind (wpAny_standAt ?_)) fun _ _ x=>x))
 refine rwS (show (args.any (·.1) || keywords.any (·.1.isNone))=false by rw[hp,hk]; rfl) ?_
 refine wpAny_bind (wpAny_pure ?_)
 exact wpAny_bind (wpAny_mono h₁ (fun r s₂ hr=>wpAny_bind (wpAny_holding (wpAny_point (wpAny_pure hr)))) fun _ _ x=>x)
end
section
variable{B:Bd}{u:Nat}{c:Ck}{G:Ev}{N Y Z:Nx}{g:Gt}{Q E:PV→Shared→Prop}
theorem aAb{v0:V}{v:PV}{kw:List (Str × PV)}{ks:List (Nat × Nat)}{K:V→Prop}{t:Nat}(hk:KwFit kw)(sm:Sm B.D N)(e:oK (aO N.σ v0) fun D=>bK (decide (D.length≤1000)) (K (.dict (aFn D ks))))(rv:Val B N v0 v)
  (hr:∀Y:Nx,∀l kvs,RVd B.D Y l kvs→(kvs.map (·.1)).Nodup→RVd B.D Y (aFn l ks) (kw.foldl (fun l q=>stored l q.1 q.2) kvs))
  (z:∀d Y a,K d→Aft B.D N noA Y→Y.σ=N.σ→¬ N.has a→Pv Y a→RC B.D Y a d→Q (.ref a) Y.s):Wp B G (N.tk t) (call (.type "dict") [v] kw) Q E :=
 fB sm e rv fun l x kvs e hx td rs=>by
  refine e02 (eQ e) fun hl e=>?_
  subst hx
  refine uS hk (dR td.1) td.2 (Nat.le_trans (Nat.le_of_eq (bM rs)) (of_decide_eq_true hl)) fun h' tk dh sb=>?_
  have m:More N { N.s with heap:=h',toks:=tk }:=⟨fun b o e=>sb b o (fun q=>aY (q▸cI e)) (Heap.get?_push_of_some _ e),rfl,rfl⟩
  exact z _ (N.at _) _ e (m.aft sm) rfl aY (dh.elim fun o q=>q.elim fun _ q=>q.elim fun _ q=>m.pv sm aY q.1) ⟨_,⟨sm.one,dh⟩,hr _ _ _ (cX (m.aft sm).le _ _ rs) (fQ td)⟩
theorem aNs{x:X}{e:PE}{s k:Nat}{val:Str}{cp kp np pos:Pos}(F:Facts B g)(BB:BiOk B.D c "dict" (.type "dict"))(hs:isStarred e=false)(h3:TEs B u c [x] (fun env=>spliced (backTo pos (starEach [e] env))))(hv:strOk val=true)(hes:aL val=s) :
  TF B u c (.dkw x [(122,s)]) (fun env=>eval (.Call (.Name "dict" np) [e] [⟨some "y",.Constant (.str val) k cp,kp⟩] pos) env):=fun G N Q E K H q z=>by
 subst hes
 refine wpAny_Call_Name_kw (wpAny_Name (gP H F BB.k BB.g BB.b (mZ (by refine rwS (aX hs) ?_; rfl) rfl ?_)) BB.d)
 have h3:∀(Q:List PV→Shared→Prop) (E:PV→Shared→Prop) (K:List V→St→Prop),Go B u c G N→kXs B G N [x] K→(∀d Y v,K d Y.σ→d.length=[x].length→Aft B.D N noA Y→Vals B Y d v→Q v Y.s)→Wp B G N (spliced (backTo pos (starEach [e] G.env))) Q E:=h3 G N
 rw[aX hs]at h3 ⊢
 refine evalArgs_kwB rfl (h3 _ E (fun l σ=>aGs l fun v=>oK (aO σ v) fun D=>bK (decide (D.length≤1000)) (K (.dict (aFn D [(122,aL val)])) σ)) H q fun ds Y vs k1 hl a r=>?_)
 refine nnG fun nG=>?_; refine e12 (nY k1) fun d e_1 k1=>?_; subst e_1
 refine e12 (Vals.one r) fun v e_1 rv=>?_; subst e_1
 refine nG ?_; refine kws_cons (wpAny_Constant_str (kws_nil ?_))
 exact aAb (ks:=[(122,aL val)]) (K:=fun v=>K v Y.σ) (bBa _) a.sm k1 rv (fun Y l kvs r n=>eI (z:="y") rfl (show RV B.D Y (.str (aL val)) (.str val _) from ⟨val,_,rfl,hv,rfl⟩) r n) fun d Z a2 k2 b es na pv rc=>z d Z a2 (by refine rwS es ?_; exact k2) (a.trans b) (fun h=>na (a.ex _ h)) pv rc
theorem aKw{x:X}{e:PE}{s s2 k k2:Nat}{val val2:Str}{cp kp cp2 kp2 np pos:Pos}(F:Facts B g)(BB:BiOk B.D c "dict" (.type "dict"))(hs:isStarred e=false)(h3:TEs B u c [x] (fun env=>spliced (backTo pos (starEach [e] env))))(hv:strOk val=true)(hes:aL val=s)(hv2:strOk val2=true)(hes2:aL val2=s2) :
  TF B u c (.dkw x [(121,s),(122,s2)]) (fun env=>eval (.Call (.Name "dict" np) [e] [⟨some "x",.Constant (.str val) k cp,kp⟩,⟨some "y",.Constant (.str val2) k2 cp2,kp2⟩] pos) env):=fun G N Q E K H q z=>by
 subst hes hes2
 refine wpAny_Call_Name_kw (wpAny_Name (gP H F BB.k BB.g BB.b (mZ (by refine rwS (aX hs) ?_; rfl) rfl ?_)) BB.d)
 have h3:∀(Q:List PV→Shared→Prop) (E:PV→Shared→Prop) (K:List V→St→Prop),Go B u c G N→kXs B G N [x] K→(∀d Y v,K d Y.σ→d.length=[x].length→Aft B.D N noA Y→Vals B Y d v→Q v Y.s)→Wp B G N (spliced (backTo pos (starEach [e] G.env))) Q E:=h3 G N
 rw[aX hs]at h3 ⊢
 refine evalArgs_kwB rfl (h3 _ E (fun l σ=>aGs l fun v=>oK (aO σ v) fun D=>bK (decide (D.length≤1000)) (K (.dict (aFn D [(121,aL val),(122,aL val2)])) σ)) H q fun ds Y vs k1 hl a r=>?_)
 refine nnG fun nG=>?_; refine e12 (nY k1) fun d e_1 k1=>?_; subst e_1
 refine e12 (Vals.one r) fun v e_1 rv=>?_; subst e_1
 refine nG ?_; refine kws_cons (wpAny_Constant_str (kws_cons (wpAny_Constant_str (kws_nil ?_))))
 exact aAb (ks:=[(121,aL val),(122,aL val2)]) (K:=fun v=>K v Y.σ) (bBg _ _) a.sm k1 rv (fun Y l kvs r n=>eI (z:="y") rfl (show RV B.D Y (.str (aL val2)) (.str val2 _) from ⟨val2,_,rfl,hv2,rfl⟩) (eI (z:="x") rfl (show RV B.D Y (.str (aL val)) (.str val _) from ⟨val,_,rfl,hv,rfl⟩) r n) (fA n)) fun d Z a2 k2 b es na pv rc=>z d Z a2 (by refine rwS es ?_; exact k2) (a.trans b) (fun h=>na (a.ex _ h)) pv rc
end
noncomputable def nxy:List Str:=["n","x","y"]
noncomputable def aHh:List (List Str):=[]::(nxy.map fun a=>[a])++(nxy.flatMap fun a=>nxy.map fun b=>[a,b])++(nxy.flatMap fun a=>nxy.flatMap fun b=>nxy.map fun c=>[a,b,c])
theorem aCf:(aHh.all fun l=>!(sortedS l&&decide l.Nodup) || l==nxy.filter fun q=>l.contains q)=true:=by decide +kernel
theorem aDm:∀l:List Str,l.length≤3→(∀a∈l,a∈nxy)→l∈aHh
 | [],_,_=>List.mem_cons_self ..
 | [a],_,h=>List.mem_append.mpr (.inl (List.mem_append.mpr (.inl (List.mem_cons_of_mem _ (List.mem_map.mpr ⟨a,h a (List.mem_cons_self ..),rfl⟩)))))
 | [a,b],_,h=>List.mem_append.mpr (.inl (List.mem_append.mpr (.inr (List.mem_flatMap.mpr ⟨a,h a (List.mem_cons_self ..),List.mem_map.mpr ⟨b,h b (List.mem_cons_of_mem _ (List.mem_cons_self ..)),rfl⟩⟩))))
 | [a,b,c],_,h=>List.mem_append.mpr (.inr (List.mem_flatMap.mpr ⟨a,h a (List.mem_cons_self ..),List.mem_flatMap.mpr ⟨b,h b (List.mem_cons_of_mem _ (List.mem_cons_self ..)),List.mem_map.mpr ⟨c,h c (List.mem_cons_of_mem _ (List.mem_cons_of_mem _ (List.mem_cons_self ..))),rfl⟩⟩⟩))
 | _::_::_::_::_,h,_=>absurd h (by simp only[List.length_cons]; (first | lia | omega))
theorem aNw{l:List Str}(h:l.length≤3)(hm:∀a∈l,a∈nxy)(hs:sortedS l=true)(hn:l.Nodup):l=nxy.filter fun q=>l.contains q:=by
 have w:=List.all_eq_true.mp aCf l (aDm l h hm)
 rw[hs,decide_eq_true hn]at w
 exact eq_of_beq w
section
variable{B:Bd}{G:Ev}{N:Nx}{u:Nat}{Q E:PV→Shared→Prop}
theorem wX{D:Wd}{q:Str}(hq:strOk q=true):∀{l:List (V × V)} {kvs:List (Str × PV)},RVd D N l kvs→(aK (.str (aL q)) l).isSome=(kvs.map (·.1)).contains q
 | [],kvs,r=>by obtain rfl:=(show kvs=[] from r); rfl
 | (k,d)::l,kvs,r=>by
  obtain⟨x,v,t,rfl,⟨rfl,hx⟩,_,r2⟩:=r
  show (if decide (aL x=aL q)=true then some d else aK (.str (aL q)) l).isSome=(x::t.map (·.1)).contains q
  refine rwS List.contains_cons ?_
  by_cases e:x=q
  ·subst e
   rw[if_pos (decide_eq_true rfl),beq_self_eq_true]; rfl
  ·refine rwS (if_neg fun h=>e (cN hx hq (of_decide_eq_true h))) (rwS (show (q==x)=false from beq_eq_false_iff_ne.mpr (Ne.symm e)) (rwS (wX hq r2) ?_)); rfl
theorem wA{D:Wd}:∀{l:List (V × V)} {kvs:List (Str × PV)},kOk l=true→RVd D N l kvs→∀a∈kvs.map (·.1),a∈nxy
 | [],kvs,_,r=>by obtain rfl:=(show kvs=[] from r); exact fun a m=>(fK m)
 | (k,d)::l,kvs,h,r=>by
  obtain⟨x,v,t,rfl,⟨rfl,hx⟩,_,r2⟩:=r
  intro a m
  rcases List.mem_cons.mp m with e | m
  ·refine rwS e ?_
   refine e12 (List.any_eq_true.mp (Bool.and_eq_true_iff.mp (show ((aM.any fun n=>V.beq (.str (aL x)) (.str n))&&kOk l)=true from h)).1) fun n hn e=>?_
   have e:aL x=n:=of_decide_eq_true e
   have hn:n=111∨n=121∨n=122:=by simpa [aM] using hn
   rcases hn with rfl | rfl | rfl
   ·exact cN (y:="n") hx (by decide +kernel) e▸List.mem_cons_self ..
   ·exact cN (y:="x") hx (by decide +kernel) e▸List.mem_cons_of_mem _ (List.mem_cons_self ..)
   ·exact cN (y:="y") hx (by decide +kernel) e▸List.mem_cons_of_mem _ (List.mem_cons_of_mem _ (List.mem_cons_self ..))
  ·exact wA (Bool.and_eq_true_iff.mp (show ((aM.any fun n=>V.beq (.str (aL x)) (.str n))&&kOk l)=true from h)).2 r2 a m
theorem rW:∀{vs:List PV} {ss:List Str},StrsAre vs ss→(∀a∈ss,strOk a=true)→Vals B N (ss.map fun x=>V.str (aL x)) vs
 | [],[],_,_=>rfl
 | v::vs,s::ss,h,ok=>by
  cases h with
  | cons _ _ h=>exact⟨_,vs,rfl,⟨s,_,rfl,ok s (List.mem_cons_self ..),rfl⟩,rW h fun a m=>ok a (List.mem_cons_of_mem _ m)⟩
theorem aDf{D:Wd}(kvs:List (Str × PV)):∀{vs:List PV},vs.length=kvs.length→(∀(i:Nat) v,vs[i]?=some v→∃k x,kvs[i]?=some (k,x)∧(SK D).is k v=true)→StrsAre vs (kvs.map (·.1)):=by
 induction kvs with
 | nil=>exact fun hl _=>List.eq_nil_of_length_eq_zero hl▸.nil
 | cons p kvs ih =>
  intro vs hl h
  cases vs with
  | nil=>exact absurd hl (Nat.succ_ne_zero _).symm
  | cons v vs =>
   refine e22 (h 0 v rfl) fun k x e hk=>?_
   refine e1 (Value.isStrOf_shape hk) fun tk e_1=>?_; subst e_1
   exact(show p=(k,x) from Option.some.inj e)▸.cons k tk (ih (Nat.succ.inj hl) fun i w e=>h (i+1) w e)
theorem xX:hM B u (.builtin "sorted") .sortedK:=fun G N ds vs Q E K rm e sm rs z=>uno e rs fun d v hv e rv=>fB sm (aR e) rv fun l x kvs e hx t rd=>by
 subst hv hx
 refine e02 (bI e) fun hc e=>?_
 have h3:l.length≤3:=of_decide_eq_true (aA hc)
 have h3k:kvs.length≤3:=(bM rd)▸h3
 have hmem:=wA (aB hc) rd
 refine e1 t.2.dictAt fun ep da=>?_
 have hz:∀{n:Nat},n≤3→n≤sizeLine:=fun h=>bR (Nat.le_trans h (by decide))
 refine Calls.call_function_entry kind_sorted plain_sorted entry_sorted (args_sorted1 _) ?_
 delta Builtin.«sorted»
 refine wpAny_bind (m:=checkCount "sorted" 1 1 _) (wpAny_pure ?_)
 refine wpAny_bind (kdu_collect (A:=G.A.in1) (kdl_dict (knd:=SK B.D) (kvs:=kvs) (ep:=ep) (dR t.1)) rm.hand da (hz h3k) fun h' tk acc hk hacc=>?_)
 have la:acc.toList.length=kvs.length:=by refine rwS Array.length_toList ?_; exact hacc.1
 have hS:StrsAre acc.toList (kvs.map (·.1)):=aDf (D:=B.D) kvs la fun i v hv=>hacc.2 i v (by refine rwT (Array.getElem?_toList) ?_; exact hv)
 refine wpAny_bind (wpAny_newList ?_ (hz (la▸h3k)))
 have hoL:(h'.push (seqObj "list" acc.toList.toArray 0)).get? h'.objs.size=some (seqObj "list" acc.toList.toArray 0):=Heap.get?_push_size _ rfl
 refine wpAny_bind (wpAny_holding (wpAny_call_entry slot_list_sort ⟨_,hoL,rfl⟩ entry_list_sort (list_sort_treeK strKind_oneLt hoL hS.keysOf (fun v₁ v₂ rest e=>keyKind_strs (by refine rwT e ?_; exact hS)) (by refine rwS la ?_; exact Nat.lt_of_le_of_lt h3k (by decide)) fun st' a1 a2=>⟨_,rfl,?_⟩) (args_list_sort _)))
 refine e13 (sorted_out_str hS a1 a2) fun ss s1 s2 s3=>?_
 refine wpAny_pure ⟨_,rfl,?_⟩
 have nd:(kvs.map (·.1)).Nodup:=t.2.elim fun _ q=>q.elim fun _ q=>q.elim fun _ q=>q.2.2.2.2.2
 have ls:ss.length≤3:=by rw[s2.length_eq,List.length_map]; exact h3k
 have sok:∀a∈nxy,strOk a=true:=by decide +kernel
 have ek:vB l=ss.map fun x=>V.str (aL x):=by
  have hc2:∀q∈nxy,(aK (.str (aL q)) l).isSome=ss.contains q:=fun q hq=>by
   rw[wX (sok q hq) rd,Bool.eq_iff_iff,List.contains_iff_mem,List.contains_iff_mem,s2.mem_iff]
  refine rwS (aNw ls (fun a m=>hmem a (s2.mem_iff.mp m)) s3 (s2.nodup_iff.mpr nd)) ?_
  show ((nxy.map aL).filter fun n=>(aK (.str n) l).isSome).map V.str=_
  refine rwS List.filter_map (rwS List.map_map ?_)
  refine congrArg (List.map _) (List.filter_congr fun q hq=>?_)
  exact hc2 q hq
 refine e1 (sortedHeap_at (out:=(arrOf st').map (·.2)) hoL) fun ep2 he=>?_
 have m:More N { N.s with heap:=sortedHeap (h'.push (seqObj "list" acc.toList.toArray 0)) h'.objs.size acc.toList ((arrOf st').map (·.2)),toks:=tk }:=⟨fun b o e=>(sortedHeap_old (Nat.ne_of_lt (Heap.lt_size (hk b o e))) (Heap.lt_size (Heap.get?_push_of_some _ (hk b o e)))).trans (Heap.get?_push_of_some _ (hk b o e)),rfl,rfl⟩
 have nn:¬ N.has h'.objs.size:=fun h=>(Option.isSome_iff_exists.mp h).elim fun o e=>Nat.lt_irrefl _ (Heap.lt_size (hk _ o e))
 have pv:=m.pv sm nn he
 have r2:Vals B (N.at { N.s with heap:=sortedHeap (h'.push (seqObj "list" acc.toList.toArray 0)) h'.objs.size acc.toList ((arrOf st').map (·.2)),toks:=tk }) (vB l) ((arrOf st').map (·.2)).toList:=ek▸rW s1 fun a m=>sok a (hmem a (s2.mem_iff.mp m))
 exact z _ ((N.at _).wi h'.objs.size) _ e ((m.aft sm).wi pv nn) rfl (sZ (d:=.list _) (.inr rfl) (lH Le.wi (fun _ e=>e) ⟨_,⟨ep2,he⟩,r2⟩))
end
structure ZS(z TI TO i1 i2 l1 l2:Addr)(f:PV)(k:Nat)(h:Heap):Prop where
 hz:IsZip h z TI TO f
 hI:IsPair h TI (.ref i1) (.ref i2)
 hO:∃a b,IsPair h TO a b
 h1:Itr "tuple_iterator" h i1 l1 k
 h2:Itr "list_iterator" h i2 l2 k
noncomputable def Zf(z TI TO i1 i2:Addr)(c:Addr):Prop:=c=z∨c=TI∨c=TO∨c=i1∨c=i2
section
variable{prog:Program}{w:World}{A:Around}{E:PV→Shared→Prop}{s:Shared}
theorem aCo{it t:Addr}{i:Nat}{items:Array PV}{Q:PV→Shared→Prop}(hit:Itr "tuple_iterator" s.heap it t i)(ht:s.heap.IsTuple t items)(hh:A.handled=none)
  (q:∀x h',items[i]?=some x→Itr "tuple_iterator" h' it t (i+1)→Heap.SameBut it s.heap h'→Q x { s with heap:=h' })
  (e:∀h' x,items[i]?=none→Heap.ExtBut it s.heap h'→(∃o,h'.get? x=some o∧o.cls=.type "StopIteration")→E (.ref x) { s with heap:=h' }) :
  wpAny (model prog w) A (Builtin.SmallTypes.nextOf (.ref it)) Q E s:=by
 refine nnG fun nG=>?_; refine e13 hit fun o ho hc hd=>?_
 obtain⟨ol,hol,_,nl,hdl⟩:=ht
 refine nG ?_; delta Builtin.SmallTypes.nextOf
 refine wpAny_bind (wpAny_callSpecial?_slot (name:=Str.ofString "__next__") ⟨o,ho,hc⟩ PySem.F.slot_tuple_iterator_next (wpAny_call_entry PySem.F.slot_tuple_iterator_next ⟨o,ho,hc⟩ PySem.F.entry_tuple_iterator_next ?_ (PySem.F.args_tuple_iterator_next_1 _)))
 refine wpAny_bind (m:=field (.ref it) 0) (wpAny_field ho hd (x:=.ref t) rfl ?_)
 refine wpAny_bind (m:=field (.ref it) 1) (wpAny_field ho hd (x:=.int i 0) rfl ?_)
 refine wpAny_bind (m:=seqItems? (.ref t)) (wpAny_seqItems hol hdl ?_)
 cases hx:items[i]? with
 | some x =>
  simp only[Int.toNat_natCast,hx]
  refine wpAny_bind (wpAny_setField ho hd (by simp) (wpAny_pure ⟨x,rfl,wpAny_pure (q x _ hx ?_ (Heap.SameBut.update ..))⟩))
  exact⟨_,Heap.get?_update_self _ ho (Obj.isFreed_of_fields (Obj.data_mapFields hd _)),(Obj.cls_mapFields ..).trans hc,by rw[Obj.data_mapFields hd]; rfl⟩
 | none =>
  simp only[Int.toNat_natCast,hx]
  refine wpAny_bind (wpAny_rule (wpAny_bind (wpAny_setField ho hd (by simp) ?_)))
  refine wpAny_bind (m:=newExc (.type "StopIteration") []) ?_
  refine wpAny_bind (m:=newTuple []) (wpAny_newObj_type ?_ (by size_fits))
  refine wpAny_bind (m:=firstArgMember _ _) (wpAny_of_eq (a:=Value.none) (by first | rfl | (simp only[firstArgMember]; rfl)) ?_)
  refine wpAny_newObj_type ?_ (by size_fits)
  delta raiseNew
  refine wpAny_bind (wpAny_handled ?_)
  refine rwS (show A.in1.handled=none from hh) ?_
  exact wpAny_bind (wpAny_pure (wpAny_throw (e _ _ hx (((Heap.SameBut.update ..).extBut.push _).push _) ⟨_,Heap.get?_push_size _ rfl,rfl⟩)))
theorem Itr.ext{nm:String}{h h':Heap}{a l:Addr}{i:Nat}(x:Itr nm h a l i)(e:∀o,h.get? a=some o→h'.get? a=some o):Itr nm h' a l i:=x.elim fun o q=>⟨o,e o q.1,q.2⟩
theorem aJh{z TI TO i1 i2 l1 l2:Addr}{k:Nat}{xs ys:Array PV}{Q:PV→Shared→Prop}(hh:A.handled=none)(D:ZipApart z TI TO i1 i2 l1 l2)(S:ZS z TI TO i1 i2 l1 l2 .none k s.heap)(t1:s.heap.IsTuple l1 xs)(t2:s.heap.IsList l2 ys)(hy:∀x,xs[k]?=some x→∃y,ys[k]?=some y)
  (q:∀x y h',xs[k]?=some x→ys[k]?=some y→ZS z TI TO i1 i2 l1 l2 (rawInt s.heap.objs.size) (k+1) h'→IsPair h' s.heap.objs.size x y→(∀c o,s.heap.get? c=some o→¬ Zf z TI TO i1 i2 c→h'.get? c=some o)→Q (.ref s.heap.objs.size) { s with heap:=h' })
  (e:∀h' x,xs[k]?=none→(∀c o,s.heap.get? c=some o→¬ Zf z TI TO i1 i2 c→h'.get? c=some o)→(∃o,h'.get? x=some o∧o.cls=.type "StopIteration")→E (.ref x) { s with heap:=h' }) :
  wpAny (model prog w) A (Builtin.«zip.__next__» ⟨[.ref z],[]⟩) (fun fin s'=>∃v,fin=.done (.ret v)∧Q v s') E s:=by
 refine nnG fun nG=>?_; obtain⟨hz,hI,⟨a,b,hO⟩,h1,h2⟩:=S
 refine nG ?_; refine wpAny_bind (m:=field (.ref z) 2) (wpAny_field hz rfl (x:=.bool false) rfl ?_)
 refine wpAny_bind (m:=field (.ref z) 3) (wpAny_field hz rfl (x:=.ref TI) rfl ?_)
 refine wpAny_bind (wpAny_seqItems hI rfl ?_)
 refine wpAny_bind (m:=Builtin.SmallTypes.ownedTupleIsFree (.ref z)) ?_
 delta Builtin.SmallTypes.ownedTupleIsFree
 refine wpAny_bind (wpAny_field hz rfl (x:=.none) rfl (wpAny_pure ?_))
 refine wpAny_bind (wpAny_rule (wpAny_bind (wpAny_field hz rfl (x:=.ref TO) rfl (wpAny_bind (wpAny_setField_rec hz (by decide:0<5) fun ha za sa=>?_)))))
 replace za:IsZip ha z TI TO .ellipsis:=za
 refine wpAny_bind ?_
 simp only[List.zipIdx_cons,List.zipIdx_nil,List.forIn_cons,List.forIn_nil]
 refine wpAny_bind (wpAny_bind (wpAny_onRaise ?_))
 have ka:∀c o,c≠z→s.heap.get? c=some o→ha.get? c=some o:=fun c o n e=>sa.extBut c o n e
 refine wpAny_bind (m:=Builtin.SmallTypes.nextOf (.ref i1)) (aCo (h1.ext fun o e=>ka _ o D.i1z e) (t1.extBut sa.extBut D.l1z) hh (fun x hb hx j1 sb=>wpAny_pure ?_) fun hb x hx sb hx'=>?_)
 ·have kb:∀c o,c≠i1→ha.get? c=some o→hb.get? c=some o:=fun c o n e=>sb.extBut c o n e
  have Ob:IsPair hb TO a b:=kb _ _ D.TOi1 (ka _ _ D.TOz hO)
  refine wpAny_bind (wpAny_seqItems Ob rfl (wpAny_bind (wpAny_updateSeq_pair Ob fun hc Oc sc=>?_)))
  replace Oc:IsPair hc TO x b:=Oc
  have kc:∀c o,c≠TO→hb.get? c=some o→hc.get? c=some o:=fun c o n e=>sc.extBut c o n e
  refine wpAny_bind (wpAny_letGo (wpAny_pure ?_))
  refine wpAny_bind (wpAny_bind (wpAny_onRaise ?_))
  have l2c:hc.IsList l2 ys:=t2.at fun o e=>sc.extBut _ o D.l2TO (sb.extBut _ o D.l2i1 (sa.extBut _ o D.l2z e))
  refine e1 (hy x hx) fun y hy=>?_
  refine wpAny_bind (m:=Builtin.SmallTypes.nextOf (.ref i2)) (wpAny_nextOf_list_item (h2.ext fun o e=>kc _ o D.TOi2.symm (kb _ o D.i12.symm (ka _ o D.i2z e))) l2c hy fun hd i2d sd=>wpAny_pure ?_)
  have kd:∀c o,c≠i2→hc.get? c=some o→hd.get? c=some o:=fun c o n e=>sd.extBut c o n e
  have Od:IsPair hd TO x b:=kd _ _ D.TOi2 Oc
  refine wpAny_bind (wpAny_seqItems Od rfl (wpAny_bind (wpAny_updateSeq_pair Od fun hf Of sf=>?_)))
  replace Of:IsPair hf TO x y:=Of
  have kf:∀c o,c≠TO→hd.get? c=some o→hf.get? c=some o:=fun c o n e=>sf.extBut c o n e
  refine wpAny_bind (wpAny_letGo (wpAny_pure (wpAny_pure (wpAny_bind (wpAny_seqItems Of rfl (wpAny_bind (wpAny_newTuple ?_)))))))
  have hsz:hf.objs.size=s.heap.objs.size:=by exact rwS sf.1 (rwS sd.1 (rwS sc.1 (rwS sb.1 (rwS sa.1 rfl))))
  have kbf:∀c o,c≠TO→c≠i1→c≠i2→ha.get? c=some o→hf.get? c=some o:=fun c o n1 n2 n3 e=>kf c o n1 (kd c o n3 (kc c o n1 (kb c o n2 e)))
  have zf:IsZip hf z TI TO .ellipsis:=kbf _ _ D.TOz.symm D.i1z.symm D.i2z.symm za
  refine wpAny_bind (m:=Builtin.SmallTypes.ownedTupleHandOut (.ref z) (.ref hf.objs.size)) ?_
  delta Builtin.SmallTypes.ownedTupleHandOut
  have zg:IsZip (hf.push { cls:=.type "tuple",data:=.seq #[x,y] }) z TI TO .ellipsis:=Heap.get?_push_of_some _ zf
  refine wpAny_bind (wpAny_setField_rec zg (by decide:0<5) fun hg zg' sg=>?_)
  replace zg':IsZip hg z TI TO (rawInt hf.objs.size):=zg'
  refine wpAny_setField_rec zg' (by decide:1<5) fun hi zi si=>?_
  replace zi:IsZip hi z TI TO (rawInt hf.objs.size):=zi
  have up:∀c o,c≠z→hf.get? c=some o→hi.get? c=some o:=fun c o c1 e=>si.extBut _ _ c1 (sg.extBut _ _ c1 (Heap.get?_push_of_some _ e))
  have nz:hf.objs.size≠z:=Nat.ne_of_gt (Heap.lt_size zf)
  have Tn:IsPair hi hf.objs.size x y:=si.extBut _ _ nz (sg.extBut _ _ nz (Heap.get?_push_size _ rfl))
  rw[hsz]at zi Tn
  refine wpAny_pure ⟨_,rfl,?_⟩
  show Q (.ref hf.objs.size) _
  refine rwS hsz ?_
  exact q x y hi hx hy ⟨zi,up _ _ D.TIz (kbf _ _ D.TITO D.TIi1 D.TIi2 (ka _ _ D.TIz hI)),⟨x,y,up _ _ D.TOz Of⟩,Itr.ext j1 fun o e=>up _ o D.i1z (kf _ o D.TOi1.symm (kd _ o D.i12 (kc _ o D.TOi1.symm e))),Itr.ext i2d fun o e=>up _ o D.i2z (kf _ o D.TOi2.symm e)⟩ Tn fun c o eo n =>
   have nn:c≠z∧c≠TO∧c≠i1∧c≠i2:=⟨fun e=>n (.inl e),fun e=>n (.inr (.inr (.inl e))),fun e=>n (.inr (.inr (.inr (.inl e)))),fun e=>n (.inr (.inr (.inr (.inr e))))⟩
   up c o nn.1 (kbf c o nn.2.1 nn.2.2.1 nn.2.2.2 (ka c o nn.1 eo))
 ·refine e12 hx' fun oe hoe hce=>?_
  have zb:IsZip hb z TI TO .ellipsis:=sb _ _ D.i1z.symm za
  have xz:x≠z:=fun q=>by subst q; cases zb.symm.trans hoe; exact absurd (Value.type.inj (show Value.type "zip"=.type "StopIteration" from hce)) (by decide)
  exact wpAny_setField_rec zb (by decide:0<5) fun hf _ sf=>e hf x hx (fun c o eo n=>sf.extBut _ _ (fun e=>n (.inl e)) (sb _ _ (fun e=>n (.inr (.inr (.inr (.inl e))))) (ka _ _ (fun e=>n (.inl e)) eo))) ⟨oe,sf.extBut _ _ xz hoe,hce⟩
end
theorem ZS.ext{z TI TO i1 i2 l1 l2:Addr}{f:PV}{k:Nat}{h h':Heap}(x:ZS z TI TO i1 i2 l1 l2 f k h)(e:∀c,Zf z TI TO i1 i2 c→∀o,h.get? c=some o→h'.get? c=some o):ZS z TI TO i1 i2 l1 l2 f k h' :=
 ⟨e z (.inl rfl) _ x.hz,e TI (.inr (.inl rfl)) _ x.hI,x.hO.elim fun a q=>q.elim fun b q=>⟨a,b,e TO (.inr (.inr (.inl rfl))) _ q⟩,x.h1.ext (e i1 (.inr (.inr (.inr (.inl rfl))))),x.h2.ext (e i2 (.inr (.inr (.inr (.inr rfl)))))⟩
theorem ZS.has{z TI TO i1 i2 l1 l2:Addr}{f:PV}{k:Nat}{h:Heap}(x:ZS z TI TO i1 i2 l1 l2 f k h){c:Addr}(n:Zf z TI TO i1 i2 c):∃o,h.get? c=some o:=by
 rcases n with rfl | rfl | rfl | rfl | rfl
 ·exact⟨_,x.hz⟩
 ·exact⟨_,x.hI⟩
 ·exact x.hO.elim fun a q=>q.elim fun b q=>⟨_,q⟩
 ·exact x.h1.elim fun o q=>⟨o,q.1⟩
 ·exact x.h2.elim fun o q=>⟨o,q.1⟩
section
variable{D:Wd}{A:Around}{N:Nx}
theorem aSj{vs ws:List V}{k:Nat}{d:V}(h:((vs.zip ws).map fun (x:V × V)=>V.tup [x.1,x.2])[k]?=some d):∃a b,vs[k]?=some a∧ws[k]?=some b∧d=.tup [a,b]:=by
 rw[List.getElem?_map]at h
 refine nnG fun nG=>?_; obtain⟨⟨a,b⟩,e1,e2⟩:=Option.map_eq_some_iff.mp h
 refine nG ?_; exact⟨a,b,(List.getElem?_zip_eq_some.mp e1).1,(List.getElem?_zip_eq_some.mp e1).2,e2.symm⟩
theorem aTq{elts:List PE}{x1:Nat}{tp:Pos}{z TI TO i1 i2 l1 l2:Addr}{vs ws:List V}{C1 C2:Nx→Prop}(hl:ws.length=vs.length)(P:ZipApart z TI TO i1 i2 l1 l2)(c1:Cn D none vs Heap.IsTuple l1 C1)(c2:Cn D none ws Heap.IsList l2 C2) :
  ItOk D (.Tuple elts x1 tp) z (Zf z TI TO i1 i2) (fun k N=>ZS z TI TO i1 i2 l1 l2 .none k N.s.heap∧C1 N∧C2 N) ((vs.zip ws).map fun (x:V × V)=>V.tup [x.1,x.2]) none:=by
 refine⟨fun k N Y le hk j=>⟨j.1.ext hk,c1.1 N Y le j.2.1,c2.1 N Y le j.2.2⟩,fun A k d N Q E E' hh hv j m pv st q=>?_,fun A N Q E hh j m st q=>?_,fun A k N Q E j q=>wpAny_pyIter_zip j.1.hz q⟩
 all_goals
  refine nnG fun nG=>?_; refine e12 (c1.2 N m trivial j.2.1) fun xs t1 r1=>?_
  refine e12 (c2.2 N m trivial j.2.2) fun ys t2 r2=>?_
  refine nG ?_; have hT:N.s.TypeIs (.ref z) "zip":=⟨_,j.1.hz,rfl⟩
  have hy:∀{k:Nat} (x:PV),xs[k]?=some x→∃y,ys[k]?=some y:=fun {k} x h=>⟨ys[k]'(by
   refine rwT Array.length_toList (rwS (aV r2) (rwS hl (rwT (aV r1) (rwS Array.length_toList ?_)))); exact(Array.getElem?_eq_some_iff.mp h).1),Array.getElem?_eq_getElem _⟩
  delta pyNext
 ·refine nnG fun nG=>?_; refine e23 (aSj hv) fun d1 d2 e1 e2 e_4=>?_; subst e_4
  refine e12 (eF r1 e1) fun v1 f1 rv1=>?_
  refine e12 (eF r2 e2) fun v2 f2 rv2=>?_
  refine nG ?_; refine wpAny_bind (wpAny_attempt (wpAny_callSpecial?_slot (name:=Str.ofString "__next__") hT PySem.F.slot_zip_next (wpAny_call_entry PySem.F.slot_zip_next hT PySem.F.entry_zip_next
   (aJh (show A.in1.handled=none from hh) P j.1 t1 t2 hy (fun x y h' hx hy S T kp=>wpAny_pure ⟨_,rfl,?_⟩) fun h' x hend _ _=>nomatch hend.symm.trans (jK f1)) (PySem.F.args_zip_next_1 _))))
  refine nnG fun nG=>?_; cases hx.symm.trans (jK f1)
  cases hy.symm.trans (jK f2)
  refine nG ?_; refine wpAny_letOwnedTupleGo_zip S.hz fun h'' h7 sb=>?_
  have hne:N.s.heap.objs.size≠z:=fun q=>aY (q▸cI j.1.hz)
  have S2:ZS z TI TO i1 i2 l1 l2 .none (k+1) h'':=⟨h7,sb.extBut _ _ P.TIz S.hI,S.hO.elim fun a q=>q.elim fun b q=>⟨a,b,sb.extBut _ _ P.TOz q⟩,S.h1.ext fun o e=>sb.extBut _ o P.i1z e,S.h2.ext fun o e=>sb.extBut _ o P.i2z e⟩
  have a:=pW (s:={ N.s with heap:=h'' }) m pv (fun b o eo n=>sb.extBut b o (fun e=>n (.inl e)) (kp b o eo n)) (fun a f=>S2.has f) rfl rfl (sb.extBut _ _ hne T) aY
  exact q _ _ ⟨S2,c1.1 _ _ a.1.le j.2.1,c2.1 _ _ a.1.le j.2.2⟩ a.1 rfl (a.2 (cL a.1.le _ _ rv1) (cL a.1.le _ _ rv2))
 ·have j1:=j.1
  have z:((vs.zip ws).map fun (x:V × V)=>V.tup [x.1,x.2]).length=vs.length:=by rw[List.length_map,List.length_zip,hl,Nat.min_self]
  rw[z]at j1
  refine wpAny_bind (wpAny_attempt (wpAny_callSpecial?_slot (name:=Str.ofString "__next__") hT PySem.F.slot_zip_next (wpAny_call_entry PySem.F.slot_zip_next hT PySem.F.entry_zip_next
   (aJh (show A.in1.handled=none from hh) P j1 t1 t2 hy (fun x y h' hx _ _ _ _=>nomatch (qD r1).symm.trans hx) fun h' x _ kp hx'=>?_) (PySem.F.args_zip_next_1 _))))
  refine nnG fun nG=>?_; refine e12 hx' fun o ho hc=>?_
  refine nG ?_; exact wpAny_bind (wpAny_isInstance (T:="StopIteration") (b:=true) ⟨o,ho,hc⟩ isSubtype_stop (wpAny_pure ⟨rfl,q _ kp rfl rfl⟩))
end
theorem uE(l1 l2:Addr)(xs ys:Array Value) :
  Meets (Builtin.«zip.__new__» ⟨[.type "zip",.ref l1,.ref l2],[]⟩) (fun _ R s=>s.heap.IsTuple l1 xs∧s.heap.IsList l2 ys ∧
   ∀h',(∀c o,s.heap.get? c=some o→h'.get? c=some o)→ZS (s.heap.objs.size+4) (s.heap.objs.size+2) (s.heap.objs.size+3) s.heap.objs.size (s.heap.objs.size+1) l1 l2 .none 0 h'→R (.ok (.ret (.ref (s.heap.objs.size+4)))) { s with heap:=h' }) :=
 .of_wp fun prog w A R s h=>by
  obtain⟨hp,g,d,tk,os⟩:=s; refine e03 h fun hl1 hl2 h=>?_
  have hsub:=sub_zip
  have hL1:Heap.IsTuple (Shared.heap ⟨hp,g,d,tk,os⟩) l1 xs:=hl1
  have hL2:Heap.IsList (Shared.heap ⟨hp.push { cls:=.type "tuple_iterator",data:=.fields #[.ref l1,.int 0 0] },g,d,tk,os⟩) l2 ys:=hl2.at fun o e=>Heap.get?_push_of_some _ e
  wp_walk using wpAny_pyIter_tuple hL1,wpAny_pyIter_list hL2
  refine⟨_,rfl,?_⟩
  simp only[Heap.size_push]at h ⊢
  have at_:∀(h:Heap) (o:Obj) (n:Nat),o.isFreed=false→h.objs.size=n→(h.push o).get? n=some o:=fun h o n hf e=>by subst e; exact Heap.get?_push_size _ hf
  have up:∀{h:Heap} {a:Addr} {o o':Obj},h.get? a=some o→(h.push o').get? a=some o:=fun e=>Heap.get?_push_of_some _ e
  have sz:∀{h:Heap} {o:Obj} {n:Nat},h.objs.size=n→(h.push o).objs.size=n+1:=fun e=>(Heap.size_push ..).trans (congrArg (· + 1) e)
  exact h _ (fun c o x=>up (up (up (up (up x))))) ⟨at_ _ _ _ rfl (sz (sz (sz (sz rfl)))),up (up (at_ _ _ _ rfl (sz (sz rfl)))),⟨_,_,up (at_ _ _ _ rfl (sz (sz (sz rfl))))⟩,⟨_,up (up (up (up (Heap.get?_push_size _ rfl)))),rfl,rfl⟩,⟨_,up (up (up (at_ _ _ _ rfl (sz rfl)))),rfl,rfl⟩⟩
noncomputable def bBu(l:List V)(p:V→V→Prop):Prop:=match l with
 | [v,w]=>p v w
 | _=>False
section
variable{B:Bd}{u:Nat}{c:Ck}{g:Gt}
theorem aLg{elts:List PE}{x1:Nat}{tp:Pos}{y y2:X}{e f:PE}{x:Str}{np pos:Pos}(F:Facts B g)(BB:BiOk B.D c x (.type "zip"))(hs:isStarred e=false)(hs':isStarred f=false)(h:TEs B u c [y,y2] (fun env=>spliced (backTo pos (starEach [e,f] env)))) :
  TSr B u c (.Tuple elts x1 tp) (.zip y y2) (.Call (.Name x np) [e,f] [] pos):=fun G N Q E K H q z =>
 fF (K:=fun l σ=>bBu l fun v w=>oK (tJ v) fun l=>oK (fW w) fun l'=>bK (decide (l'.length=l.length)) (K (((l.zip l').map fun (x:V × V)=>V.tup [x.1,x.2]),none) σ)) F BB rfl (by refine rwS List.all_cons (rwS List.all_cons (rwS hs (rwS hs' ?_))); rfl) h H q fun ds Y vs k a r=>by
  rcases ds with _ | ⟨d,_ | ⟨d2,_ | ⟨_,_⟩⟩⟩
  ·exact False.elim k
  ·exact False.elim k
  ·obtain⟨v,_,e1,rv,w,_,e2,rw,e3⟩:=r
   subst e3 e2 e1
   cases d with
   | tup l =>
    cases d2 with
    | list l' =>
    refine e02 (eQ k) fun hl k=>?_
    refine e24 rw fun b' arr' e_2 wa' t' rs'=>?_; subst e_2
    have hl:l'.length=l.length:=of_decide_eq_true hl
    refine e24 rv fun b arr e_2 wa t rs=>?_; subst e_2
    refine callType_new PySem.F.called_zip (by decide) (PySem.F.typeCall_zip_2 _ _) (PySem.F.newCall_zip_2 _ _) (fun obj=>PySem.F.args_object_init_3 obj _ _) PySem.F.entry_zip_new (uE b b' arr arr') ⟨t.tup,t'.list,fun h' kp S=>⟨⟨_,S.hz,rfl⟩,wpAny_pyIter_zip S.hz ?_⟩⟩
    have m:More Y { Y.s with heap:=h' }:=⟨kp,rfl,rfl⟩
    have n1:∀k,Y.s.heap.objs.size≤k→¬ Y.has k:=fun k hk h=>absurd (jF h) (Nat.not_lt.mpr hk)
    have lb:b<Y.s.heap.objs.size:=t.elim fun k e=>Heap.lt_size e
    have lb':b' < Y.s.heap.objs.size:=t'.elim fun k e=>Heap.lt_size e
    have af:=m.aft a.sm
    revert S n1 lb lb'
    generalize Y.s.heap.objs.size=n
    intro S n1 lb lb'
    have ne:∀{a b:Nat},a≠b→n+a≠n+b:=fun h e=>h (Nat.add_left_cancel e)
    have lt:∀{b} (a:Nat),b<n→b≠n+a:=fun a h=>Nat.ne_of_lt (Nat.lt_of_lt_of_le h (Nat.le_add_right n a))
    exact z _ none (Y.at _) _ _ _ k (aTq hl ⟨ne (by decide),ne (by decide),ne (a:=0) (by decide),ne (by decide),ne (by decide),ne (b:=0) (by decide),ne (by decide),ne (b:=0) (by decide),ne (by decide),ne (a:=0) (by decide),lt 4 lb,lt 3 lb,lt 0 lb,lt 1 lb,lt 4 lb',lt 3 lb',lt 0 lb',lt 1 lb'⟩ aBd sJ)
     ⟨S,aBd.1 _ _ af.le ⟨wa,arr,t,rs⟩,sJ.1 _ _ af.le ⟨wa',arr',t',rs'⟩⟩ (a.trans af) fun c f =>
      have nc:¬ Y.has c:=by rcases f with rfl | rfl | rfl | rfl | rfl <;> first | exact n1 _ (Nat.le_refl _) | exact n1 _ (Nat.le_add_right _ _)
      ⟨fun h=>nc (a.ex _ h),(S.has f).elim fun o e=>m.pv a.sm nc e⟩
    | _=>exact False.elim k
   | _=>exact False.elim k
  ·exact False.elim k
end
section
variable{B:Bd}{u:Nat}{c:Ck}{G:Ev}{N Y Z:Nx}{g:Option Nat}{P:Addr→Prop}
noncomputable def Own(env:bA)(a:Addr):Prop:=a=env.locals∨∃q∈env.cells,q.2=a
theorem kR(h:Eo c G.env N){a:Addr}(o:Own G.env a):N.has a∧¬ chg N.μ a:=o.elim (fun e=>e▸h.loc) fun ⟨q,m,e⟩=>e▸h.cells q m
theorem Fr.own{b:Addr}(f:Fr c G.env b):Own G.env b:=f.imp id fun ⟨x,_,e⟩=>⟨(x,b),aC e,rfl⟩
theorem Gs.by(H:Gs B u c G Z)(sm:Sm B.D Y)(le:Le Z Y)(hk:∀a,Own G.env a→∀o,Z.s.heap.get? a=some o→Y.s.heap.get? a=some o)(hc:∀a,Z.has a→¬ chg Z.μ a→¬ chg Y.μ a)(hp:∀b,Fr c G.env b→Pv Y b):Gs B u c G Y :=
 have eo:=H.go.eo
 have ho:∀a,Own G.env a→Y.has a∧¬ chg Y.μ a:=fun a o=>have w:=kR eo o
  ⟨(Option.isSome_iff_exists.mp w.1).elim fun b e=>cI (hk a o b e),hc a w.1 w.2⟩
 ⟨⟨H.go.rm,⟨eo.sc,eo.kind,eo.gl,eo.bi,ho _ (.inl rfl),fun q hq=>ho _ (.inr ⟨q,hq,rfl⟩),eo.fr,eo.cx⟩,fun x i d h1 h2 h3=>(H.go.fe x i d h1 h2 h3).elim fun w q=>⟨w,q.1.keep (fun o e=>hk _ (.inl rfl) o e) fun b o e1 e2=>hk b (.inr ⟨(x,b),aC e1,rfl⟩) o e2,cL le d w q.2⟩,sm⟩,
  hp,H.ns.elim fun m n=>⟨m,n.at fun o e=>hk _ (.inl rfl) o e⟩,fun x w h=>(H.cl x w h).elim fun b q=>q.elim fun v q=>⟨b,v,q.1,q.2.elim fun o r=>⟨o,hk _ (.inr ⟨(x,b),aC q.1,rfl⟩) o r.1,r.2⟩⟩,H.ap⟩
theorem Gs.item(H:Gs B u c G Z)(a:Aft B.D Z P Y)(n:∀b,Own G.env b→¬ P b):Gs B u c G Y :=
 H.by a.sm a.le (fun b o x e=>a.kp b x e (kR H.go.eo o).2 (n b o)) (fun b=>a.chg) fun b f=>(H.pv b f).go a
theorem Gs.spoil{s:Shared}(H:Gs B u c G Z)(p:∀b,P b→Pv Z b)(k:∀b o,Z.s.heap.get? b=some o→¬ P b→s.heap.get? b=some o)(n:∀b,Own G.env b→¬ P b):Gs B u c G (Z.at s) :=
 H.by (H.go.sm.turn (F:=P) p k).2 (H.go.sm.turn (F:=P) p k).1 (fun b o x e=>k b x e (n b o)) (fun b _ h=>h) fun b f=>⟨eL k (H.pv b f).lt (n b f.own),(H.pv b f).nw,(H.pv b f).nm⟩
theorem vY{α:Type}{l:List α}{k:Nat}(h:k≤l.length)(e:l.drop k=[]):k=l.length:=Nat.le_antisymm h (List.drop_eq_nil_iff.mp e)
theorem pX{α:Type}{l r:List α}{d:Nat}{a:α}(h:l.drop d=a::r):l[d]?=some a∧l.drop (d+1)=r :=
 ⟨by refine rwT (Nat.add_zero d) (rwT (List.getElem?_drop) (rwS h ?_)); rfl,by refine rwT List.drop_drop (rwS h ?_); rfl⟩
theorem aTk{tg:Tg}{src:Src}{body:List S}{target iter:PE}{bodyE:List Stmt}{pos:Pos}(hs:TSr B u c target src iter)(hf:∀env x,foldedSetIterable iter env x=pure x)(hB:TgOk c tg target)(hb:TSs B u c body (fun env=>execs bodyE env)) :
  TS B u c (.for_ tg src body) (fun env=>exec (.For target iter bodyE [] pos) env):=fun G N Q E K H q z =>
 wpAny_For (hs:=hf G.env) (hs G N _ E _ H.go q fun vs g Y I fp J k0 io j0 a0 nf =>
  have np:∀b,Own G.env b→¬ fp b:=fun b o f=>(nf b f).1 (kR H.go.eo o).1
  codeAny_forLoop_any (fun j s2=>∃k ρ Z,s2=Z.s∧j=vs.length - k∧k≤vs.length∧dP (dZ g vs) (fun v ρ=>dQ ρ tg v) (fun ρ σ k=>kSs B.P B.T body ρ σ k) (vs.drop k) ρ Z.σ K∧J k Z∧Aft B.D N (Fr c G.env) Z∧Gs B u c (G.to ρ) Z∧∀b,fp b→Pv Z b) (fun j s2 h=>by
   refine nnG fun nG=>?_; obtain⟨k,ρ,Z,rfl,rfl,hk,q,jz,a,HZ,pv⟩:=h
   refine nG ?_; cases hd:vs.drop k with
   | nil =>
    rw[hd]at q
    have q:=mH q
    rw[vY hk hd]at jz
    exact wpAny_mono (io.stop G.A Z (fun s₁=>Q .next s₁) _ H.go.rm.hand jz HZ.go.sm q.1 fun s₁ kp g os=>z.1 ρ (Z.at s₁) q.2 (a.lose (fun b f=>(nf b f).1) pv kp g os) (HZ.spoil pv kp np)) (fun r s₁ h=>h.1▸wpAny_execs_nil h.2) fun _ _ h=>h
   | cons d rest =>
    rw[hd]at q
    have w:=pX hd
    refine wpAny_mono (io.item G.A k d Z (fun v s₂=>wpAny (model B.D.prog B.D.w) G.A (assign target G.env v) _ _ s₂) _ _ H.go.rm.hand w.1 jz HZ.go.sm pv (mH q).1 fun v Y1 j1 a1 e1 rv=>?_) (fun r s₁ h=>h.elim fun v h=>h.1▸h.2) fun _ _ h=>h
    refine pF (G:=G.to ρ) hB (HZ.item a1 np) (mH q).2 rv fun ρ' Y2 k2 e2 a2 H2=>?_
    rw[← e1,← e2]at k2
    refine hb (G.to ρ') Y2 _ _ _ H2 k2 ⟨fun ρ3 Y3 k3 a3 H3=>?_,fun d Y3 v k3 a3 rv=>z.2 d Y3 v k3 (((a.then a1 fun b f=>(nf b f).1).trans a2).trans a3) rv⟩
    have a23:=a2.trans a3
    have pv1:∀b,fp b→Pv Y1 b:=fun b f=>(pv b f).go a1
    exact⟨vs.length - (k+1),Nat.sub_lt_sub_left ((List.getElem?_eq_some_iff.mp w.1).1) (Nat.lt_succ_self k),k+1,ρ3,Y3,rfl,rfl,((List.getElem?_eq_some_iff.mp w.1).1),by refine rwS w.2 ?_; exact k3,io.jm (k+1) Y1 Y3 a23.le (fun b f o e=>a23.kp b o e (pv1 b f).nc fun r=>np b r.own f) j1,(a.then a1 fun b f=>(nf b f).1).trans a23,H3,fun b f=>(pv1 b f).go a23⟩) _
   ⟨0,G.ρ,Y,rfl,rfl,Nat.zero_le _,by refine rwS List.drop_zero ?_; exact k0,j0,a0.up,H.to a0,fun b f=>(nf b f).2⟩)
end
noncomputable abbrev cW:=PySem.Comprehension
noncomputable def mC(sc o:Scope):Scope:={ sc with names:=sc.names.map fun (n,k)=>if (k == .free&&o.kind == .function&&o.names.lookup n==some .cell) then (n,.cell) else (n,k) }
noncomputable def nP(o:Scope)(x:Str)(k:NameKind):NameKind:=if (k == .free&&o.kind == .function&&o.names.lookup x==some .cell)=true then .cell else k
theorem sH{o sc:Scope}{x:Str}:(mC sc o).names.lookup x=(sc.names.lookup x).map (nP o x):=by
 show List.lookup x (sc.names.map _)=_
 induction sc.names with
 | nil=>rfl
 | cons p l ih =>
  obtain⟨n,j⟩:=p
  show List.lookup x ((if (j==NameKind.free&&o.kind == .function&&o.names.lookup n==some .cell)=true then (n,NameKind.cell) else (n,j))::_)=_
  refine rwS (show (if (j==NameKind.free&&o.kind == .function&&o.names.lookup n==some .cell)=true then (n,NameKind.cell) else (n,j))=(n,nP o n j) by delta nP; split <;> rfl) (rwS List.lookup_cons (rwS List.lookup_cons ?_))
  cases h:x==n with
  | true=>refine rwS (eq_of_beq h) ?_; rfl
  | false=>exact ih
theorem aDo{o:Scope}{x:Str}{k:NameKind}(h:k=.free):nP o x k=.cell∨nP o x k=.free:=by
 delta nP; split
 ·exact .inl rfl
 ·exact .inr h
theorem aLu{o:Scope}{x:Str}{k:NameKind}(h:nP o x k=.cell∨nP o x k=.free):k=.cell∨k=.free:=by
 delta nP at h; split at h
 ·rename_i e; exact .inr (eq_of_beq (aB (aB e)))
 ·exact h
noncomputable def eA(cells:List (Str × Addr)):List (Str × NameKind)→List (Str × Addr)→List (Str × Addr)
 | [],cs=>cs
 | (x,k)::r,cs=>eA cells r (if (k == .free)=true then (x,(cells.lookup x).getD 0)::cs else cs)
theorem uQ{env:bA}:∀(l:List (Str × NameKind)) (cs:List (Str × Addr)),(∀p∈l,p.2=.free→(env.cells.lookup p.1).isSome=true) →
  (forIn l cs fun (x:Str × NameKind) (r:List (Str × Addr))=>if (x.2 == .free)=true then (do let c ← cellOf env x.1; pure (ForInStep.yield ((x.1,c)::r)):Sem (ForInStep (List (Str × Addr)))) else pure (ForInStep.yield r))=pure (eA env.cells l cs)
 | [],cs,_=>rfl
 | (x,k)::l,cs,hl=>by
  rw[List.forIn_cons]
  unfold eA
  by_cases hk:(k == .free)=true
  ·refine e1 (Option.isSome_iff_exists.mp (hl (x,k) (List.mem_cons_self ..) (eq_of_beq hk))) fun c hc=>?_
   rw[if_pos hk,show cellOf env x=pure c by delta cellOf; rw[hc],if_pos hk,hc,pure_bind,pure_bind]
   exact uQ l _ fun q hq=>hl q (List.mem_cons_of_mem _ hq)
  ·rw[if_neg hk,if_neg hk,pure_bind]
   exact uQ l _ fun q hq=>hl q (List.mem_cons_of_mem _ hq)
theorem aAy{sc:Scope}{env:bA}(h:∀p∈sc.names,p.2=.free→(env.cells.lookup p.1).isSome=true):closureFor sc env=pure (eA env.cells sc.names []):=by
 delta closureFor
 exact(congrArg (· >>= pure) (uQ sc.names [] h)).trans (pure_bind _ _)
theorem sR{cells:List (Str × Addr)}{x:Str}:∀(l:List (Str × NameKind)) (cs:List (Str × Addr)),cs.lookup x=some ((cells.lookup x).getD 0)→(eA cells l cs).lookup x=some ((cells.lookup x).getD 0)
 | [],cs,h=>h
 | (y,k)::l,cs,h=>sR l _ (by
  split
  ·refine rwS List.lookup_cons ?_
   cases e:x==y with
   | true=>exact rwS (eq_of_beq e) rfl
   | false=>exact h
  ·exact h)
theorem jB{cells:List (Str × Addr)}{x:Str}:∀(l:List (Str × NameKind)) (cs:List (Str × Addr)),(x,.free)∈l→(eA cells l cs).lookup x=some ((cells.lookup x).getD 0)
 | (y,k)::l,cs,h=>(List.mem_cons.mp h).elim (fun h=>by cases h; exact sR l _ (by exact rwS (if_pos (by rfl)) (rwS List.lookup_cons (rwS BEq.rfl rfl)))) fun h=>jB l _ h
theorem vT{cells:List (Str × Addr)}{q:Str × Addr}:∀(l:List (Str × NameKind)) (cs:List (Str × Addr)),q∈eA cells l cs→q∈cs∨((q.1,.free)∈l∧q.2=(cells.lookup q.1).getD 0)
 | [],cs,h=>.inl h
 | (y,k)::l,cs,h=>(vT l _ h).elim (fun h=>by
  split at h
  ·rename_i hk
   exact(List.mem_cons.mp h).elim (fun e=>.inr (by refine rwS e (rwT (eq_of_beq hk) ?_); exact⟨List.mem_cons_self ..,rfl⟩)) .inl
  ·exact .inl h) fun h=>.inr ⟨List.mem_cons_of_mem _ h.1,h.2⟩
structure CpOk(c:Ck)(sc:Scope)(nm:List (Str × Nat))(slots:List Nat):Prop where
 kind:sc.kind=.function
 okl:∀x∈sc.names,x.2=.local→sc.names.lookup x.1=some .local
 okc:∀x∈sc.names,x.2=.cell→sc.names.lookup x.1=some .cell
 fre:∀x∈sc.names,x.2=.free→c.sc.names.lookup x.1=some .cell∨c.sc.names.lookup x.1=some .free
 nm:∀x i,nm.lookup x=some i→i∈slots∨(c.names.lookup x=some i∧sc.names.lookup x=some .free)
noncomputable def aNl(ifs:List PE)(env:bA):Sem Bool:=forIn ifs true fun c r=>if r=true then do let ok ← isTrue c env (eval c env); pure (ForInStep.yield ok) else pure (ForInStep.yield r)
noncomputable def lX(elt:PE)(gens:List cW)(d:Nat)(sc:Scope)(pos:Pos)(it acc:PV)(env:bA):Sem Fin:=match gens[d+1]? with
 | none=>(eval elt env >>= fun x=>call (.builtin "list.append") [acc,x] >>= fun _=>pure ()) >>= fun _=>again (.compLoop (.ListComp elt gens sc pos) d it acc env)
 | some g=>eval g.iter env >>= fun x=>standAt g.iter.pos >>= fun _=>if (g.is_async != 0)=true then (foldedIterable g.iter x >>= fun x=>holding [x] (if (g.is_async != 0)=true then asyncIter x else pyIter x) >>= fun i=>runOwn (.compStart (.ListComp elt gens sc pos) (d+1) i acc env) env >>= fun _=>again (.compLoop (.ListComp elt gens sc pos) d it acc env))
  else (foldedSetIterable g.iter env x >>= fun x=>holding [x] (if (g.is_async != 0)=true then asyncIter x else pyIter x) >>= fun i=>runOwn (.compStart (.ListComp elt gens sc pos) (d+1) i acc env) env >>= fun _=>again (.compLoop (.ListComp elt gens sc pos) d it acc env))
theorem aMq{elt:PE}{gens:List cW}{sc:Scope}{pos:Pos}{d:Nat}{target iter:PE}{ifs:List PE}(hg:gens[d]?=some ⟨target,iter,ifs,0⟩)(it acc:PV)(env:bA) :
  compTurn (.ListComp elt gens sc pos) d it acc env=(standAt iter.pos >>= fun _=>pyNext it >>= fun r=>match r with
   | none=>pure (.done .next)
   | some v=>letOwnedTupleGo target it v >>= fun _=>assign target env v >>= fun _=>aNl ifs env >>= fun ok =>
     (if ok=true then lX elt gens d sc pos it acc env else again (.compLoop (.ListComp elt gens sc pos) d it acc env))):=by
 delta compTurn lX
 dsimp only
 refine rwS hg ?_
 cases gens[d+1]? <;> rfl
section
variable{prog:Program}{w:World}{A:Around}{E:PV→Shared→Prop}{R:Result→Shared→Prop}{s:Shared}{elt:PE}{gens:List cW}{sc:Scope}{pos:Pos}{d:Nat}{it acc:PV}{env:bA}
theorem aEi{target iter:PE}{ifs:List PE}(hg:gens[d]?=some ⟨target,iter,ifs,0⟩)(I:Nat→Shared→Prop)
  (turn:∀n s (E:PV→Shared→Prop),I n s→wpAny (model prog w) A (pyNext it) (fun r s₁=>match r with
   | none=>R (.ok .next) s₁
   | some v=>wpAny (model prog w) A (letOwnedTupleGo target it v) (fun _ s₁=>wpAny (model prog w) A (assign target env v) (fun _ s₂=>wpAny (model prog w) A (aNl ifs env) (fun ok s₃ =>
      if ok=true then wpAny (model prog w) A (lX elt gens d sc pos it acc env) (fun f s₄=>f=.again (.compLoop (.ListComp elt gens sc pos) d it acc env)∧∃m,m<n∧I m s₄) E s₃ else ∃m,m<n∧I m s₃) E s₂) E s₁) E s₁) E s)
  (n:Nat) (h:I n s):codeAny (model prog w) A (.compLoop (.ListComp elt gens sc pos) d it acc env) R s:=by
 refine codeAny_loop rfl I (fun n s hI=>?_) n h
 show wpAny _ A ((compTurn (.ListComp elt gens sc pos) d it acc env).onRaise (fun x=>do noteFrame x env; theTreesLotGoes x)) _ _ s
 refine wpAny_noted ?_
 rw[aMq hg]
 refine wpAny_bind (wpAny_standAt (wpAny_bind (wpAny_mono (turn n s _ hI) (fun r s₁ h₁=>?_) fun _ _ h'=>h')))
 cases r with
 | none=>exact wpAny_pure h₁
 | some v =>
  refine wpAny_bind (wpAny_mono h₁ (fun _ s₁ h₁=>wpAny_bind (wpAny_mono h₁ (fun _ s₂ h₂=>wpAny_bind (wpAny_mono h₂ (fun ok s₃ h₃=>?_) fun _ _ h'=>h')) fun _ _ h'=>h')) fun _ _ h'=>h')
  cases ok with
  | false=>exact wpAny_pure ⟨rfl,h₃⟩
  | true=>exact wpAny_mono h₃ (fun f s₄ h₄=>by cases h₄.1; exact⟨rfl,h₄.2⟩) fun _ _ h'=>h'
theorem vJ{g:cW}(hg:gens[d]?=some g)(ha:g.is_async=0)(h0:codeAny (model prog w) A (.compLoop (.ListComp elt gens sc pos) d it acc env) R s)
  (h:∀E,wpAny (model prog w) A (pyIter it) (fun it' s'=>codeAny (model prog w) A (.compLoop (.ListComp elt gens sc pos) d it' acc env) R s') E s) :
  codeAny (model prog w) A (.compStart (.ListComp elt gens sc pos) d it acc env) R s:=by
 refine codeAny_of_tree ?_
 show wpAny _ _ ((compStart (.ListComp elt gens sc pos) d it acc env).onRaise (fun x=>do noteFrame x env; standAt theWindowsPlace)) _ _ s
 refine wpAny_notedAt ?_
 have hc:(clausesOf (.ListComp elt gens sc pos))[d]?=some g:=hg
 delta compStart
 simp only[hc,Option.elim,ha,bne_self_eq_false,Bool.false_eq_true,if_false]
 refine wpAny_bind (wpAny_askSetting (wpAny_ite ?_))
 split
 ·first
   | exact wpAny_bind (wpAny_pure (wpAny_pure (And.intro rfl h0)))
   | exact wpAny_pure (And.intro rfl h0)
   | exact wpAny_bind (wpAny_bind (wpAny_pure (wpAny_pure (And.intro rfl h0))))
 ·first
   | exact wpAny_bind (wpAny_rule (wpAny_bind (wpAny_standAt (wpAny_bind (wpAny_mono (h _) (fun it' s' h'=>wpAny_pure (And.intro rfl h')) fun _ _ x=>x)))))
   | (refine wpAny_bind (wpAny_rule ?_); exact wpAny_bind (wpAny_standAt (wpAny_bind (wpAny_mono (h _) (fun it' s' h'=>wpAny_pure (And.intro rfl h')) fun _ _ x=>x))))
end
structure Cs(B:Bd)(u:Nat)(c:Ck)(G:Ev)(b:Addr)(N:Nx)(ds:List V):Prop where
 gs:Gs B u c G N
 pv:Pv N b
 nb:¬ Own G.env b
 rc:RC B.D N b (.list ds)
noncomputable def Ac(c:Ck)(G:Ev)(b:Addr)(a:Addr):Prop:=Fr c G.env a∨a=b
noncomputable def Clr(l:List Nat)(ρ:aP):Prop:=∀i∈l,∀d:V,ρ[i]?≠some (some d)
noncomputable def aMa(B:Bd)(u:Nat)(c:Ck)(r:C)(elt:PE)(rest:List cW):Prop :=
 ∀(gens:List cW) (d:Nat) (sc:Scope) (pos:Pos) (it:PV) (b:Addr) (G:Ev) (N:Nx) (ds:List V) (Q:Fin→Shared→Prop) (E:PV→Shared→Prop) (K:List V→St→Prop),
  gens.drop (d+1)=rest→Cs B u c G b N ds→Clr r.slots G.ρ→kC B.P B.T r ds G.ρ N.σ K →
  (∀l Y,K l Y.σ→Aft B.D N (Ac c G b) Y→Cs B u c G b Y l→Q (.again (.compLoop (.ListComp elt gens sc pos) d it (.ref b) G.env)) Y.s)→Wp B G N (lX elt gens d sc pos it (.ref b) G.env) Q E
noncomputable def jC(B:Bd)(u:Nat)(c:Ck)(tg:Tg)(ifs:List X)(r:C)(target elt:PE)(ifsE:List PE)(rest:List cW):Prop :=
 ∀(gens:List cW) (d:Nat) (iter:PE) (sc:Scope) (pos:Pos) (G:Ev) (N0 N:Nx) (b:Addr) (ds:List V) (I:Addr) (fp:Addr→Prop) (J:Nat→Nx→Prop) (vs:List V) (g:Option Nat) (K:List V→St→Prop) (R:Result→Shared→Prop),
  gens[d]?=some ⟨target,iter,ifsE,0⟩→gens.drop (d+1)=rest→eJ (dZ g vs) (dQ G.ρ tg) (fun ρ σ k=>vR B.P B.T ifs ρ σ k) (fun ds ρ σ k=>kC B.P B.T r ds ρ σ k) vs ds N.σ K →
  ItOk B.D target I fp J vs g→J 0 N→Aft B.D N0 (Ac c G b) N→(∀a,fp a→¬ N0.has a∧Pv N a∧¬ Own G.env a∧a≠b)→Cs B u c G b N ds→Clr (tg.slots++r.slots) G.ρ →
  (∀l Z,K l Z.σ→Aft B.D N0 (Ac c G b) Z→Cs B u c G b Z l→R (.ok .next) Z.s)→codeAny (model B.D.prog B.D.w) G.A (.compLoop (.ListComp elt gens sc pos) d (.ref I) (.ref b) G.env) R N.s
section
variable{B:Bd}{u:Nat}{c:Ck}{G:Ev}{N Y Z:Nx}{g:Option Nat}{P:Addr→Prop}{b:Addr}{ds:List V}{ρ:aP}
theorem Cs.on(x:Cs B u c G b Z ds)(H:Gs B u c (G.to ρ) Y)(a:Aft B.D Z P Y)(n:¬ P b):Cs B u c (G.to ρ) b Y ds:=⟨H,x.pv.go a,x.nb,lH a.le (fun o e=>a.kp b o e x.pv.nc n) x.rc⟩
theorem Cs.to(x:Cs B u c G b Z ds)(a:Aft B.D Z noA Y):Cs B u c G b Y ds:=x.on (ρ:=G.ρ) (x.gs.to a) a id
theorem Gs.less(H:Gs B u c (G.to ρ) Y)(h:∀(j:Nat) (d:V),G.ρ[j]?=some (some d)→ρ[j]?=some (some d)):Gs B u c G Y:=⟨⟨H.go.rm,H.go.eo,fun x i d h1 h2 h3=>H.go.fe x i d h1 h2 (h i d h3),H.go.sm⟩,H.pv,H.ns,H.cl,H.ap⟩
theorem Ac.nb{a:Addr}(h:Ac c G b a)(n:¬ Own G.env a∧a≠b):False:=h.elim (fun f=>n.1 f.own) n.2
theorem aQf{ts:List PE}{env:bA}{A:Around}{s:Shared}{Q:Bool→Shared→Prop}{E:PV→Shared→Prop}(h:Q false s):wpAny (model B.D.prog B.D.w) A (forIn ts false fun c r=>if r=true then do let ok ← isTrue c env (eval c env); pure (ForInStep.yield ok) else pure (ForInStep.yield r)) Q E s:=by
 induction ts with
 | nil=>exact wpAny_pure h
 | cons e es ih =>
  rw[List.forIn_cons]
  exact wpAny_bind (wpAny_pure ih)
theorem aTm{xs:List X}{ts:List PE}(h:All2 (fun x t=>TB B u c x (fun env=>isTrue t env (eval t env))) xs ts):∀(G:Ev) (N:Nx) (Q:Bool→Shared→Prop) (E:PV→Shared→Prop) (K:Bool→St→Prop),Go B u c G N→vR B.P B.T xs G.ρ N.σ K →
  (∀b Y,K b Y.σ→Aft B.D N noA Y→Q b Y.s)→Wp B G N (aNl ts G.env) Q E:=by
 induction h with
 | nil=>exact fun G N Q E K H q z=>wpAny_pure (z true N q H.refl)
 | cons h1 _ ih =>
   intro G N Q E K H q z
   delta Wp aNl
   rw[List.forIn_cons]
   exact wpAny_bind (wpAny_bind (h1 G N _ E _ H q fun b Y k a=>wpAny_pure (match b,k with
    | true,k=>ih G Y Q E K (H.to a) k fun b2 Z k2 a2=>z b2 Z k2 (a.trans a2)
    | false,k=>aQf (z false Y k a))))
theorem nB:∀{is:List Nat} {vs:List V} {ρ:aP} {j:Nat},j ∉ is→(fX is vs ρ)[j]?=ρ[j]?
 | [],_,_,_,_=>rfl
 | _::_,[],_,_,_=>rfl
 | i::is,v::vs,ρ,j,h=>(nB (is:=is) fun m=>h (List.mem_cons_of_mem _ m)).trans (List.getElem?_set_ne fun e=>h (by refine rwS e ?_; exact List.mem_cons_self ..))
theorem qM{tg:Tg}{v:V}{ρ':aP}{j:Nat}(h:dQ ρ tg v=some ρ')(n:j ∉ tg.slots):ρ'[j]?=ρ[j]?:=by
 cases tg with
 | one i=>obtain rfl:=Option.some.inj h; exact List.getElem?_set_ne fun e=>n (by refine rwS e ?_; exact List.mem_cons_self ..)
 | many is=>cases v with
  | tup l =>
   have h:(if is.length=l.length then some (fX is l ρ) else none)=some ρ':=h
   by_cases e:is.length=l.length
   ·rw[if_pos e]at h; obtain rfl:=Option.some.inj h; exact nB n
   ·rw[if_neg e]at h; exact nos h
  | _=>exact nos h
theorem aWp{α:Type}{o:Option α}{K:α→Prop}(h:oK o K):oK o fun a=>o=some a∧K a:=by cases o <;> first | exact h | exact⟨rfl,h⟩
theorem oR{st:St→Bool}{bnd:V→Option aP}{ifs:aP→St→(Bool→St→Prop)→Prop}{body:List V→aP→St→(List V→St→Prop)→Prop}{l ds:List V}{σ:St}{k:List V→St→Prop}(h:kLoopC st bnd ifs body l ds σ k):eJ st bnd ifs body l ds σ k:=by
 delta kLoopC at h; exact h
theorem aLn{tg:Tg}{ifs:List X}{r:C}{target elt:PE}{ifsE:List PE}{rest:List cW}(hB:TgOk c tg target)(hI:All2 (fun x t=>TB B u c x (fun env=>isTrue t env (eval t env))) ifs ifsE)(hd:∀i∈r.slots,i ∉ tg.slots)(hr:aMa B u c r elt rest) :
  jC B u c tg ifs r target elt ifsE rest:=fun gens d iter sc pos G N0 N b ds I fp J vs g K R hg hdr q io j0 a0 nf x0 cl z =>
 have np:∀a,Own G.env a→¬ fp a:=fun a o f=>(nf a f).2.2.1 o
 aEi hg (fun j s2=>∃k Z ds,s2=Z.s∧j=vs.length - k∧k≤vs.length∧eJ (dZ g vs) (dQ G.ρ tg) (fun ρ σ k=>vR B.P B.T ifs ρ σ k) (fun ds ρ σ k=>kC B.P B.T r ds ρ σ k) (vs.drop k) ds Z.σ K∧J k Z∧Aft B.D N0 (Ac c G b) Z∧Cs B u c G b Z ds∧∀a,fp a→Pv Z a) (fun j s2 E h=>by
  refine nnG fun nG=>?_; obtain⟨k,Z,ds,rfl,rfl,hk,q,jz,a,x,pv⟩:=h
  refine nG ?_; cases e0:vs.drop k with
  | nil =>
   rw[e0]at q
   have q:=mH q
   rw[vY hk e0]at jz
   exact wpAny_mono (io.stop G.A Z (fun s₁=>R (.ok .next) s₁) _ x.gs.go.rm.hand jz x.gs.go.sm q.1 fun s₁ kp g os=>have w:=x.gs.go.sm.turn (F:=fp) pv kp
    z ds (Z.at s₁) q.2 (a.lose (fun b f=>(nf b f).1) pv kp g os) ⟨x.gs.spoil pv kp np,⟨eL kp x.pv.lt fun f=>(nf b f).2.2.2 rfl,x.pv.nw,x.pv.nm⟩,x.nb,lH w.1 (fun o e=>kp b o e fun f=>(nf b f).2.2.2 rfl) x.rc⟩) (fun r s₁ h=>by cases h.1; exact h.2) fun _ _ h=>h
  | cons v0 rest =>
   rw[e0]at q
   have w:=pX e0
   refine wpAny_mono (io.item G.A k v0 Z (fun v s₂=>wpAny (model B.D.prog B.D.w) G.A (assign target G.env v) _ E s₂) E E x.gs.go.rm.hand w.1 jz x.gs.go.sm pv (mH q).1 fun v Y1 j1 a1 e1 rv=>?_) (fun r s₁ h=>h.elim fun v h=>by cases h.1; exact h.2) fun _ _ h=>h
   refine pF (G:=G) hB (x.gs.item a1 np) (aWp (mH q).2) rv fun ρ' Y2 k2 e2 a2 H2=>?_
   refine e02 k2 fun eb k2=>?_
   have x2:Cs B u c (G.to ρ') b Y2 ds:=(x.on (ρ:=G.ρ) (x.gs.item a1 np) a1 fun f=>(nf b f).2.2.2 rfl).on H2 a2 fun f=>x.nb f.own
   have pv1:∀a,fp a→Pv Y1 a:=fun b f=>(pv b f).go a1
   have back:∀Y ds,eJ (dZ g vs) (dQ G.ρ tg) (fun ρ σ k=>vR B.P B.T ifs ρ σ k) (fun ds ρ σ k=>kC B.P B.T r ds ρ σ k) rest ds Y.σ K→Aft B.D Y2 (Ac c G b) Y→Cs B u c (G.to ρ') b Y ds →
     ∃m,m<vs.length - k∧∃k Z ds,Y.s=Z.s∧m=vs.length - k∧k≤vs.length∧eJ (dZ g vs) (dQ G.ρ tg) (fun ρ σ k=>vR B.P B.T ifs ρ σ k) (fun ds ρ σ k=>kC B.P B.T r ds ρ σ k) (vs.drop k) ds Z.σ K∧J k Z∧Aft B.D N0 (Ac c G b) Z∧Cs B u c G b Z ds∧∀a,fp a→Pv Z a:=fun Y ds k3 a3 x3 =>
    have a23:=(a2.mono fun a f=>.inl f).trans a3
    ⟨vs.length - (k+1),Nat.sub_lt_sub_left ((List.getElem?_eq_some_iff.mp w.1).1) (Nat.lt_succ_self k),k+1,Y,ds,rfl,rfl,((List.getElem?_eq_some_iff.mp w.1).1),by refine rwS w.2 ?_; exact k3,io.jm (k+1) Y1 Y a23.le (fun a f o e=>a23.kp a o e (pv1 a f).nc fun h=>h.nb (nf a f).2.2) j1,(a.then a1 fun a f=>(nf a f).1).trans a23,
     ⟨x3.gs.less fun j d e=>(qM eb fun m=>cl j (List.mem_append.mpr (.inl m)) d e).trans e,x3.pv,x3.nb,x3.rc⟩,fun a f=>(pv1 a f).go a23⟩
   rw[← e1,← e2]at k2
   exact aTm hI (G.to ρ') Y2 _ E _ H2.go k2 fun t Y3 k3 a3=>match t,k3 with
    | true,k3=>hr gens d sc pos (.ref I) b (G.to ρ') Y3 ds _ E _ hdr (x2.to a3) (fun i m d e=>cl i (List.mem_append.mpr (.inr m)) d ((qM eb (hd i m)).symm.trans e)) k3 fun l Y4 k4 a4 x4=>⟨rfl,back Y4 l k4 (a3.up.trans a4) x4⟩
    | false,k3=>back Y3 ds k3 a3.up (x2.to a3)) _
  ⟨0,N,ds,rfl,rfl,Nat.zero_le _,by refine rwS List.drop_zero ?_; exact q,j0,a0,x0,fun a f=>(nf a f).2.1⟩
theorem aUp{x:X}{elt:PE}(he:TE B u c x (fun env=>eval elt env)):aMa B u c (.elt x) elt []:=fun gens d sc pos it b G N ds Q E K hd x cl q z=>by
 delta Wp lX
 refine rwS (List.getElem?_eq_none (List.drop_eq_nil_iff.mp hd)) ?_
 refine wpAny_bind (wpAny_bind (he G N _ E _ x.gs.go q fun v Y w k a r=>wpAny_bind ?_))
 have x1:=x.to a
 refine nnG fun nG=>?_; refine e12 x1.rc fun arr il rs=>?_
 refine e02 (eQ k) fun hz k=>?_
 refine nG ?_; refine wpAny_list_append_plain (l:=b) (items:=arr) il (fun h' il' sb=>?_) (kM (gG rs) (of_decide_eq_true hz))
 have t:=Aft.turn1 (t:=Y.s.toks) x1.gs.go.sm x1.pv (fun c o n e=>sb.extBut c o n e) (il'.elim fun k e=>⟨_,e⟩)
 exact wpAny_pure (wpAny_pure (z (ds++[v]) (Y.at { Y.s with heap:=h' }) k (a.up.trans (t.mono fun c e=>.inr e)) ⟨x1.gs.item t fun a o e=>x.nb (e▸o),x1.pv.go t,x.nb,arr.push w,il',by refine rwS Array.toList_push ?_; exact cK (fI t.le _ _ rs) ⟨w,[],rfl,cL t.le _ _ r,rfl⟩⟩))
theorem aQk{tg:Tg}{src:Src}{ifs:List X}{r:C}{target iter elt:PE}{ifsE:List PE}{rest:List cW}(hs:TSr B u c target src iter)(hf:∀env x,foldedSetIterable iter env x=pure x)(hl:jC B u c tg ifs r target elt ifsE rest):aMa B u c (.gen tg src ifs r) elt (⟨target,iter,ifsE,0⟩::rest):=fun gens d sc pos it b G N ds Q E K hd x cl q z=>by
 have hn:=pX hd
 delta Wp lX
 refine rwS hn.1 ?_
 refine wpAny_bind (wpAny_mono (hs G N (fun i s=>codeAny (model B.D.prog B.D.w) G.A (.compStart (.ListComp elt gens sc pos) (d+1) i (.ref b) G.env) (fun r s₅=>r=.ok .next∧Q (.again (.compLoop (.ListComp elt gens sc pos) d it (.ref b) G.env)) s₅) s) E _ x.gs.go q fun vs g Y I fp J k io j a nf=>?_)
  (fun v s₄ h₄=>wpAny_bind (wpAny_standAt (show wpAny _ _ (foldedSetIterable iter G.env v >>= _) _ _ _ from wpAny_bind (wpAny_of_eq (hf _ v) (wpAny_bind (wpAny_holding (wpAny_mono h₄ (fun i s₅ h₅=>wpAny_bind (wpAny_runOwn (codeAny_mono h₅ fun r s₆ h₆=>by cases h₆.1; exact wpAny_pure h₆.2))) fun _ _ h'=>h'))))))) fun _ _ h=>h)
 have run:=hl gens (d+1) iter sc pos G N Y b ds I fp J vs g K (fun r s₅=>r=.ok .next∧Q (.again (.compLoop (.ListComp elt gens sc pos) d it (.ref b) G.env)) s₅) hn.1 hn.2 (oR k) io j a.up (fun c f=>⟨(nf c f).1,(nf c f).2,fun o=>(nf c f).1 (kR x.gs.go.eo o).1,fun e=>(nf c f).1 (e▸x.pv.lt)⟩) (x.to a) cl fun l Z k a2 x2=>⟨rfl,z l Z k a2 x2⟩
 exact vJ hn.1 rfl run fun E'=>io.self G.A 0 Y _ E' j run
end
theorem cT{x:Str}:∀(l:List (Str × NameKind)) (n:Nat) (acc:List (Str × Addr)),((x,NameKind.cell)∈l∨(acc.lookup x).isSome=true)→((cellsFrom n l acc).lookup x).isSome=true
 | [],n,acc,h=>h.elim (fun h=>(fK h)) id
 | (y,k)::r,n,acc,h=>by
  unfold cellsFrom
  split
  ·refine cT r (n+1) _ (h.elim (fun h=>(List.mem_cons.mp h).elim (fun h=>.inr ?_) .inl) fun h=>.inr ?_)
   ·cases h; refine rwS List.lookup_cons (rwS BEq.rfl ?_); rfl
   ·refine rwS List.lookup_cons ?_
    cases x==y with
    | true=>rfl
    | false=>exact h
  ·rename_i hk
   exact cT r n acc (h.imp (fun h=>(List.mem_cons.mp h).elim (fun h=>by cases h; exact absurd rfl hk) id) id)
theorem mK:∀(l:List (Str × NameKind)) (n:Nat) (a b:List (Str × Addr)),cellsFrom n l (a++b)=cellsFrom n l a++b
 | [],_,_,_=>rfl
 | (x,k)::r,n,a,b=>by
  unfold cellsFrom
  split
  ·exact mK r (n+1) ((x,n)::a) b
  ·exact mK r n a b
theorem mG{q:Str × Addr}:∀(l:List (Str × NameKind)) (n:Nat) (acc:List (Str × Addr)),q∈cellsFrom n l acc→q∈acc∨(q.1,NameKind.cell)∈l
 | [],_,_,h=>.inl h
 | (x,k)::r,n,acc,h=>by
  unfold cellsFrom at h
  split at h
  ·rename_i hk
   exact(mG r _ _ h).elim (fun h=>(List.mem_cons.mp h).elim (fun e=>.inr (by refine rwS e (rwT (eq_of_beq hk) ?_); exact List.mem_cons_self ..)) .inl) fun h=>.inr (List.mem_cons_of_mem _ h)
  ·exact(mG r _ _ h).imp id (List.mem_cons_of_mem _)
theorem tO{M:Model}{A:Around}{E:PV→Shared→Prop}{s:Shared}{scope:Scope}{globals:Addr}{closure:List (Str × Addr)}{qual:Str}{o:bA}{Q:bA→Shared→Prop}
  (hQ:∀h',(∃m,h'.Ns s.heap.objs.size m)→(∀b o,s.heap.get? b=some o→h'.get? b=some o)→CellsOk h' (s.heap.objs.size+1) (cellsFrom (s.heap.objs.size+1) scope.names []) →
   Q (newEnv scope s.heap.objs.size globals (cellsFrom (s.heap.objs.size+1) scope.names []++closure) qual none .none (some o) builtinsNs) { s with heap:=h' }):wpAny M A (newFunctionEnv scope globals closure [] qual none .none (some o)) Q E s:=by
 simp only[newFunctionEnv,Option.isSome_some,if_true]
 refine wpAny_bind (wpAny_alloc ?_)
 refine wpAny_bind (wpAny_layCells _ (fun name kind cells=>by cases hkc:kind==NameKind.cell <;> simp[hkc]) _ _ _ _ ?_)
 have ok:=cellsFrom_ok scope.names (s.heap.push { cls:=.type "dict",data:=.dict #[] }) (s.heap.objs.size+1) [] ⟨fun _ _ hm=>(fK hm),List.Pairwise.nil⟩ (by rw[Heap.size_push]; exact Nat.le_refl _)
 rw[Heap.size_push]at ok
 rw[show ({ s with heap:=s.heap.push { cls:=.type "dict",data:=.dict #[] } }:Shared).heap.objs.size=s.heap.objs.size+1 from Heap.size_push ..,show closure=[]++closure from rfl,mK]
 exact wpAny_bind (wpAny_pure (wpAny_pure (hQ _ ⟨_,(Heap.Ns.new s.heap (.type "dict")).keeps (pushCells_keeps _ _)⟩ (fun b o e=>pushCells_keeps _ _ b o (Heap.get?_push_of_some _ e)) ok)))
theorem gI{α:Type}{x:Str}{v:α}:∀{l k:List (Str × α)},l.lookup x=some v→(l++k).lookup x=some v
 | (y,u)::l,k,h=>by
  refine rwS List.cons_append ?_
  rw[List.lookup_cons]at h ⊢
  cases e:x==y with
  | true=>rw[e]at h; exact h
  | false=>rw[e]at h; exact gI h
theorem mU{α:Type}{x:Str}:∀{l k:List (Str × α)},l.lookup x=none→(l++k).lookup x=k.lookup x
 | [],_,_=>rfl
 | (y,u)::l,k,h=>by
  refine rwS List.cons_append (rwS List.lookup_cons ?_)
  rw[List.lookup_cons]at h
  cases e:x==y with
  | true=>rw[e]at h; exact aXq h
  | false=>rw[e]at h; exact mU h
section
variable{B:Bd}{u:Nat}{c:Ck}{G:Ev}{N Y Z:Nx}
theorem kN:∀{is:List Nat} {ρ:aP} {j:Nat} {d:V},(clr is ρ)[j]?=some (some d)→ρ[j]?=some (some d)∧j ∉ is
 | [],_,_,_,h=>⟨h,List.not_mem_nil⟩
 | i::is,ρ,j,d,h=>have w:=kN (is:=is) (ρ:=ρ.set i none) h
  (pN w.1).elim (fun e=>(nos e.2)) fun e=>⟨e.2,fun m=>(List.mem_cons.mp m).elim (fun g=>e.1 g.symm) w.2⟩
theorem sC{tg:Tg}{src:Src}{ifs:List X}{r:C}{target iter elt:PE}{ifsE:List PE}{rest:List cW}{sc0:Scope}{pos:Pos}{nm:List (Str × Nat)}{K:List V→St→Prop}{E:PV→Shared→Prop}(K0:CpOk c sc0 nm (tg.slots++r.slots))(hs:TSr B u c target src iter)
  (hl:jC B u ⟨nm,mC sc0 c.sc,uN sc0⟩ tg ifs r target elt ifsE rest) (H:Go B u c G N) (q:kC B.P B.T (.gen tg src ifs r) [] (clr (tg.slots++r.slots) G.ρ) N.σ K) {R:PV→Addr→Result→Shared→Prop}
  (z:∀l Y b Cl,K l Y.σ→Aft B.D N noA Y→¬ N.has b→¬ N.has Cl→b≠Cl→Pv Y b→Pv Y Cl→RC B.D Y b (.list l)→(∃m,Y.s.heap.Ns Cl m)→R (.ref b) Cl (.ok .next) Y.s) :
  Wp B G N (eval iter G.env) (fun x s₁=>wpAny (model B.D.prog B.D.w) G.A (pyIter x) (fun it s₂=>wpAny (model B.D.prog B.D.w) G.A (newList []) (fun acc s₃ =>
   wpAny (model B.D.prog B.D.w) G.A (newFunctionEnv sc0 G.env.globals (eA G.env.cells sc0.names []) [] G.env.qual none .none (some G.env)) (fun cenv s₄ =>
    codeAny (model B.D.prog B.D.w) G.A (.compStart (.ListComp elt (⟨target,iter,ifsE,0⟩::rest) sc0 pos) 0 it acc { cenv with scope:=relabel sc0 G.env }) (R acc cenv.locals) s₄) E s₃) E s₂) E s₁) E:=by
 refine hs (G.to (clr (tg.slots++r.slots) G.ρ)) N _ E _ ⟨H.rm,H.eo,fun x i d h1 h2 h3=>H.fe x i d h1 h2 (kN h3).1,H.sm⟩ q fun vs g Y I fp J k io j a nf=>?_
 refine wpAny_newObj_type (tO fun h₁ hns hkp hco=>?_)
 have z1:∀o:Obj,(Y.s.heap.push o).objs.size=Y.s.heap.objs.size+1:=fun o=>Heap.size_push ..
 dsimp only at hns hkp hco ⊢
 rw[z1]at hns hco ⊢
 have n1:∀{k:Nat},Y.s.heap.objs.size≤k→¬ Y.has k:=fun hk h=>absurd (jF h) (Nat.not_lt.mpr hk)
 have nb:¬ Y.has Y.s.heap.objs.size:=n1 (Nat.le_refl _)
 have nl:¬ Y.has (Y.s.heap.objs.size+1):=n1 (Nat.le_succ _)
 have nbl:Y.s.heap.objs.size≠Y.s.heap.objs.size+1:=Nat.ne_of_lt (Nat.lt_succ_self _)
 have hb:h₁.get? Y.s.heap.objs.size=some { cls:=.type "list",dict:=none,data:=.seq ([]:List PV).toArray 0,slots:=#[] }:=hkp _ _ (bB rfl)
 have hm:∀q∈cellsFrom (Y.s.heap.objs.size+1+1) sc0.names [],(q.1,NameKind.cell)∈sc0.names:=fun q hq=>(mG _ _ _ hq).resolve_left List.not_mem_nil
 have hown:∀x,sc0.names.lookup x=some .cell→∃cc,(cellsFrom (Y.s.heap.objs.size+1+1) sc0.names []).lookup x=some cc:=fun x e=>Option.isSome_iff_exists.mp (cT _ _ _ (.inl (aC e)))
 have m:More Y { Y.s with heap:=h₁ }:=⟨fun x o e=>hkp x o (Heap.get?_push_of_some _ e),rfl,rfl⟩
 have pc:∀q∈cellsFrom (Y.s.heap.objs.size+1+1) sc0.names [],¬ Y.has q.2∧Pv (Y.at { Y.s with heap:=h₁ }) q.2∧q.2≠Y.s.heap.objs.size∧q.2≠Y.s.heap.objs.size+1:=fun q hq =>
  have w:=hco.empty q.1 q.2 hq
  ⟨(n1 (Nat.le_trans (Nat.le_add_right _ 2) w.2)),(qG w.1).elim fun o e=>m.pv a.sm (n1 (Nat.le_trans (Nat.le_add_right _ 2) w.2)) e,Nat.ne_of_gt (Nat.lt_of_lt_of_le (Nat.lt_succ_of_lt (Nat.lt_succ_self _)) w.2),Nat.ne_of_gt w.2⟩
 generalize cellsFrom (Y.s.heap.objs.size+1+1) sc0.names []=cs at *
 generalize Y.s.heap.objs.size=b at *
 generalize b+1=L at *
 have a1:=m.aft a.sm
 have a2:=a.trans a1
 have pl:=hns.elim fun _ hns=>(uK hns).elim fun o e=>m.pv a.sm nl e
 have cl:∀q∈eA G.env.cells sc0.names [],N.has q.2∧¬ chg N.μ q.2:=fun q hq=>(vT _ _ hq).elim (fun h=>nomatch h) fun h =>
  (Option.isSome_iff_exists.mp (H.eo.cx q.1 (K0.fre _ h.1 rfl))).elim fun cc hc=>by refine rwS h.2 (rwS hc ?_); exact H.eo.cells (q.1,cc) (aC hc)
 have no:∀x,¬ N.has x→x≠L→(∀q∈cs,q.2≠x)→¬ Own (compEnvC sc0 (cs++eA G.env.cells sc0.names []) L G.env) x:=fun x h n nc o=>o.elim n fun ⟨q,hq,e⟩=>(List.mem_append.mp hq).elim (fun hq=>nc q hq e) fun hq=>h (e▸(cl q hq).1)
 have fno:∀x,sc0.names.lookup x=some .free→cs.lookup x=none:=fun x e=>Option.eq_none_iff_forall_ne_some.mpr fun cc hc=>nomatch (K0.okc _ (hm _ (aC hc)) rfl).symm.trans e
 have own:∀x,uN sc0 x=true→∃cc,cs.lookup x=some cc:=fun x e=>hown x (eq_of_beq e)
 have gs:Gs B u ⟨nm,mC sc0 c.sc,uN sc0⟩ ⟨compEnvC sc0 (cs++eA G.env.cells sc0.names []) L G.env,G.A,clr (tg.slots++r.slots) G.ρ⟩ (Y.at { Y.s with heap:=h₁ }) :=
  ⟨⟨H.rm,⟨congrArg (mC sc0) H.eo.sc,K0.kind,H.eo.gl,H.eo.bi,⟨pl.lt,pl.nc⟩,fun q hq=>(List.mem_append.mp hq).elim (fun hq=>⟨(pc q hq).2.1.lt,(pc q hq).2.1.nc⟩) fun hq=>⟨a2.ex _ (cl q hq).1,a2.chg (cl q hq).1 (cl q hq).2⟩,H.eo.fr,fun x hx=>by
   have hx:(mC sc0 c.sc).names.lookup x=some .cell∨(mC sc0 c.sc).names.lookup x=some .free:=hx
   rw[sH]at hx
   have w:∃k,sc0.names.lookup x=some k∧(nP c.sc x k=.cell∨nP c.sc x k=.free):=hx.elim (fun h=>(Option.map_eq_some_iff.mp h).elim fun k w=>⟨k,w.1,.inl w.2⟩) fun h=>(Option.map_eq_some_iff.mp h).elim fun k w=>⟨k,w.1,.inr w.2⟩
   refine e12 w fun k hk w=>?_
   show (List.lookup x (cs++eA G.env.cells sc0.names [])).isSome=true
   rcases aLu w with e | e
   ·refine e1 (hown x (e▸hk)) fun cc hc=>?_
    refine rwS (gI hc) ?_; rfl
   ·refine rwS (mU (fno x (e▸hk))) (rwS (jB _ _ (e▸aC hk)) ?_); rfl⟩,fun x i d h1 h2 h3=>by
   refine e02 ((K0.nm x i h1).resolve_left (kN h3).2) fun e1 e2=>?_
   refine e12 (H.fe x i d e1 (by rw[H.eo.kd]; exact(K0.fre _ (aC e2) rfl).elim (fun e=>by refine rwS (show c.sc.names.lookup x=_ from e) ?_; rfl) fun e=>by refine rwS (show c.sc.names.lookup x=_ from e) ?_; rfl) (kN h3).1) fun v at_ rv=>?_
   refine⟨v,?_,cL a2.le d v rv⟩
   rcases at_ with ⟨k1,_⟩ | ⟨_,cc,ec,o,ho,hd⟩
   ·rw[H.eo.kd]at k1
    exact(K0.fre _ (aC e2) rfl).elim (fun e=>nomatch k1.symm.trans e) fun e=>nomatch k1.symm.trans e
   ·have kk:(compEnvC sc0 (cs++eA G.env.cells sc0.names []) L G.env).kindOf x=some (nP c.sc x .free):=(congrArg (fun s=>(mC sc0 s).names.lookup x) H.eo.sc).trans (by refine rwS sH (rwS e2 ?_); rfl)
    exact .inr ⟨(aDo (o:=c.sc) (x:=x) rfl).imp (fun e=>by exact rwS kk (rwS e rfl)) fun e=>by exact rwS kk (rwS e rfl),cc,(mU (fno x e2)).trans ((jB _ _ (aC e2)).trans (by refine rwS ec ?_; rfl)),o,a2.old (H.eo.cells (x,cc) (aC ec)).2 ho,hd⟩,a1.sm⟩,
  fun x f=>f.elim (fun e=>by refine rwS e ?_; exact pl) fun ⟨y,w,e⟩=>(own y w.1).elim fun cc hc=>Option.some.inj ((gI hc).symm.trans e)▸(pc _ (aC hc)).2.1,hns,
  fun y w _=>(own y w).elim fun cc hc=>⟨cc,none,gI hc,(hco.empty y cc (aC hc)).1⟩,
  fun x y b w _ e1 e2=>(own x w).elim fun cc hc=>by
   obtain rfl:=Option.some.inj ((gI hc).symm.trans e1)
   exact(List.mem_append.mp (aC e2)).elim (fun h=>name_of_addr hco.apart (aC hc) h) fun h=>absurd (a.ex _ (cl _ h).1) (pc _ (aC hc)).1⟩
 have run:=hl (⟨target,iter,ifsE,0⟩::rest) 0 iter sc0 pos _ N _ b [] I fp J vs g K (R (.ref b) L) rfl rfl (oR k) io (io.jm 0 Y _ a1.le (fun b f o e=>m.k b o e) j) a2.up
  (fun x f=>⟨(nf x f).1,(nf x f).2.go a1,no x (nf x f).1 (fun e=>nl (e▸(nf x f).2.lt)) fun q hq e=>(pc q hq).1 (e▸(nf x f).2.lt),fun e=>nb (e▸(nf x f).2.lt)⟩) ⟨gs,(m.pv a.sm nb hb),no b (fun h=>nb (a.ex _ h)) nbl fun q hq=>(pc q hq).2.2.1,_,⟨0,hb⟩,rfl⟩ (fun i hi d e=>(kN e).2 hi)
  fun l Z k2 a3 x3=>z l Z b L k2 (a3.hide fun x f=>f.elim (fun f=>f.elim (fun (e:x=L) h=>nl (a.ex _ (e▸h))) fun ⟨y,w,e⟩ h=>(own y w.1).elim fun cc hc=>(pc _ (aC hc)).1 (a.ex _ (Option.some.inj ((gI hc).symm.trans e)▸h))) fun e h=>nb (a.ex _ (e▸h))) (fun h=>nb (a.ex _ h)) (fun h=>nl (a.ex _ h)) nbl x3.pv (x3.gs.pv L (.inl rfl)) x3.rc x3.gs.ns
 exact vJ (g:=⟨target,iter,ifsE,0⟩) rfl rfl run fun E'=>io.self G.A 0 _ _ E' (io.jm 0 Y _ a1.le (fun b f o e=>m.k b o e) j) run
variable{tg:Tg}{src:Src}{ifs:List X}{r:C}{target iter elt:PE}{ifsE:List PE}{rest:List cW}{sc0:Scope}{nm:List (Str × Nat)}
theorem aKr{pos:Pos}(K0:CpOk c sc0 nm (tg.slots++r.slots))(hs:TSr B u c target src iter)(hf:∀env x,foldedSetIterable iter env x=pure x)(hl:jC B u ⟨nm,mC sc0 c.sc,uN sc0⟩ tg ifs r target elt ifsE rest) :
  TF B u c (.comp (.gen tg src ifs r)) (fun env=>eval (.ListComp elt (⟨target,iter,ifsE,0⟩::rest) sc0 pos) env):=fun G N Q E K H q z=>by
 show wpAny _ G.A (eval (.ListComp elt (⟨target,iter,ifsE,0⟩::rest) sc0 pos) G.env) Q E N.s
 rw[eval_ListComp]
 exact wpAny_comprehension_free (use:=none) rfl (hf G.env) (aAy fun p hp e=>H.eo.cx p.1 (K0.fre p hp e)) K0.kind K0.okl (sC (R:=fun acc C=>compPost (model B.D.prog B.D.w) G.A E none Q acc C) K0 hs hl H q fun l Y b Cl k a nb nc ne pb pc rc ns=>ns.elim fun mm ns=>⟨mm,ns,fun h' sb =>
  have kp:∀c o,Y.s.heap.get? c=some o→¬ c=Cl→h'.get? c=some o:=fun c o e n=>sb.extBut c o n e
  have w:=a.sm.turn (F:=fun c=>c=Cl) (s:={ Y.s with heap:=h' }) (fun c e=>e▸pc) kp
  z (.list l) (Y.at { Y.s with heap:=h' }) b k (a.lose (P:=fun c=>c=Cl) (fun c e=>e▸nc) (fun c e=>e▸pc) kp rfl rfl) nb ⟨eL kp pb.lt ne,pb.nw,pb.nm⟩ (lH w.1 (fun o e=>kp b o e ne) rc)⟩)
theorem sS{cpos pos py:Pos}{i:Nat}{y:Str}{K:Out→Prop}{Kc:List V→St→Prop}{Q:Flow→Shared→Prop}{E:PV→Shared→Prop}(hn:Nm c y i)(K0:CpOk c sc0 nm (tg.slots++r.slots))(hs:TSr B u c target src iter)(hf:∀env x,foldedSetIterable iter env x=pure x)(hl:jC B u ⟨nm,mC sc0 c.sc,uN sc0⟩ tg ifs r target elt ifsE rest)
  (hsw:∀env:bA,env.scope=c.sc→swapsWith (.ListComp elt (⟨target,iter,ifsE,0⟩::rest) sc0 cpos) (some (.Name y py)) pos.line env=pure true) (H:Gs B u c G N) (q:kC B.P B.T (.gen tg src ifs r) [] (clr (tg.slots++r.slots) G.ρ) N.σ Kc) (z:OutOk B u c G N K Q)
  (pub:∀l Y b,Kc l Y.σ→Aft B.D N noA Y→¬ N.has b→Pv Y b→RC B.D Y b (.list l)→∃d Y',Y'.s=Y.s∧Aft B.D N noA Y'∧Val B Y' d (.ref b)∧K (.next (G.ρ.set i (some d)) Y'.σ)∧∀a,b≠a→Pv Y a→Pv Y' a) :
  Wp B G N (exec (.Assign [.Name y py] (.ListComp elt (⟨target,iter,ifsE,0⟩::rest) sc0 cpos) pos) G.env) Q E:=by
 delta Wp
 refine rwS (exec_Assign_Name_used _ _ _ _ (hsw G.env H.go.eo.sc)) ?_
 refine wpAny_bind (wpAny_standAt (wpAny_bind ?_))
 show wpAny _ _ (do let _ ← comprehension (.ListComp elt (⟨target,iter,ifsE,0⟩::rest) sc0 cpos) sc0 G.env _ (newList []) false (eval iter G.env) (some (assign (.Name y py) G.env))) _ _ _
 refine wpAny_bind (wpAny_mono (wpAny_comprehension_free (use:=some (assign (.Name y py) G.env)) (Q:=fun _ s'=>Q .next s') rfl (hf G.env) (aAy fun p hp e=>H.go.eo.cx p.1 (K0.fre p hp e)) K0.kind K0.okl
  (sC (R:=fun acc C=>compPost (model B.D.prog B.D.w) G.A E (some (assign (.Name y py) G.env)) (fun _ s'=>Q .next s') acc C) K0 hs hl H.go q fun l Y b Cl k a nb nc ne pb pc rc ns=>ns.elim fun mm ns=>?_)) (fun _ s' hq=>wpAny_pure (wpAny_pure hq)) fun _ _ e=>e)
 refine e25 (pub l Y b k a nb pb rc) fun d Y' e aw rv k pp=>?_
 have pw:=pp Cl ne pc
 have nF:¬ Own G.env Cl:=fun o=>nc (kR H.go.eo o).1
 show wpAny _ _ (assign (.Name y py) G.env (.ref b)) _ _ Y.s
 rw[← e]at ns ⊢
 refine wpAny_assign_Name (gM (N:=Y') (H.to aw) hn rv fun Y2 es a2 H2=>⟨mm,ns.at fun o e=>a2.kp Cl o e pw.nc fun f=>nF f.own,fun h' sb=>?_⟩)
 have kp:∀c o,Y2.s.heap.get? c=some o→¬ c=Cl→h'.get? c=some o:=fun c o e n=>sb.extBut c o n e
 exact z.1 _ (Y2.at { Y2.s with heap:=h' }) (show K (.next (G.ρ.set i (some d)) Y2.σ) by refine rwS es ?_; exact k) ((aw.up.trans a2).lose (P:=fun c=>c=Cl) (fun c e=>e▸nc) (fun c e=>e▸pw.go a2) kp rfl rfl) (H2.spoil (P:=fun c=>c=Cl) (fun c e=>e▸pw.go a2) kp fun c o e=>nF (e▸o))
theorem aFo{cpos pos py:Pos}{i:Nat}{y:Str}(hn:Nm c y i)(K0:CpOk c sc0 nm (tg.slots++r.slots))(hs:TSr B u c target src iter)(hf:∀env x,foldedSetIterable iter env x=pure x)(hl:jC B u ⟨nm,mC sc0 c.sc,uN sc0⟩ tg ifs r target elt ifsE rest)
  (hsw:∀env:bA,env.scope=c.sc→swapsWith (.ListComp elt (⟨target,iter,ifsE,0⟩::rest) sc0 cpos) (some (.Name y py)) pos.line env=pure true) :
  TS B u c (.asg (.name i) (.comp (.gen tg src ifs r))) (fun env=>exec (.Assign [.Name y py] (.ListComp elt (⟨target,iter,ifsE,0⟩::rest) sc0 cpos) pos) env)∧TS B u c (.asg (.name i) (.mut (.comp (.gen tg src ifs r)))) (fun env=>exec (.Assign [.Name y py] (.ListComp elt (⟨target,iter,ifsE,0⟩::rest) sc0 cpos) pos) env) :=
 ⟨fun G N Q E K H q z=>sS hn K0 hs hf hl hsw H q z fun l Y b k a nb pb rc=>⟨.list l,Y.wi b,rfl,a.wi pb nb,sZ (.inr rfl) (lH Le.wi (fun _ e=>e) rc),k,fun x ne px=>⟨px.lt,fun w=>w.elim px.nw fun e=>ne e.symm,px.nm⟩⟩,
  fun G N Q E K H q z=>sS hn K0 hs hf hl hsw H q z fun l Y b k a nb pb rc=>⟨.loc Y.σ.length,Y.lo (b,b) (.list l),rfl,a.lo pb pb ⟨nb,nb⟩ (mR H.go.sm nb) (qB Le.lo (fun _ e=>e) (fun _ e=>e) ⟨rfl,rc⟩),⟨(b,b),rfl,by refine rwT a.sm.len ?_; exact uB⟩,k,
   fun x ne px=>⟨px.lt,px.nw,fun p hp=>(fM hp).elim (px.nm p) fun e=>by refine rwS e ?_; exact⟨ne,ne⟩⟩⟩⟩
end
theorem eR:∀(l:List (Str × NameKind)) (n:Nat) (acc:List (Str × Addr)),(l.map (·.1)).Nodup→(acc.map (·.1)).Nodup→(∀x∈l.map (·.1),x ∉ acc.map (·.1))→((cellsFrom n l acc).map (·.1)).Nodup
 | [],_,_,_,h,_=>h
 | (y,k)::r,n,acc,h1,h2,h3=>by
  have h1:=List.nodup_cons.mp h1
  unfold cellsFrom
  split
  ·exact eR r (n+1) _ h1.2 (List.nodup_cons.mpr ⟨h3 y (List.mem_cons_self ..),h2⟩) fun x hx hm=>(List.mem_cons.mp hm).elim (fun e=>h1.1 (e▸hx)) (h3 x (List.mem_cons_of_mem _ hx))
  ·exact eR r n acc h1.2 h2 fun x hx=>h3 x (List.mem_cons_of_mem _ hx)
theorem mQ{α:Type}{x:Str}{b:α}:∀{l:List (Str × α)},(l.map (·.1)).Nodup→(x,b)∈l→l.lookup x=some b
 | (y,c)::r,hn,h=>by
  refine rwS List.lookup_cons ?_
  rcases List.mem_cons.mp h with h' | h'
  ·cases h'; exact rwS BEq.rfl rfl
  ·refine rwS (show (x==y)=false from beq_eq_false_iff_ne.mpr fun e=>(List.nodup_cons.mp hn).1 (e▸List.mem_map.mpr ⟨_,h',rfl⟩)) ?_; exact mQ (List.nodup_cons.mp hn).2 h'
section
variable{ko:Str→Option NameKind}
theorem rZ{x:Str}:∀(l:List (Str × PV)) (m:Str→Option PV),x ∉ l.map (·.1)→bindL ko l m x=m x
 | [],m,_=>rfl
 | (y,v)::r,m,h=>by
  unfold bindL
  refine rwS (rZ r _ fun hm=>h (List.mem_cons_of_mem _ hm)) ?_
  split
  ·exact if_neg fun e:x=y=>h (e▸List.mem_cons_self ..)
  ·rfl
theorem sL{x:Str}:∀(l:List (Str × PV)) (m:Str→Option PV),x ∉ l.map (·.1)→bindC ko l m x=m x
 | [],m,_=>rfl
 | (y,v)::r,m,h=>by
  unfold bindC
  refine rwS (sL r _ fun hm=>h (List.mem_cons_of_mem _ hm)) ?_
  split
  ·rfl
  ·exact if_neg fun e:x=y=>h (e▸List.mem_cons_self ..)
theorem uT{x:Str}{v:PV}:∀(l:List (Str × PV)) (m m':Str→Option PV),(l.map (·.1)).Nodup→(x,v)∈l→(ko x=some .local→bindL ko l m x=some v)∧(ko x≠some .local→bindC ko l m' x=some v)
 | (y,w)::r,m,m',hn,h=>by
  have hn:=List.nodup_cons.mp hn
  rcases List.mem_cons.mp h with h | h
  ·cases h
   exact⟨fun hk=>by unfold bindL; refine rwS (rZ r _ hn.1) (rwS (if_pos hk) ?_); exact if_pos rfl,fun hk=>by unfold bindC; refine rwS (sL r _ hn.1) (rwS (if_neg hk) ?_); exact if_pos rfl⟩
  ·have w:=fun m m'=>uT r m m' hn.2 h
   exact⟨fun hk=>by unfold bindL; exact(w _ m').1 hk,fun hk=>by unfold bindC; exact(w m _).2 hk⟩
end
structure FnB(B:Bd)(u:Nat)(names:List (Str × Nat))(ps:List Str)(f:Nat)(d:FDef)(fd:FuncData)(body:List Stmt):Prop where
 hu:u≤90
 hK:∃o,B.D.K.lookup (B.D.fa f)=some o∧o.data=.func fd
 hcd:codeIn B.D.K fd.code fd.qualname=true
 hb:fd.body=.stmts body
 hcl:fd.closure=[]
 hg:fd.globals=mainGlobals
 hbi:fd.builtins=builtinsNs
 co:fd.scope.isCoroutine=false
 gen:fd.scope.isGenerator=false
 kind:fd.scope.kind=.function
 nf:∀x,fd.scope.names.lookup x≠some .free
 nd:(fd.scope.names.map (·.1)).Nodup
 pl:ps.length=d.params
 pn:ps.Nodup
 pk:∀x∈ps,fd.scope.names.lookup x=some .local∨fd.scope.names.lookup x=some .cell
 bind:∀vals:List PV,vals.length=d.params→bindArgs fd ⟨vals,[]⟩=pure (ps.zip vals)
 nm:∀x i,names.lookup x=some i→d.params≤i∨ps[i]?=some x
 ts:TSs B u ⟨names,fd.scope,eD⟩ d.body (fun env=>execs body env)
noncomputable def aCr(B:Bd)(f:Nat)(d:FDef):Prop :=
 ∀(A:Around) (N:Nx) (ds:List V) (vs:List PV) (K:V→St→Prop) (R:Result→Shared→Prop),ds.length=d.params→kSs B.P B.T d.body (bH d ds) N.σ (cG K)→Room (B.n+1) 0 A→Sm B.D N→Vals B N ds vs →
  (∀d Y v,K d Y.σ→Aft B.D N noA Y→Val B Y d v→R (.ok (.ret v)) Y.s)→codeAny (model B.D.prog B.D.w) A (.call (.ref (B.D.fa f)) ⟨vs,[]⟩) R N.s
theorem rR{d:FDef}{ds:List V}{i:Nat}{x:V}(h:(bH d ds)[i]?=some (some x)):ds[i]?=some x:=by
 delta bH at h
 by_cases hi:i<(ds.map some).length
 ·rw[List.getElem?_append_left hi,List.getElem?_map]at h
  refine e12 (Option.map_eq_some_iff.mp h) fun y e e2=>?_
  exact rwS e (rwS e2 rfl)
 ·rw[List.getElem?_append_right (Nat.le_of_not_lt hi),List.getElem?_replicate]at h
  split at h <;> cases h
theorem Room.lt{n:Nat}{A:Around}(rm:Room (n+1) 0 A):A.depth<recursionLimit:=Nat.lt_of_le_of_lt (Nat.le_trans (Nat.le_trans (Nat.le_add_right _ _) (Nat.le_add_right _ _)) (Nat.le_add_right _ _)) rm.depth
theorem Room.deep{n u:Nat}{A:Around}{env:bA}(rm:Room (n+1) 0 A)(hu:u≤90):Room n u (A.deeper env) :=
 ⟨Nat.lt_of_le_of_lt (show A.depth+1+5*n+min u 2+2≤A.depth+5*(n+1)+min 0 2+2 by
  rw[Nat.mul_succ,Nat.add_assoc A.depth,Nat.add_comm 1,Nat.zero_min,Nat.add_assoc A.depth (5*n+1),Nat.add_assoc (5*n)]
  exact Nat.add_le_add_right (Nat.add_le_add_left (Nat.add_le_add_left (Nat.le_trans (Nat.add_le_add_left (Nat.min_le_right ..) 1) (by decide)) _) _) 2) rm.depth,Nat.lt_of_le_of_lt (show A.units+3+100*n+u≤A.units+100*(n+1)+0 by
  rw[Nat.mul_succ,Nat.add_assoc A.units,Nat.add_comm 3,Nat.add_assoc A.units,Nat.add_assoc (100*n)]
  exact Nat.add_le_add_left (Nat.add_le_add_left (Nat.le_trans (Nat.add_le_add_left hu 3) (by decide)) _) _) rm.units,rm.hand⟩
section
variable{B:Bd}{g:Gt}
theorem aNy(H:Facts B g){u:Nat}{names:List (Str × Nat)}{ps:List Str}{f:Nat}{d:FDef}{fd:FuncData}{body:List Stmt}(F:FnB B u names ps f d fd body):aCr B f d:=fun A N ds vs K R hl q rm sm rs z=>by
 refine e12 F.hK fun o hK hdt=>?_
 have hvl:vs.length=d.params:=(aV rs).trans hl
 have hzip:(ps.zip vs).map (·.1)=ps:=List.map_fst_zip (Nat.le_of_eq (F.pl.trans hvl.symm))
 have mem_ps:∀x∈ps.zip vs,x.1∈ps:=fun x hx=>hzip▸List.mem_map.mpr ⟨x,hx,rfl⟩
 have cs:∀x k,fd.scope.names.lookup x=some NameKind.cell→((cellsFrom k fd.scope.names []).lookup x).isSome=true:=fun x k e=>cT _ _ _ (.inl (aC e))
 refine codeAny_call_cells (o:=o) (fd:=fd) (body:=body) (binds:=ps.zip vs) rm.lt ((H.x sm) _ _ hK) hdt (H.lim.keeps sm.gi) (codeRec_of (H.x sm) F.hcd) F.hb (F.bind vs hvl) F.hcl (fun x hx=>(F.pk _ (mem_ps x hx)).imp id fun e=>⟨e,cs _ _ e⟩) (fun s1 ic=>?_) F.co F.gen F.kind
 have ic0:=ic.toInCall
 refine e21 ic0.same fun h1 tk1 e_2=>?_; subst e_2
 have hcells:(callEnvC fd N.s.heap.objs.size (B.D.fa f)).cells=cellsFrom (N.s.heap.objs.size+1) fd.scope.names []:=rfl
 have hscope:(callEnvC fd N.s.heap.objs.size (B.D.fa f)).scope=fd.scope:=rfl
 have hloc:(callEnvC fd N.s.heap.objs.size (B.D.fa f)).locals=N.s.heap.objs.size:=rfl
 have hframe:(callEnvC fd N.s.heap.objs.size (B.D.fa f)).frame=some N.s.heap.objs.size:=rfl
 have hglob:(callEnvC fd N.s.heap.objs.size (B.D.fa f)).globals=fd.globals:=rfl
 have hbuil:(callEnvC fd N.s.heap.objs.size (B.D.fa f)).builtins=fd.builtins:=rfl
 generalize callEnvC fd N.s.heap.objs.size (B.D.fa f)=env at *
 have hkd:∀x,env.kindOf x=fd.scope.names.lookup x:=fun x=>congrArg (fun s:Scope=>s.names.lookup x) hscope
 have cn:(env.cells.map (·.1)).Nodup:=by refine rwS hcells ?_; exact eR _ _ _ F.nd List.nodup_nil fun x _ hm=>(fK hm)
 have cell_at:∀q∈env.cells,∃v,h1.IsCell q.2 v:=fun q hq=>⟨_,ic.cell q.1 q.2 (mQ cn hq)⟩
 have m:More N { N.s with heap:=h1,toks:=tk1 }:=⟨ic0.keep,rfl,rfl⟩
 have old:∀b,N.s.heap.objs.size≤b→¬ N.has b:=fun b h n=>absurd (jF n) (Nat.not_lt.mpr h)
 have af:=m.aft sm
 have pl:Pv (N.at { N.s with heap:=h1,toks:=tk1 }) env.locals:=(uK ic0.ns).elim fun o e=>m.pv sm (old _ (Nat.le_of_eq hloc.symm)) e
 have pc:∀q∈env.cells,¬ N.has q.2∧Pv (N.at { N.s with heap:=h1,toks:=tk1 }) q.2:=fun q hq =>
  ⟨(old q.2 (Nat.le_of_lt (hloc▸ic.above q.1 q.2 hq))),(cell_at q hq).elim fun v w=>(qG w).elim fun o e=>m.pv sm (old q.2 (Nat.le_of_lt (hloc▸ic.above q.1 q.2 hq))) e⟩
 have gs:Gs B u ⟨names,fd.scope,eD⟩ ⟨env,A.deeper env,bH d ds⟩ (N.at { N.s with heap:=h1,toks:=tk1 }):=by
  refine⟨⟨rm.deep F.hu,⟨hscope,(congrArg Scope.kind hscope).trans F.kind,hglob.trans F.hg,hbuil.trans F.hbi,⟨pl.lt,pl.nc⟩,fun q hq=>⟨(pc q hq).2.lt,(pc q hq).2.nc⟩,by refine rwS hframe ?_; rfl,fun x hx=>?_⟩,fun x i d' h1' h2' h3'=>?_,af.sm⟩,
   fun b f=>f.elim (fun e=>by refine rwS e ?_; exact pl) fun ⟨x,_,e⟩=>(pc (x,b) (aC e)).2,⟨_,ic0.ns⟩,fun x _ hx=>?_,fun x y b _ hx h1' h2'=>name_of_addr ic.apart (aC h1') (aC h2')⟩
  ·refine rwS hcells ?_
   exact hx.elim (cs _ _) fun hx=>absurd hx (F.nf x)
  ·have hd:=rR h3'
   have hi:i<d.params:=hl▸(List.getElem?_eq_some_iff.mp hd).1
   refine e12 (eF rs hd) fun v hv rv=>?_
   have hm:(x,v)∈ps.zip vs:=List.mem_of_getElem? (i:=i) (by rw[List.getElem?_zip_eq_some]; exact⟨((F.nm x i h1').resolve_left (Nat.not_le.mpr hi)),hv⟩)
   refine⟨v,?_,cL af.le _ _ rv⟩
   rcases F.pk x (mem_ps _ hm) with hxk | hxk
   ·exact .inl ⟨(hkd x).trans hxk,_,ic0.ns,(uT (ko:=env.kindOf) (ps.zip vs) (fun _=>none) (fun _=>none) (by refine rwS hzip ?_; exact F.pn) hm).1 ((hkd x).trans hxk)⟩
   ·refine e1 (Option.isSome_iff_exists.mp (cs x (N.s.heap.objs.size+1) hxk)) fun b hb=>?_
    rw[← hcells]at hb
    have w:=ic.cell x b hb
    rw[(uT (ko:=env.kindOf) (ps.zip vs) (fun _=>none) (fun _=>none) (by refine rwS hzip ?_; exact F.pn) hm).2 fun e=>by rw[hkd,hxk]at e; cases e]at w
    exact .inr ⟨.inl ((hkd x).trans hxk),b,hb,w⟩
  ·refine e1 (Option.isSome_iff_exists.mp (cs x (N.s.heap.objs.size+1) hx)) fun b hb=>?_
   rw[← hcells]at hb
   exact⟨b,_,hb,ic.cell x b hb⟩
 have nF:∀b,Fr ⟨names,fd.scope,eD⟩ env b→¬ N.has b:=fun b f=>f.elim (fun e=>by refine rwS e ?_; exact old _ (Nat.le_of_eq hloc.symm)) fun ⟨x,_,e⟩=>(pc (x,b) (aC e)).1
 have done:∀{Y},Aft B.D (N.at { N.s with heap:=h1,toks:=tk1 }) (Fr ⟨names,fd.scope,eD⟩ env) Y→Aft B.D N noA Y:=fun a=>(af.up.trans a).hide nF
 exact F.ts ⟨env,A.deeper env,bH d ds⟩ _ _ _ _ gs q ⟨fun ρ Y k a _=>z .none Y .none k (done a) rfl,fun d Y v k a r=>z d Y v k (done a) r⟩
theorem aEy{D:Wd}{P:Prog}(hF:∀n T,TOk ⟨D,P,T,n⟩→∀f d,P.fn f=some d→aCr ⟨D,P,T,n⟩ f d):∀n,TOk ⟨D,P,⟨aE P n⟩,n⟩
 | 0=>fun A N f ds vs K e=>False.elim e
 | n+1=>fun A N f ds vs K e rm sm rs=>iG (show oK (P.fn f) _ from e) fun d hd e =>
  ⟨by show (P.fn f).isSome=true; refine rwS hd ?_; rfl,fun R z=>hF n ⟨aE P n⟩ (aEy hF n) f d hd A N ds vs K R (of_decide_eq_true (eQ e).1) (eQ e).2 rm sm rs z⟩
end
end Mine.Internal
namespace Mine.Internal
open PySem PySem.W PyProof.Rows
noncomputable section
noncomputable def oB{α:Type}(o:Option α)(f:α→Bool):Bool:=match o with
 | some a=>f a
 | none=>false
@[irreducible] noncomputable def oS {α:Type} {p:α→Prop} (o:Option { a:α // p a }) (f:α→Bool):Bool:=match o with
 | some a=>f a.1
 | none=>false
theorem kW{α:Type}{p:α→Prop}{o:Option { a:α // p a }}{f:α→Bool}(h:oS o f=true):∃a,p a∧f a=true:=by
 delta oS at h
 cases o with
 | some a=>exact⟨a.1,a.2,h⟩
 | none=>exact absurd h Bool.false_ne_true
theorem aD{α:Type}{p:α→Prop}{o:Option { a:α // p a }}{f:α→Bool}{Z:Prop}(h:oS o f=true)(z:∀a,p a→f a=true→Z):Z:=(kW h).elim fun a w=>z a w.1 w.2
noncomputable def lI(e:PE):Option { w:Const × Nat × Pos // e=.Constant w.1 w.2.1 w.2.2 }:=if h:e.ctorIdx=19 then PySem.Expr.Constant.elim (motive_1:=fun e=>Option { w:Const × Nat × Pos // e=.Constant w.1 w.2.1 w.2.2 }) e h (fun k n p=>some ⟨(k,n,p),rfl⟩) else none
noncomputable def aZd(k:Const):Option { j:Int // k=.int j }:=if h:k.ctorIdx=2 then PySem.Const.int.elim (motive:=fun k=>Option { j:Int // k=.int j }) k h (fun j=>some ⟨j,rfl⟩) else none
noncomputable def aDa(k:Const):Option { x:Str // k=.str x }:=if h:k.ctorIdx=5 then PySem.Const.str.elim (motive:=fun k=>Option { x:Str // k=.str x }) k h (fun x=>some ⟨x,rfl⟩) else none
noncomputable def aVz(k:Const):Option { b:Bool // k=.bool b }:=if h:k.ctorIdx=1 then PySem.Const.bool.elim (motive:=fun k=>Option { b:Bool // k=.bool b }) k h (fun b=>some ⟨b,rfl⟩) else none
noncomputable def aZb(k:Const):Option { b:Unit // k=.none }:=if h:k.ctorIdx=0 then PySem.Const.none.elim (motive:=fun k=>Option { b:Unit // k=.none }) k h (some ⟨(),rfl⟩) else none
noncomputable def aJr(e:PE):Option { w:UnaryOp × PE × Pos // e=.UnaryOp w.1 w.2.1 w.2.2 }:=if h:e.ctorIdx=3 then PySem.Expr.UnaryOp.elim (motive_1:=fun e=>Option { w:UnaryOp × PE × Pos // e=.UnaryOp w.1 w.2.1 w.2.2 }) e h (fun o f p=>some ⟨(o,f,p),rfl⟩) else none
noncomputable def bW(e:PE):Option { x:Str × Pos // e=.Name x.1 x.2 }:=if h:e.ctorIdx=23 then PySem.Expr.Name.elim (motive_1:=fun e=>Option { x:Str × Pos // e=.Name x.1 x.2 }) e h (fun x p=>some ⟨(x,p),rfl⟩) else none
noncomputable def jU(e:PE):Option { w:List PE × Nat × Pos // e=.Tuple w.1 w.2.1 w.2.2 }:=if h:e.ctorIdx=25 then PySem.Expr.Tuple.elim (motive_1:=fun e=>Option { w:List PE × Nat × Pos // e=.Tuple w.1 w.2.1 w.2.2 }) e h (fun es k p=>some ⟨(es,k,p),rfl⟩) else none
noncomputable def aOe(e:PE):Option { w:List PE × Pos // e=.List w.1 w.2 }:=if h:e.ctorIdx=24 then PySem.Expr.List.elim (motive_1:=fun e=>Option { w:List PE × Pos // e=.List w.1 w.2 }) e h (fun es p=>some ⟨(es,p),rfl⟩) else none
noncomputable def aPn(e:PE):Option { w:List (Option PE) × List PE × Pos // e=.Dict w.1 w.2.1 w.2.2 }:=if h:e.ctorIdx=6 then PySem.Expr.Dict.elim (motive_1:=fun e=>Option { w:List (Option PE) × List PE × Pos // e=.Dict w.1 w.2.1 w.2.2 }) e h (fun ks vs p=>some ⟨(ks,vs,p),rfl⟩) else none
noncomputable def iM(e:PE):Option { w:PE × Str × Pos // e=.Attribute w.1 w.2.1 w.2.2 }:=if h:e.ctorIdx=20 then PySem.Expr.Attribute.elim (motive_1:=fun e=>Option { w:PE × Str × Pos // e=.Attribute w.1 w.2.1 w.2.2 }) e h (fun o a p=>some ⟨(o,a,p),rfl⟩) else none
noncomputable def nO(e:PE):Option { w:PE × PE × Pos // e=.Subscript w.1 w.2.1 w.2.2 }:=if h:e.ctorIdx=21 then PySem.Expr.Subscript.elim (motive_1:=fun e=>Option { w:PE × PE × Pos // e=.Subscript w.1 w.2.1 w.2.2 }) e h (fun o i p=>some ⟨(o,i,p),rfl⟩) else none
noncomputable def aQs(e:PE):Option { w:Option PE × Option PE × Pos // e=.Slice w.1 w.2.1 none w.2.2 }:=if h:e.ctorIdx=26 then PySem.Expr.Slice.elim (motive_1:=fun e=>Option { w:Option PE × Option PE × Pos // e=.Slice w.1 w.2.1 none w.2.2 }) e h (fun l h s p=>match s with | none=>some ⟨(l,h,p),rfl⟩ | some _=>none) else none
noncomputable def aXn(e:PE):Option { w:PE × Operator × PE × Pos // e=.BinOp w.1 w.2.1 w.2.2.1 w.2.2.2 }:=if h:e.ctorIdx=2 then PySem.Expr.BinOp.elim (motive_1:=fun e=>Option { w:PE × Operator × PE × Pos // e=.BinOp w.1 w.2.1 w.2.2.1 w.2.2.2 }) e h (fun l o r p=>some ⟨(l,o,r,p),rfl⟩) else none
noncomputable def aBi(e:PE):Option { w:BoolOp × List PE × Pos // e=.BoolOp w.1 w.2.1 w.2.2 }:=if h:e.ctorIdx=0 then PySem.Expr.BoolOp.elim (motive_1:=fun e=>Option { w:BoolOp × List PE × Pos // e=.BoolOp w.1 w.2.1 w.2.2 }) e h (fun o es p=>some ⟨(o,es,p),rfl⟩) else none
noncomputable def aVr(e:PE):Option { w:PE × List CmpOp × List PE × Pos // e=.Compare w.1 w.2.1 w.2.2.1 w.2.2.2 }:=if h:e.ctorIdx=15 then PySem.Expr.Compare.elim (motive_1:=fun e=>Option { w:PE × List CmpOp × List PE × Pos // e=.Compare w.1 w.2.1 w.2.2.1 w.2.2.2 }) e h (fun l o r p=>some ⟨(l,o,r,p),rfl⟩) else none
noncomputable def aXj(e:PE):Option { w:PE × PE × PE × Pos // e=.IfExp w.1 w.2.1 w.2.2.1 w.2.2.2 }:=if h:e.ctorIdx=5 then PySem.Expr.IfExp.elim (motive_1:=fun e=>Option { w:PE × PE × PE × Pos // e=.IfExp w.1 w.2.1 w.2.2.1 w.2.2.2 }) e h (fun t b o p=>some ⟨(t,b,o,p),rfl⟩) else none
noncomputable def bP(e:PE):Option { w:PE × List PE × Pos // e=.Call w.1 w.2.1 [] w.2.2 }:=if h:e.ctorIdx=16 then PySem.Expr.Call.elim (motive_1:=fun e=>Option { w:PE × List PE × Pos // e=.Call w.1 w.2.1 [] w.2.2 }) e h (fun f es k p=>match k with | []=>some ⟨(f,es,p),rfl⟩ | _::_=>none) else none
noncomputable def aId(e:PE):Option { w:PE × List PE × List Keyword × Pos // e=.Call w.1 w.2.1 w.2.2.1 w.2.2.2 }:=if h:e.ctorIdx=16 then PySem.Expr.Call.elim (motive_1:=fun e=>Option { w:PE × List PE × List Keyword × Pos // e=.Call w.1 w.2.1 w.2.2.1 w.2.2.2 }) e h (fun f es k p=>some ⟨(f,es,k,p),rfl⟩) else none
noncomputable def dKw(q:Keyword):Option { w:Str × Str × Nat × Pos × Pos // q=⟨some w.1,.Constant (.str w.2.1) w.2.2.1 w.2.2.2.1,w.2.2.2.2⟩ }:=match q with
 | ⟨some n,v,p⟩=>match lI v with
  | some w=>match aDa w.1.1 with
   | some x=>some ⟨(n,x.1,w.1.2.1,w.1.2.2,p),congrArg (Keyword.mk (some n) · p) (w.2.trans (congrArg (PySem.Expr.Constant · w.1.2.1 w.1.2.2) x.2))⟩
   | none=>none
  | none=>none
 | ⟨none,_,_⟩=>none
noncomputable def aGq(e:PE):Option { w:PE × List cW × Scope × Pos // e=.ListComp w.1 w.2.1 w.2.2.1 w.2.2.2 }:=if h:e.ctorIdx=8 then PySem.Expr.ListComp.elim (motive_1:=fun e=>Option { w:PE × List cW × Scope × Pos // e=.ListComp w.1 w.2.1 w.2.2.1 w.2.2.2 }) e h (fun t g s p=>some ⟨(t,g,s,p),rfl⟩) else none
noncomputable def dJs(e:PE):Option { w:List PE × Pos // e=.JoinedStr w.1 w.2 }:=if h:e.ctorIdx=18 then PySem.Expr.JoinedStr.elim (motive_1:=fun e=>Option { w:List PE × Pos // e=.JoinedStr w.1 w.2 }) e h (fun es p=>some ⟨(es,p),rfl⟩) else none
noncomputable def bBp(e:PE):Option { w:PE × Int × Pos // e=.FormattedValue w.1 w.2.1 none w.2.2 }:=if h:e.ctorIdx=17 then PySem.Expr.FormattedValue.elim (motive_1:=fun e=>Option { w:PE × Int × Pos // e=.FormattedValue w.1 w.2.1 none w.2.2 }) e h (fun f i o p=>match o with | none=>some ⟨(f,i,p),rfl⟩ | some _=>none) else none
noncomputable def iN{α:Type}(l:List α):Option { a:α // l=[a] }:=match l with
 | [a]=>some ⟨a,rfl⟩
 | _=>none
noncomputable def aQh{α:Type}(l:List α):Option { a:α × α // l=[a.1,a.2] }:=match l with
 | [a,b]=>some ⟨(a,b),rfl⟩
 | _=>none
noncomputable def cE{α:Type}(l:List α):Option { a:α × List α // l=a.1::a.2 }:=match l with
 | a::b=>some ⟨(a,b),rfl⟩
 | _=>none
noncomputable def bBo(g:cW):Option { w:PE × PE × List PE // g=⟨w.1,w.2.1,w.2.2,0⟩ }:=match g with
 | ⟨t,i,f,0⟩=>some ⟨(t,i,f),rfl⟩
 | _=>none
noncomputable def aFt(e:PE):Bool:=e.ctorIdx != 7
noncomputable def sK:Bi→Str × PV
 | .len=>("len",.builtin "len")
 | .list=>("list",.type "list")
 | .tuple=>("tuple",.type "tuple")
 | .max=>("max",.builtin "max")
 | .dict=>("dict",.type "dict")
 | .sum=>("sum",.builtin "sum")
 | .abs=>("abs",.builtin "abs")
 | .items=>("list",.type "list")
 | _=>("sorted",.builtin "sorted")
noncomputable def nst(b:Bi):Bool:=b.ctorIdx==5
noncomputable def bAp:Bi→Bool
 | .list=>true
 | .dict=>true
 | _=>false
noncomputable def isF(x:X):Bool:=x.ctorIdx==4 || (x.ctorIdx==5 || (x.ctorIdx==25 || (x.ctorIdx==21 || if h:x.ctorIdx=19 then X.bi.elim (motive_1:=fun _=>Bool) x h (fun b _=>bAp b) else false)))
noncomputable def cO(c:Ck)(x:Str):Bool:=c.sc.names.lookup x==some .globalImplicit && !(x==("__debug__":Str))
noncomputable def aOq(c:Ck)(x:Str)(i:Nat):Bool:=c.names.lookup x==some i&&(aGg (c.sc.names.lookup x)&&(!(x==("__debug__":Str)) && !(x==("__classdict__":Str))))
noncomputable def aXc(v:V):Option Nat:=if h:v.ctorIdx=3 then V.str.elim (motive_1:=fun _=>Option Nat) v h (fun n=>some n) else none
noncomputable def aVv(x:X):Option { v:V // x=.cst v }:=if h:x.ctorIdx=0 then X.cst.elim (motive_1:=fun x=>Option { v:V // x=.cst v }) x h (fun v=>some ⟨v,rfl⟩) else none
noncomputable def dVs(v:V):Option { z:Nat // v=.str z }:=if h:v.ctorIdx=3 then V.str.elim (motive_1:=fun v=>Option { z:Nat // v=.str z }) v h (fun z=>some ⟨z,rfl⟩) else none
noncomputable def dVn(v:V):Option { z:Unit // v=.none }:=if h:v.ctorIdx=0 then V.none.elim (motive_1:=fun v=>Option { z:Unit // v=.none }) v h (some ⟨(),rfl⟩) else none
noncomputable def isN(x:X):Bool:=oS (aVv x) fun v=>oS (dVn v) fun _=>true
noncomputable def oO(o:Option PE)(b:Bool)(f:PE→Bool):Bool:=match o with
 | some e=>f e
 | none=>b
noncomputable def aEv(v:V)(e:PE):Bool:=match v with
 | .none=>oS (lI e) fun w=>oS (aZb w.1) fun _=>true
 | .bool b=>oS (lI e) fun w=>oS (aVz w.1) fun d=>b==d
 | .int i=>oS (lI e) (fun w=>oS (aZd w.1) fun j=>decide (i=j)) || oS (aJr e) fun w=>w.1 == .USub&&oS (lI w.2.1) fun w=>oS (aZd w.1) fun j=>decide (i=-j)
 | .str z=>oS (lI e) fun w=>oS (aDa w.1) fun x=>strOk x&&aL x==z
 | _=>false
noncomputable def aUb(tg:Tg)(e:PE):List (Str × Nat):=match tg with
 | .one i=>match bW e with
  | some x=>[(x.1.1,i)]
  | none=>[]
 | .many is=>match jU e with
  | some es=>(es.1.1.zip is).filterMap fun p=>(bW p.1).map fun x=>(x.1.1,p.2)
  | none=>[]
noncomputable def zY:C→List cW→List (Str × Nat)
 | .elt _,_=>[]
 | .gen tg _ _ r,l=>match l with
  | g::l=>aUb tg g.target++zY r l
  | []=>[]
noncomputable def aIp(c:Ck)(sc:Scope):List (Str × Nat):=c.names.filter fun p=>sc.names.lookup p.1==some .free
noncomputable def cpB(c:Ck)(sc:Scope)(nm:List (Str × Nat))(slots:List Nat):Bool :=
 (sc.kind == .function)&&((sc.names.all fun x=>(x.2 != .local || sc.names.lookup x.1==some .local)&&((x.2 != .cell || sc.names.lookup x.1==some .cell)&&(x.2 != .free || (c.sc.names.lookup x.1==some .cell || c.sc.names.lookup x.1==some .free)))) &&
  nm.all fun p=>slots.contains p.2 || (c.names.lookup p.1==some p.2&&sc.names.lookup p.1==some .free))
noncomputable def aAa(c:Ck)(x:Str)(i:Nat):Bool:=c.names.lookup x==some i&&((c.names.all fun p=>p.2 != i || p.1==x)&&(c.sc.names.lookup x==some .local || (c.own x&&c.sc.names.lookup x==some .cell)))
noncomputable def vZ(c:Ck):List Nat→List PE→Bool
 | [],es=>es.isEmpty
 | i::is,es=>oS (cE es) fun w=>oS (bW w.1) fun x=>aAa c x.1 i&&vZ c is w.2
noncomputable def aDz(c:Ck):List Nat→List Str→Bool
 | [],es=>es.isEmpty
 | i::is,es=>oS (cE es) fun w=>aAa c w.1 i&&aDz c is w.2
noncomputable def aGr(c:Ck)(tg:Tg)(e:PE):Bool:=match tg with
 | .one i=>oS (bW e) fun x=>aAa c x.1 i
 | .many is=>oS (jU e) fun w=>vZ c is w.1
section
variable(P:Prog)(g:Gt)
mutual
noncomputable def bG:X→Ck→PE→Bool
 | .cst v,c,e=>aEv v e
 | .var i,c,e=>oS (bW e) fun w=>aOq c w.1 i
 | .glob k,c,e=>(P.glob k).isNone || oS (bW e) fun w=>g.consts.lookup w.1==some k&&cO c w.1
 | .tup xs,c,e=>oS (jU e) fun w=>decide (xs.length≤1000)&&eO xs c w.1
 | .list xs,c,e=>oS (aOe e) fun w=>decide (xs.length≤1000)&&eO xs c w.1
 | .dict xs,c,e=>oS (aPn e) fun w=>decide (w.1.length≤15)&&aHd xs c w.1 w.2.1
 | .mut x,c,e=>(isF x&&gL e)&&bG x c e
 | .attr y f,c,e=>oS (iM e) fun w=>(aZ w.1&&(g.flds.contains w.2.1&&(strOk w.2.1&&aL w.2.1==f)))&&bG y c w.1
 | .item y i,c,e=>oS (nO e) fun w=>iX w.2.1&&(bG y c w.1&&bG i c w.2.1)
 | .sidx cs i,c,e=>oS (nO e) fun w=>oS (lI w.1) fun k=>oS (aDa k.1) fun x=>(strOk x&&(cs.map aXc==x.cps.toList.map fun c=>some (fU [c])))&&(iX w.2.1&&bG i c w.2.1)
 | .sl y l h,c,e=>oS (nO e) fun w=>oS (aQs w.2.1) fun s=>bG y c w.1&&(oO s.1 (isN l) (fun e=>bG l c e)&&oO s.2.1 (isN h) (fun e=>bG h c e))
 | .bin o a b,c,e=>oS (aXn e) fun w=>(aEd o==w.2.1)&&(bG a c w.1&&bG b c w.2.2.1)
 | .and xs,c,e=>oS (aBi e) fun w=>(w.1 == .And)&&eO xs c w.2.1
 | .or xs,c,e=>oS (aBi e) fun w=>(w.1 == .Or)&&eO xs c w.2.1
 | .cmp o a b,c,e=>oS (aVr e) fun w=>oS (iN w.2.1) fun op=>oS (iN w.2.2.1) fun r=>(op==nD o && !behindInMarks (nD o) r)&&(bG a c w.1&&bG b c r)
 | .ite x y z,c,e=>oS (aXj e) fun w=>bG x c w.1&&(bG y c w.2.1&&bG z c w.2.2.1)
 | .call f xs,c,e=>oS (bP e) fun w=>oS (bW w.1) fun x=>(g.fns.lookup x.1==some f&&((P.fn f).isSome&&cO c x.1))&&eO xs c w.2.1
 | .meth y f xs,c,e=>oS (bP e) fun w=>oS (iM w.1) fun a=>(aZ a.1&&(a.2.2.endLine==w.2.2.line&&(decide (w.2.1.length<29)&&(g.mths.contains a.2.1&&(strOk a.2.1&&aL a.2.1==f)))))&&(bG y c a.1&&eO xs c w.2.1)
 | .new k xs,c,e=>oS (bP e) fun w=>oS (bW w.1) fun x=>(g.clss.lookup x.1==some k&&cO c x.1)&&eO xs c w.2.1
 | .bi b xs,c,e=>bif b.ctorIdx==10 then oS (bP e) fun w=>oS (bW w.1) fun x=>oS (iN w.2.1) fun a=>oS (bP a) fun v=>oS (iM v.1) fun t=>(x.1==("list":Str)&&(cO c x.1&&(t.2.1==("items":Str)&&(aZ t.1&&(t.2.2.endLine==v.2.2.line&&v.2.1.isEmpty)))))&&(xs.length==1&&eO xs c [t.1])
  else bif nst b then oS (bP e) fun w=>oS (bW w.1) fun x=>oS (iN w.2.1) fun a=>oS (bP a) fun v=>oS (bW v.1) fun y=>(x.1==(sK b).1&&(cO c x.1&&(y.1==("set":Str)&&cO c y.1)))&&(xs.length==1&&eO xs c v.2.1)
  else oS (bP e) fun w=>oS (bW w.1) fun x=>(x.1==(sK b).1&&cO c x.1)&&eO xs c w.2.1
 | .get y xs,c,e=>oS (bP e) fun w=>oS (iM w.1) fun a=>(a.2.1==("get":Str)&&(aZ a.1&&(a.2.2.endLine==w.2.2.line&&decide (w.2.1.length<29))))&&(bG y c a.1&&eO xs c w.2.1)
 | .comp C,c,e=>oS (aGq e) fun w=>(cpB c w.2.2.1 (zY C w.2.1++aIp c w.2.2.1) C.slots && !w.2.1.isEmpty)&&aTs C c ⟨zY C w.2.1++aIp c w.2.2.1,mC w.2.2.1 c.sc,uN w.2.2.1⟩ w.1 w.2.1
 | .fstr xs,c,e=>oS (dJs e) fun w=>decide (2≤xs.length)&&aDy xs c w.1
 | .not x,c,e=>oS (aJr e) fun w=>w.1 == .Not&&bG x c w.2.1
 | .sfind y,c,e=>oS (bP e) fun w=>oS (iM w.1) fun a=>oS (lI a.1) fun k=>oS (aDa k.1) fun x=>oS (iN w.2.1) fun t=>(x==("ABf":Str)&&(a.2.1==("index":Str)&&(a.2.2.endLine==w.2.2.line && !isStarred t)))&&bG y c t
 | .dkw y ks,c,e=>oS (aId e) fun w=>oS (bW w.1) fun x=>oS (iN w.2.1) fun a=>(x.1==("dict":Str)&&(cO c x.1 && !isStarred a))&&(bG y c a&&(oS (iN w.2.2.1) (fun q=>oS (dKw q) fun v=>(v.1==("y":Str)&&strOk v.2.1)&&ks == [(122,aL v.2.1)]) || oS (aQh w.2.2.1) fun q=>oS (dKw q.1) fun v=>oS (dKw q.2) fun z=>((v.1==("x":Str)&&strOk v.2.1)&&(z.1==("y":Str)&&strOk z.2.1))&&ks == [(121,aL v.2.1),(122,aL z.2.1)]))
noncomputable def eO:List X→Ck→List PE→Bool
 | [],c,es=>es.isEmpty
 | x::xs,c,es=>oS (cE es) fun w=>!isStarred w.1&&(bG x c w.1&&eO xs c w.2)
noncomputable def aDy:List X→Ck→List PE→Bool
 | [],c,es=>es.isEmpty
 | x::xs,c,es=>oS (cE es) fun w=>((oS (bBp w.1) fun f=>f.2.1 == -1&&bG x c f.1) || oS (lI w.1) fun k=>oS (aDa k.1) fun y=>oS (aVv x) fun v=>oS (dVs v) fun z=>strOk y&&aL y==z)&&aDy xs c w.2
noncomputable def aHd:List X→Ck→List (Option PE)→List PE→Bool
 | [],c,ks,vs=>ks.isEmpty&&vs.isEmpty
 | x::xs,c,ks,vs=>oS (cE ks) fun k=>match k.1 with
  | some e=>bG x c e&&aXw xs c k.2 vs
  | none=>false
noncomputable def aXw:List X→Ck→List (Option PE)→List PE→Bool
 | [],c,ks,vs=>false
 | x::xs,c,ks,vs=>oS (cE vs) fun v=>bG x c v.1&&aHd xs c ks v.2
noncomputable def aTs:C→Ck→Ck→PE→List cW→Bool
 | .elt x,c,c',elt,gens=>gens.isEmpty&&bG x c' elt
 | .gen tg src ifs r,c,c',elt,gens=>oS (cE gens) fun w=>oS (bBo w.1) fun v=>(aFt v.2.1&&(aGr c' tg v.1&&r.slots.all fun i=>!tg.slots.contains i))&&(zI src c v.1 v.2.1&&(eO ifs c' v.2.2&&aTs r c' c' elt w.2))
noncomputable def zI:Src→Ck→PE→PE→Bool
 | .val x,c,t,e=>bG x c e
 | .range x,c,t,e=>oS (bP e) fun w=>oS (bW w.1) fun n=>oS (iN w.2.1) fun a=>(n.1==("range":Str)&&(cO c n.1 && !isStarred a))&&bG x c a
 | .enum x,c,t,e=>oS (jU t) fun _=>oS (bP e) fun w=>oS (bW w.1) fun n=>oS (iN w.2.1) fun a=>(n.1==("enumerate":Str)&&(cO c n.1 && !isStarred a))&&bG x c a
 | .zip x y,c,t,e=>oS (jU t) fun _=>oS (bP e) fun w=>oS (bW w.1) fun n=>oS (aQh w.2.1) fun a=>(n.1==("zip":Str)&&(cO c n.1&&(!isStarred a.1 && !isStarred a.2)))&&(bG x c a.1&&bG y c a.2)
 | .items x,c,t,e=>oS (jU t) fun _=>oS (bP e) fun w=>oS (iM w.1) fun a=>(a.2.1==("items":Str)&&(aZ a.1&&(a.2.2.endLine==w.2.2.line&&w.2.1.isEmpty)))&&bG x c a.1
end
end
end
noncomputable def TA(B:Bd)(u:Nat)(c:Ck)(x:X)(e:PE):Prop:=TE B u c x (fun env=>eval e env)∧TB B u c x (fun env=>isTrue e env (eval e env))∧(isF x=true→TF B u c x (fun env=>eval e env))
noncomputable def lR:List (Str × PV) :=
 [("len",.builtin "len"),("list",.type "list"),("tuple",.type "tuple"),("int",.type "int"),("max",.builtin "max"),("dict",.type "dict"),("sorted",.builtin "sorted"),("set",.type "set"),("range",.type "range"),("enumerate",.type "enumerate"),("zip",.type "zip"),("sum",.builtin "sum"),("abs",.builtin "abs")]
noncomputable def aZq(B:Bd)(u:Nat)(b:Bi)(y:Str)(q:PV):Prop:=∀(g:Gt) (c:Ck) (x:X) (f:PE) (p1 p2 p3 p4:Pos),Facts B g→BiOk B.D c y q→BiOk B.D c "set" (.type "set")→isStarred f=false→TEs B u c [x] (fun env=>spliced (backTo p3 (starEach [f] env)))→TE B u c (.bi b [x]) (fun env=>eval (.Call (.Name y p1) [.Call (.Name "set" p2) [f] [] p3] [] p4) env)
structure Hs(B:Bd)(u:Nat)(g:Gt):Prop where
 F:Facts B g
 T:TOk B
 hu:40≤u
 bi:∀p∈lR,nsIn B.D.K mainGlobals p.1=some none∧nsIn B.D.K builtinsNs p.1=some (some p.2)
 so:hM B u (.builtin "sorted") .sorted
 ss:aZq B u .sortedSet "sorted" (.builtin "sorted")
section
variable{B:Bd}{u:Nat}{g:Gt}{c:Ck}{x:X}{e:PE}{xs:List X}{es:List PE}
theorem bU(hp:gL e=true)(hf:isF x=false)(h:TE B u c x (fun env=>eval e env)):TA B u c x e:=⟨h,aHn hp h,fun q=>absurd (hf.symm.trans q) Bool.false_ne_true⟩
theorem pB(hp:gL e=true)(h:TF B u c x (fun env=>eval e env)):TA B u c x e:=⟨h.te,aHn hp h.te,fun _=>h⟩
theorem aG{α:Type}[BEq α][LawfulBEq α]{a b:α}(h:(a==b)=true):a=b:=eq_of_beq h
theorem dC{y:Str}(h:cO c y=true):c.sc.names.lookup y=some .globalImplicit∧(y==("__debug__":Str))=false:=⟨aG (aB h),bE (aA h)⟩
theorem Hs.b(H:Hs B u g){y:Str}{v:PV}(m:(y,v)∈lR)(h:cO c y=true):BiOk B.D c y v:=⟨(H.bi _ m).1,(H.bi _ m).2,(dC h).1,(dC h).2⟩
theorem aPu{y:Str}{i:Nat}{p:Pos}(h:aOq c y i=true):TA B u c (.var i) (.Name y p):=bU rfl rfl (aUu (aG (aB h)) (aB (aA h)) (bE (aB (aA (aA h)))) (bE (aA (aA (aA h)))))
theorem aLf{k:Nat}(h:B.P.glob k=none):TA B u c (.glob k) e:=⟨aLp h,fun G N Q E K H q z=>by
 have q:oK (B.P.glob k) _:=q
 rw[h]at q; exact False.elim q,fun q=>absurd q Bool.false_ne_true⟩
theorem TA.at{e':PE}(h:e=e')(a:TA B u c x e'):TA B u c x e:=h▸a
theorem aVj{v:V}(h:aEv v e=true):TA B u c (.cst v) e:=by
 cases v with
 | none=>exact aD (o:=lI e) h fun w he h=>aD h fun _ hk _=>TA.at (he.trans (congrArg (PySem.Expr.Constant · _ _) hk)) (bU rfl rfl aNo)
 | bool b=>exact aD (o:=lI e) h fun w he h=>aD h fun d hk h=>TA.at (he.trans (congrArg (PySem.Expr.Constant · _ _) hk)) (aG h▸bU rfl rfl aMs)
 | int i =>
  rcases Bool.or_eq_true_iff.mp h with h | h
  ·exact aD (o:=lI e) h fun w he h=>aD h fun d hk h=>by
    refine rwS he (rwS hk (rwS (of_decide_eq_true h) ?_)); exact bU rfl rfl aUa
  ·exact aD (o:=aJr e) h fun w he h=>aD (aA h) fun k hf h2=>aD h2 fun d hk h2=>by
    refine rwS he (rwS (aG (aB h)) (rwS hf (rwS hk (rwS (of_decide_eq_true h2) ?_)))); exact⟨aTl,fun e y Q E K H q z=>False.elim q,fun q=>absurd q Bool.false_ne_true⟩
 | str z=>exact aD (o:=lI e) h fun w he h=>aD h fun d hk h=>TA.at (he.trans (congrArg (PySem.Expr.Constant · _ _) hk)) (bU rfl rfl (aHi (aB h) (aG (aA h))))
 | _=>exact absurd h Bool.false_ne_true
theorem All2.imp{α β:Type}{R S:α→β→Prop}(h:∀a b,R a b→S a b){l:List α}{k:List β}(x:All2 R l k):All2 S l k:=by
 induction x with
 | nil=>exact .nil
 | cons a _ ih=>exact .cons (h _ _ a) ih
noncomputable def TAs(B:Bd)(u:Nat)(c:Ck)(xs:List X)(es:List PE):Prop:=All2 (TA B u c) xs es∧es.all (fun e=>!isStarred e)=true
theorem TAs.tes(h:TAs B u c xs es)(p:Pos):TEs B u c xs (fun env=>spliced (backTo p (starEach es env))):=by
 obtain⟨h,hs⟩:=h
 induction h with
 | nil=>exact eY
 | cons a _ ih=>exact eP (bE (aB hs)) a.1 (ih (aA hs))
theorem aBz{f:Nat→Nat}:∀{cs:List V} {l:List Nat},cs.map aXc=l.map (fun c=>some (f c))→cs=l.map fun c=>V.str (f c)
 | [],[],_=>rfl
 | [],_::_,h=>nomatch h
 | _::_,[],h=>nomatch h
 | v::cs,c::l,h=>by
  rw[aBz (List.cons.inj h).2,show v=.str (f c) by
   cases v <;> first | exact congrArg V.str (Option.some.inj ((List.cons.inj h).1)) | exact(nos ((List.cons.inj h).1))]; rfl
theorem aSt(h:isN x=true):x=.cst .none:=aD h fun v hx h=>aD h fun _ hv _=>hx.trans (congrArg X.cst hv)
theorem wM(h:aFt e=true)(env:bA)(v:PV):foldedSetIterable e env v=pure v:=by
 cases e <;> first | rfl | exact absurd h Bool.false_ne_true
theorem jJ{y:Str}{i:Nat}(h:aAa c y i=true):Nm c y i :=
 ⟨aG (aB h),fun z hz=>(Bool.or_eq_true_iff.mp (List.all_eq_true.mp (aB (aA h)) _ (aC hz))).elim (fun e=>absurd rfl (bne_iff_ne.mp e)) aG,(Bool.or_eq_true_iff.mp (aA (aA h))).imp aG fun e=>⟨aB e,aG (aA e)⟩⟩
theorem lK:∀{is:List Nat} {es:List PE},vZ c is es=true→NmS c is es
 | [],es,h=>by refine rwS (List.isEmpty_iff.mp h) ?_; exact .nil
 | i::is,es,h=>aD (o:=cE es) h fun w he h=>aD h fun y hy h=>by refine rwS he (rwS hy ?_); exact .cons (jJ (aB h)) (lK (aA h))
theorem wY:∀{is:List Nat} {es:List Str},aDz c is es=true→NmN c is es
 | [],es,h=>by refine rwS (List.isEmpty_iff.mp h) ?_; exact .nil
 | i::is,es,h=>aD (o:=cE es) h fun w he h=>by refine rwS he ?_; exact .cons (jJ (aB h)) (wY (aA h))
theorem wO{tg:Tg}(h:aGr c tg e=true):TgOk c tg e:=by
 cases tg with
 | one i=>exact aD (o:=bW e) h fun y he h=>he▸.one (jJ h)
 | many is=>exact aD (o:=jU e) h fun w he h=>he▸.many (lK h)
theorem aIn{sc:Scope}{nm:List (Str × Nat)}{sl:List Nat}(h:cpB c sc nm sl=true):CpOk c sc nm sl:=by
 have h2:=List.all_eq_true.mp (aB (aA h))
 have key:∀{p:NameKind × Str} {k:NameKind} {b:Bool},(p.1 != k || b)=true→p.1=k→b=true:=fun {p k b} h e=>(Bool.or_eq_true_iff.mp h).elim (fun n=>absurd e (bne_iff_ne.mp n)) id
 refine⟨aG (aB h),fun x hx e=>aG (key (p:=(x.2,x.1)) (aB (h2 x hx)) e),fun x hx e=>aG (key (p:=(x.2,x.1)) (aB (aA (h2 x hx))) e),fun x hx e=>(Bool.or_eq_true_iff.mp (key (p:=(x.2,x.1)) (aA (aA (h2 x hx))) e)).imp aG aG,fun x i e=>?_⟩
 exact(Bool.or_eq_true_iff.mp (List.all_eq_true.mp (aA (aA h)) _ (aC e))).imp (fun e=>List.contains_iff_mem.mp e) fun e=>⟨aG (aB e),aG (aA e)⟩
noncomputable def Cl(B:Bd)(u:Nat)(c c':Ck)(x:C)(elt:PE)(gens:List cW):Prop:=match x with
 | .elt x=>gens=[]∧TE B u c' x (fun env=>eval elt env)
 | .gen tg src ifs r=>∃target iter ifsE rest,gens=⟨target,iter,ifsE,0⟩::rest∧TSr B u c target src iter∧(∀env x,foldedSetIterable iter env x=pure x)∧jC B u c' tg ifs r target elt ifsE rest
theorem Cl.bd{x:C}{elt:PE}{gens:List cW}(h:Cl B u c c x elt gens):aMa B u c x elt gens:=by
 cases x with
 | elt y=>refine rwS h.1 ?_; exact aUp h.2
 | gen tg src ifs r=>obtain⟨target,iter,ifsE,rest,rfl,h1,h2,h3⟩:=h; exact aQk h1 h2 h3
end
section
variable{B:Bd}{u:Nat}{g:Gt}
theorem aTr(h:Hs B u g){c:Ck}{b:Bi}{xs:List X}{es:List PE}{np pos:Pos}(hn:nst b=false)(hi:(b.ctorIdx==10)=false)(k1:cO c (sK b).1=true)(r:TAs B u c xs es):TA B u c (.bi b xs) (.Call (.Name (sK b).1 np) es [] pos):=by
 cases b with
 | len=>exact bU rfl rfl (qZ h.F (h.b (by decide +kernel) k1) rfl r.2 (r.tes _) aQv)
 | list=>exact pB rfl (aPt h.F (h.b (by decide +kernel) k1) rfl r.2 (r.tes _) aMb)
 | tuple=>exact bU rfl rfl (qZ h.F (h.b (by decide +kernel) k1) rfl r.2 (r.tes _) aEj)
 | dict=>exact pB rfl (aPt h.F (h.b (by decide +kernel) k1) rfl r.2 (r.tes _) aMo)
 | sorted=>exact bU rfl rfl (qZ h.F (h.b (by decide +kernel) k1) rfl r.2 (r.tes _) h.so)
 | sortedSet=>exact(aMl hn)
 | max=>exact bU rfl rfl (qZ h.F (h.b (by decide +kernel) k1) rfl r.2 (r.tes _) aQj)
 | sum=>exact bU rfl rfl (qZ h.F (h.b (by decide +kernel) k1) rfl r.2 (r.tes _) aUr)
 | abs=>exact bU rfl rfl (qZ h.F (h.b (by decide +kernel) k1) rfl r.2 (r.tes _) aQd)
 | sortedK=>exact bU rfl rfl (qZ h.F (h.b (by decide +kernel) k1) rfl r.2 (r.tes _) xX)
 | items=>exact(aMl hi)
theorem aRa(h:Hs B u g){c:Ck}{b:Bi}{xs:List X}{es:List PE}{p1 p2 p3 p4:Pos}(hn:nst b=true)(k1:cO c (sK b).1=true)(k2:cO c "set"=true)(hl:(xs.length==1)=true)(r:TAs B u c xs es):TA B u c (.bi b xs) (.Call (.Name (sK b).1 p1) [.Call (.Name "set" p2) es [] p3] [] p4):=by
 have ts:=r.tes p3
 obtain⟨r,hs⟩:=r
 cases r with
 | nil=>exact(nob hl)
 | cons t r=>cases r with
  | nil=>cases b with
   | sortedSet=>exact bU rfl rfl (h.ss g _ _ _ _ _ _ _ h.F (h.b (by decide +kernel) k1) (h.b (by decide +kernel) k2) (bE (aB hs)) ts)
   | _=>exact(nob hn)
  | cons _ _=>exact(nob hl)
theorem aCw(h:Hs B u g){c:Ck}{xs:List X}{o:PE}{np ap p1 pos:Pos}(hb:aZ o=true)(hl:(ap.endLine==p1.line)=true)(k1:cO c "list"=true)(hx:(xs.length==1)=true)(r:TAs B u c xs [o]):TA B u c (.bi .items xs) (.Call (.Name "list" np) [.Call (.Attribute o "items" ap) [] [] p1] [] pos):=by
 obtain⟨r,hs⟩:=r
 cases r with
 | cons t r=>cases r with
  | nil=>exact bU rfl rfl (aIb h.F (h.b (by decide +kernel) k1) hb hl t.1)
theorem aNk{c:Ck}{xs:List X}{es:List PE}{p:Pos}(hl:decide (2≤xs.length)=true)(r:All2 (TP B u c) xs es):TE B u c (.fstr xs) (fun env=>eval (.JoinedStr es p) env):=by
 cases r with
 | nil=>exact(nob hl)
 | cons a r=>cases r with
  | nil=>exact(nob hl)
  | cons b r=>exact aNg a b r
theorem aLh{c:Ck}{C:C}{elt:PE}{gens:List cW}{sc:Scope}{p:Pos}{nm:List (Str × Nat)}(K0:CpOk c sc nm C.slots)(hg:(!gens.isEmpty)=true)(r:Cl B u c ⟨nm,mC sc c.sc,uN sc⟩ C elt gens):TA B u c (.comp C) (.ListComp elt gens sc p):=by
 cases C with
 | elt x=>rw[r.1]at hg; exact absurd hg Bool.false_ne_true
 | gen tg src ifs r'=>obtain⟨target,iter,ifsE,rest,e,h1,h2,h3⟩:=r; exact e▸pB rfl (aKr K0 h1 h2 h3)
mutual
theorem bC(h:Hs B u g):∀(x:X) (c:Ck) (e:PE),bG B.P g x c e=true→TA B u c x e
 | .cst v,c,e,k=>aVj k
 | .var i,c,e,k=>aD (o:=bW e) k fun w he k=>he▸aPu k
 | .glob i,c,e,k=>(Bool.or_eq_true_iff.mp k).elim (fun k=>aLf (Option.isNone_iff_eq_none.mp k)) fun k=>aD (o:=bW e) k fun w he k=>he▸bU rfl rfl (aJw h.F (aG (aB k)) (dC (aA k)).1 (dC (aA k)).2)
 | .tup xs,c,e,k=>aD (o:=jU e) k fun w he k=>he▸bU rfl rfl (aQx (of_decide_eq_true (aB k)) ((dE h xs c w.1 (aA k)).tes _))
 | .list xs,c,e,k=>aD (o:=aOe e) k fun w he k=>he▸pB rfl (aMy (of_decide_eq_true (aB k)) ((dE h xs c w.1 (aA k)).tes _))
 | .dict xs,c,e,k=>aD (o:=aPn e) k fun w he k=>he▸pB rfl (aMr (aOf h xs c w.1 w.2.1 (aA k)) (of_decide_eq_true (aB k)))
 | .mut x,c,e,k=>have t:=aSo ((bC h x c e (aA k)).2.2 (aB (aB k)))
  ⟨t,aHn (aA (aB k)) t,fun q=>absurd q Bool.false_ne_true⟩
 | .attr y f,c,e,k=>aD (o:=iM e) k fun w he k=>he▸bU rfl rfl (aNz h.F (aB (aB k)) (List.contains_iff_mem.mp (aB (aA (aB k)))) (aB (aA (aA (aB k)))) (aG (aA (aA (aA (aB k))))) (bC h y c w.1 (aA k)).1)
 | .item y i,c,e,k=>aD (o:=nO e) k fun w he k=>he▸bU rfl rfl (aKu (aB k) (bC h y c w.1 (aB (aA k))).1 (bC h i c w.2.1 (aA (aA k))).1)
 | .sidx cs i,c,e,k=>aD (o:=nO e) k fun w he k=>aD k fun w2 ho k=>aD k fun x hx k=>by
  refine rwS he (rwS ho (rwS hx ?_))
  exact bU rfl rfl (aLd (aB (aB k)) (aBz (aG (aA (aB k)))) (aB (aA k)) (bC h i c w.2.1 (aA (aA k))).1)
 | .sl y l r,c,e,k=>aD (o:=nO e) k fun w he k=>aD k fun s hs k=>by
  have to:∀(x:X) (o:Option PE),(∀e,bG B.P g x c e=true→TA B u c x e)→oO o (isN x) (fun e=>bG B.P g x c e)=true→TO B u c x o:=fun x o f k=>match o,k with
   | some e,k=>(f e k).1
   | none,k=>aSt k
  refine rwS he (rwS hs ?_)
  exact bU rfl rfl (aYe (bC h y c w.1 (aB k)).1 (to l s.1 (fun e=>bC h l c e) (aB (aA k))) (to r s.2.1 (fun e=>bC h r c e) (aA (aA k))))
 | .bin o a b,c,e,k=>aD (o:=aXn e) k fun w he k=>by
  refine rwS he (rwT (aG (aB k)) ?_)
  exact bU rfl rfl (aTn (bC h a c w.1 (aB (aA k))).1 (bC h b c w.2.2.1 (aA (aA k))).1)
 | .and xs,c,e,k=>aD (o:=aBi e) k fun w he k=>by
  refine rwS he (rwS (aG (aB k)) ?_)
  exact⟨aUd (((dE h xs c w.2.1 (aA k)).1).imp fun a b h=>h.1),aRt (((dE h xs c w.2.1 (aA k)).1).imp fun a b h=>h.2.1),fun q=>absurd q Bool.false_ne_true⟩
 | .or xs,c,e,k=>aD (o:=aBi e) k fun w he k=>by
  refine rwS he (rwS (aG (aB k)) ?_)
  exact⟨aWc (((dE h xs c w.2.1 (aA k)).1).imp fun a b h=>h.1),aYp (((dE h xs c w.2.1 (aA k)).1).imp fun a b h=>h.2.1),fun q=>absurd q Bool.false_ne_true⟩
 | .cmp o a b,c,e,k=>aD (o:=aVr e) k fun w he k=>aD k fun op h1 k=>aD k fun r h2 k=>by
  refine rwS he (rwS h1 (rwS h2 (rwS (aG (aB (aB k))) ?_)))
  exact⟨aSi (Nat.le_trans (by decide:30≤40) h.hu) (bE (aA (aB k))) ((bC h a c w.1 (aB (aA k))).1) ((bC h b c r (aA (aA k))).1),aQe (Nat.le_trans (by decide:30≤40) h.hu) (bE (aA (aB k))) ((bC h a c w.1 (aB (aA k))).1) ((bC h b c r (aA (aA k))).1),fun q=>absurd q Bool.false_ne_true⟩
 | .ite x y z,c,e,k=>aD (o:=aXj e) k fun w he k =>
  he▸⟨aTg (bC h x c w.1 (aB k)).2.1 (bC h y c w.2.1 (aB (aA k))).1 (bC h z c w.2.2.1 (aA (aA k))).1,TB.ite (bC h x c w.1 (aB k)).2.1 (bC h y c w.2.1 (aB (aA k))).2.1 (bC h z c w.2.2.1 (aA (aA k))).2.1,fun q=>absurd q Bool.false_ne_true⟩
 | .call f xs,c,e,k=>aD (o:=bP e) k fun w he k=>aD k fun y hq k =>
  have r:=dE h xs c w.2.1 (aA k)
  have k1:=aB k
  TA.at (he.trans (congrArg (PySem.Expr.Call · _ _ _) hq)) (bU rfl rfl (aMz h.F h.T (aG (aB k1)) (aB (aA k1)) (dC (aA (aA k1))).1 (dC (aA (aA k1))).2 r.2 (r.tes _)))
 | .meth y f xs,c,e,k=>aD (o:=bP e) k fun w he k=>aD k fun a hq k =>
  have r:=dE h xs c w.2.1 (aA (aA k))
  have k1:=aB k
  have k4:=aA (aA (aA k1))
  TA.at (he.trans (congrArg (PySem.Expr.Call · _ _ _) hq)) (bU rfl rfl (aKk h.F h.T (aB k1) (aB (aA k1)) (of_decide_eq_true (aB (aA (aA k1)))) r.2 (List.contains_iff_mem.mp (aB k4)) (aB (aA k4)) (aG (aA (aA k4))) (bC h y c a.1 (aB (aA k))).1 (r.tes _)))
 | .new i xs,c,e,k=>aD (o:=bP e) k fun w he k=>aD k fun y hq k =>
  have r:=dE h xs c w.2.1 (aA k)
  have k1:=aB k
  TA.at (he.trans (congrArg (PySem.Expr.Call · _ _ _) hq)) (bU rfl rfl (aVc h.F h.T h.hu (aG (aB k1)) (dC (aA k1)).1 (dC (aA k1)).2 r.2 (r.tes _)))
 | .bi b xs,c,e,k=>by
  cases hi:b.ctorIdx==10 with
  | true =>
   replace k:(bif b.ctorIdx==10 then _ else _)=true:=k
   rw[hi]at k
   exact aD (o:=bP e) k fun w he k=>aD k fun y hq k=>aD k fun a ha k=>aD k fun v hv k=>aD k fun t ht k=>by
    have k1:=aB k
    have k2:=aB (aA k1)
    have k3:=aA (aA k1)
    rw[aG (aB k1)]at k2
    refine rwS he (rwS hq (rwS ha (rwS hv (rwS ht (rwS (aG (aB k1)) (rwS (aG (aB k3)) (rwS (List.isEmpty_iff.mp (aA (aA (aA k3)))) (rwS (show b=.items by cases b <;> first | rfl | exact(nob hi)) ?_))))))))
    exact aCw h (aB (aA k3)) (aB (aA (aA k3))) k2 (aB (aA k)) (dE h xs c [t.1] (aA (aA k)))
  | false =>
  replace k:(bif b.ctorIdx==10 then _ else bif nst b then _ else _)=true:=k
  rw[hi]at k
  cases hb:nst b with
  | true =>
   replace k:(bif nst b then _ else _)=true:=k
   rw[hb]at k
   exact aD (o:=bP e) k fun w he k=>aD k fun y hq k=>aD k fun a ha k=>aD k fun v hv k=>aD k fun y2 hq2 k=>by
    have k1:=aB k
    refine rwS he (rwS hq (rwS ha (rwS hv (rwS hq2 (rwS (aG (aB k1)) (rwS (aG (aB (aA (aA k1)))) ?_))))))
    rw[aG (aB k1),aG (aB (aA (aA k1)))]at k1
    exact aRa h hb (aB (aA k1)) (aA (aA (aA k1))) (aB (aA k)) (dE h xs c v.2.1 (aA (aA k)))
  | false =>
   replace k:(bif nst b then _ else _)=true:=k
   rw[hb]at k
   exact aD (o:=bP e) k fun w he k=>aD k fun y hq k=>by
    have k1:=aA (aB k)
    rw[aG (aB (aB k))]at k1
    refine rwS he (rwS hq (rwS (aG (aB (aB k))) ?_))
    exact aTr h hb hi k1 (dE h xs c w.2.1 (aA k))
 | .get y xs,c,e,k=>aD (o:=bP e) k fun w he k=>aD k fun a hq k=>by
  have k1:=aB k
  refine rwS he (rwS hq (rwS (aG (aB k1)) ?_))
  exact bU rfl rfl (aPx (aB (aA k1)) (aB (aA (aA k1))) (of_decide_eq_true (aA (aA (aA k1)))) (dE h xs c w.2.1 (aA (aA k))).2 (bC h y c a.1 (aB (aA k))).1 ((dE h xs c w.2.1 (aA (aA k))).tes _))
 | .comp C,c,e,k=>aD (o:=aGq e) k fun w he k=>he▸aLh (aIn (aB (aB k))) (aA (aB k)) (aSv h C c _ w.1 w.2.1 (aA k))
 | .fstr xs,c,e,k=>aD (o:=dJs e) k fun w he k=>he▸bU rfl rfl (aNk (aB k) (aOm h xs c w.1 (aA k)))
 | .not x,c,e,k=>aD (o:=aJr e) k fun w he k=>by
  refine rwS he (rwS (aG (aB k)) ?_)
  exact⟨aSy (bC h x c w.2.1 (aA k)).1,aSq (bC h x c w.2.1 (aA k)).2.1,fun q=>absurd q Bool.false_ne_true⟩
 | .sfind y,c,e,k=>aD (o:=bP e) k fun w he k=>aD k fun a hq k=>aD k fun q hc k=>aD k fun x hx k=>aD k fun t ht k=>by
  have k2:=aA (aB k)
  refine rwS he (rwS hq (rwS hc (rwS hx (rwS ht (rwS (aG (aB (aB k))) (rwS (aG (aB k2)) ?_))))))
  exact bU rfl rfl (aFs (aB (aA k2)) (bE (aA (aA k2))) (bC h y c t (aA k)).1)
 | .dkw y ks,c,e,k=>aD (o:=aId e) k fun w he k=>aD k fun x hq k=>aD k fun a ha k=>by
  have k1:=aB k
  have kb:=aB (aA k1)
  have hs:=bE (aA (aA k1))
  have r:=eP (p:=w.2.2.2) hs (bC h y c a (aB (aA k))).1 eY
  rw[aG (aB k1)]at kb
  refine rwS he (rwS hq (rwS ha (rwS (aG (aB k1)) ?_)))
  refine(Bool.or_eq_true_iff.mp (aA (aA k))).elim (fun k=>aD k fun q hw k=>aD k fun v hv k=>?_) fun k=>aD k fun q hw k=>aD k fun v hv k=>aD k fun z hz k=>?_
  ·refine rwS hw (rwS hv (rwS (aG (aB (aB k))) (rwS (aG (aA k)) ?_)))
   exact pB rfl (aNs h.F (h.b (by decide +kernel) kb) hs r (aA (aB k)) rfl)
  ·have k3:=aB k
   refine rwS hw (rwS hv (rwS hz (rwS (aG (aB (aB k3))) (rwS (aG (aB (aA k3))) (rwS (aG (aA k)) ?_)))))
   exact pB rfl (aKw h.F (h.b (by decide +kernel) kb) hs r (aA (aB k3)) rfl (aA (aA k3)) rfl)
theorem dE(h:Hs B u g):∀(xs:List X) (c:Ck) (es:List PE),eO B.P g xs c es=true→TAs B u c xs es
 | [],c,es,k=>List.isEmpty_iff.mp k▸⟨.nil,rfl⟩
 | x::xs,c,es,k=>aD (o:=cE es) k fun w he k =>
  he▸⟨.cons (bC h x c w.1 (aB (aA k))) (dE h xs c w.2 (aA (aA k))).1,(congrArg (· && _) (aB k)).trans (dE h xs c w.2 (aA (aA k))).2⟩
theorem aOm(h:Hs B u g):∀(xs:List X) (c:Ck) (es:List PE),aDy B.P g xs c es=true→All2 (TP B u c) xs es
 | [],c,es,k=>List.isEmpty_iff.mp k▸.nil
 | x::xs,c,es,k=>aD (o:=cE es) k fun w he k =>
  he▸.cons ((Bool.or_eq_true_iff.mp (aB k)).elim (fun k=>aD k fun f hf k=>by
   refine rwS hf (rwS (aG (aB k)) ?_); exact aVb (bC h x c f.1 (aA k)).1) fun k=>aD k fun q hq k=>aD k fun y hy k=>aD k fun v hv k=>aD k fun z hz k=>by
   refine rwS hq (rwS hy (rwS hv (rwS hz ?_))); exact aSf (aB k) (aG (aA k))) (aOm h xs c w.2 (aA k))
theorem aOf(h:Hs B u g):∀(xs:List X) (c:Ck) (ks:List (Option PE)) (vs:List PE),aHd B.P g xs c ks vs=true→Kv B u c xs ks vs
 | [],c,ks,vs,k=>List.isEmpty_iff.mp (aB k)▸List.isEmpty_iff.mp (aA k)▸.nil
 | [x],c,ks,vs,k=>aD (o:=cE ks) k fun w he k=>match w.1,k with
  | some e,k=>absurd (aA k) Bool.false_ne_true
  | none,k=>absurd k Bool.false_ne_true
 | x::y::xs,c,ks,vs,k=>aD (o:=cE ks) k fun w he k=>he▸match w.1,k with
  | some e,k=>aD (o:=cE vs) (aA k) fun v hv k2=>hv▸.cons (bC h x c e (aB k)).1 (bC h y c v.1 (aB k2)).1 (aOf h xs c w.2 v.2 (aA k2))
  | none,k=>absurd k Bool.false_ne_true
theorem aSv(h:Hs B u g):∀(x:C) (c c':Ck) (elt:PE) (gens:List cW),aTs B.P g x c c' elt gens=true→Cl B u c c' x elt gens
 | .elt x,c,c',elt,gens,k=>⟨List.isEmpty_iff.mp (aB k),(bC h x c' elt (aA k)).1⟩
 | .gen tg src ifs r,c,c',elt,gens,k=>aD (o:=cE gens) k fun w hg k=>aD k fun v h1 k =>
  have k1:=aB k
  have k2:=aA k
  ⟨v.1,v.2.1,v.2.2,w.2,hg.trans (congrArg (·::w.2) h1),aEc h src c v.1 v.2.1 (aB k2),wM (aB k1),aLn (wO (aB (aA k1))) ((dE h ifs c' v.2.2 (aB (aA k2))).1.imp fun a b h=>h.2.1)
   (fun i hi m=>absurd (List.contains_iff_mem.mpr m) (by refine rwS (bE (List.all_eq_true.mp (aA (aA k1)) i hi)) ?_; exact Bool.false_ne_true)) (aSv h r c' c' elt w.2 (aA (aA k2))).bd⟩
theorem aEc(h:Hs B u g):∀(x:Src) (c:Ck) (t e:PE),zI B.P g x c t e=true→TSr B u c t x e
 | .val x,c,t,e,k=>aMh (bC h x c e k).1
 | .range x,c,t,e,k=>aD (o:=bP e) k fun w he k=>aD k fun y hq k=>aD k fun a ha k=>by
  have k1:=aB k
  have hs:=bE (aA (aA k1))
  have hb:=aB (aA k1)
  rw[aG (aB k1)]at hb
  refine rwS he (rwS hq (rwS ha (rwS (aG (aB k1)) ?_)))
  exact aDj h.F (h.b (by decide +kernel) hb) hs (eP hs (bC h x c a (aA k)).1 eY)
 | .enum x,c,t,e,k=>aD (o:=jU t) k fun tt ht k=>aD (o:=bP e) k fun w he k=>aD k fun y hq k=>aD k fun a ha k=>by
  have k1:=aB k
  have hs:=bE (aA (aA k1))
  have hb:=aB (aA k1)
  rw[aG (aB k1)]at hb
  refine rwS ht (rwS he (rwS hq (rwS ha (rwS (aG (aB k1)) ?_))))
  exact aHc h.F (h.b (by decide +kernel) hb) hs (eP hs (bC h x c a (aA k)).1 eY)
 | .zip x y,c,t,e,k=>aD (o:=jU t) k fun tt ht k=>aD (o:=bP e) k fun w he k=>aD k fun n hq k=>aD k fun a ha k=>by
  have k1:=aB k
  have hs:=aA (aA k1)
  have hb:=aB (aA k1)
  rw[aG (aB k1)]at hb
  refine rwS ht (rwS he (rwS hq (rwS ha (rwS (aG (aB k1)) ?_))))
  exact aLg h.F (h.b (by decide +kernel) hb) (bE (aB hs)) (bE (aA hs)) (eP (bE (aB hs)) (bC h x c a.1 (aB (aA k))).1 (eP (bE (aA hs)) (bC h y c a.2 (aA (aA k))).1 eY))
 | .items x,c,t,e,k=>aD (o:=jU t) k fun tt ht k=>aD (o:=bP e) k fun w he k=>aD k fun a hq k=>by
  have k1:=aB k
  refine rwS ht (rwS he (rwS hq (rwS (aG (aB k1)) (rwS (List.isEmpty_iff.mp (aA (aA (aA k1)))) ?_))))
  exact aCn (aB (aA k1)) (aB (aA (aA k1))) (bC h x c a.1 (aA k)).1
end
end
noncomputable section
noncomputable def aMc(s:Stmt):Option { w:PE × Pos // s=.Return (some w.1) w.2 }:=if h:s.ctorIdx=3 then PySem.Stmt.Return.elim (motive_2:=fun s=>Option { w:PE × Pos // s=.Return (some w.1) w.2 }) s h (fun e p=>match e with | some e=>some ⟨(e,p),rfl⟩ | none=>none) else none
noncomputable def aFp(s:Stmt):Option { w:PE × Pos // s=.Expr w.1 w.2 }:=if h:s.ctorIdx=24 then PySem.Stmt.Expr.elim (motive_2:=fun s=>Option { w:PE × Pos // s=.Expr w.1 w.2 }) s h (fun e p=>some ⟨(e,p),rfl⟩) else none
noncomputable def aZl(s:Stmt):Option { w:PE × List Stmt × List Stmt × Pos // s=.If w.1 w.2.1 w.2.2.1 w.2.2.2 }:=if h:s.ctorIdx=12 then PySem.Stmt.If.elim (motive_2:=fun s=>Option { w:PE × List Stmt × List Stmt × Pos // s=.If w.1 w.2.1 w.2.2.1 w.2.2.2 }) s h (fun e a b p=>some ⟨(e,a,b,p),rfl⟩) else none
noncomputable def aVw(s:Stmt):Option { w:PE × List Stmt × List Stmt × Pos // s=.While w.1 w.2.1 w.2.2.1 w.2.2.2 }:=if h:s.ctorIdx=11 then PySem.Stmt.While.elim (motive_2:=fun s=>Option { w:PE × List Stmt × List Stmt × Pos // s=.While w.1 w.2.1 w.2.2.1 w.2.2.2 }) s h (fun e a b p=>some ⟨(e,a,b,p),rfl⟩) else none
noncomputable def yL(s:Stmt):Option { w:PE × PE × List Stmt × List Stmt × Pos // s=.For w.1 w.2.1 w.2.2.1 w.2.2.2.1 w.2.2.2.2 }:=if h:s.ctorIdx=9 then PySem.Stmt.For.elim (motive_2:=fun s=>Option { w:PE × PE × List Stmt × List Stmt × Pos // s=.For w.1 w.2.1 w.2.2.1 w.2.2.2.1 w.2.2.2.2 }) s h (fun t i a b p=>some ⟨(t,i,a,b,p),rfl⟩) else none
noncomputable def kH(s:Stmt):Option { w:List PE × PE × Pos // s=.Assign w.1 w.2.1 w.2.2 }:=if h:s.ctorIdx=5 then PySem.Stmt.Assign.elim (motive_2:=fun s=>Option { w:List PE × PE × Pos // s=.Assign w.1 w.2.1 w.2.2 }) s h (fun t e p=>some ⟨(t,e,p),rfl⟩) else none
noncomputable def dX(x:X):Option { C:C // x=.comp C }:=if h:x.ctorIdx=21 then X.comp.elim (motive_1:=fun x=>Option { C:C // x=.comp C }) x h (fun C=>some ⟨C,rfl⟩) else none
noncomputable def dXm(x:X):Option { C:C // x=.mut (.comp C) }:=if h:x.ctorIdx=6 then X.mut.elim (motive_1:=fun x=>Option { C:C // x=.mut (.comp C) }) x h (fun y=>match dX y with | some C=>some ⟨C.1,congrArg X.mut C.2⟩ | none=>none) else none
noncomputable def qT{α:Type}(m:Sem α):Option { a:α // m=.pure a }:=if h:m.ctorIdx=0 then PySem.Sem.pure.elim (motive:=fun m=>Option { a:α // m=.pure a }) m h (fun a=>some ⟨a,rfl⟩) else none
noncomputable def aCx(c:Ck):bA:={ scope:=c.sc,locals:=0,globals:=0,cells:=[],qual:="",func:=none,code:=.none,frame:=none,builtins:=0 }
noncomputable def swB(c:Ck)(e:PE)(t:Option PE)(l:Nat)(r:Bool):Bool:=oS (qT (swapsWith e t l (aCx c))) fun b=>b==r
noncomputable def aZn:Mth→Str
 | .app=>"append"
 | .ext=>"extend"
 | .upd=>"update"
 | .rem=>"remove"
section
variable(P:Prog)(g:Gt)
noncomputable def aYu(c:Ck)(x:X)(ts:List PE)(e:PE)(l:Nat)(t:Tgt):Bool:=bG P g x c e&&oS (iN ts) fun t0=>match t with
 | .name i=>oS (bW t0) fun y=>aAa c y.1 i&&(swB c e (some t0) l false || (((dX x).isSome || (dXm x).isSome)&&swB c e (some t0) l true))
 | .attr o f=>oS (iM t0) fun a=>((g.flds.contains a.2.1&&(strOk a.2.1&&aL a.2.1==f))&&swB c e (some t0) l false)&&bG P g o c a.1
 | .item o k=>oS (nO t0) fun a=>swB c e (some t0) l false&&(bG P g o c a.1&&bG P g k c a.2.1)
noncomputable def aWz(c:Ck)(t:Tgt)(t0:PE):Bool:=match t with
 | .name i=>oS (bW t0) fun y=>aAa c y.1 i
 | .attr o f=>oS (iM t0) fun a=>(g.flds.contains a.2.1&&(strOk a.2.1&&aL a.2.1==f))&&bG P g o c a.1
 | .item o k=>oS (nO t0) fun a=>bG P g o c a.1&&bG P g k c a.2.1
noncomputable def aHv(c:Ck):List Tgt→List PE→Bool
 | [],es=>es.isEmpty
 | t::ts,es=>oS (cE es) fun w=>aWz P g c t w.1&&aHv c ts w.2
theorem bBy{a a' b b':PE}{p:Pos}(h1:a=a')(h2:b=b'):PySem.Expr.Subscript a b p=.Subscript a' b' p:=by exact rwS h1 (rwS h2 rfl)
theorem bAd{a a' b b':PE}(h1:a=a')(h2:b=b'):[a,b]=[a',b']:=by exact rwS h1 (rwS h2 rfl)
noncomputable def dAN(s:Stmt):Option { w:Str × Pos × PE × Pos // s=.Assign [.Name w.1 w.2.1] w.2.2.1 w.2.2.2 } :=
 (kH s).bind fun a=>(iN a.1.1).bind fun t=>(bW t.1).bind fun y=>some ⟨(y.1.1,y.1.2,a.1.2.1,a.1.2.2),a.2.trans (congrArg (PySem.Stmt.Assign · a.1.2.1 a.1.2.2) (t.2.trans (congrArg (fun x=>[x]) y.2)))⟩
noncomputable abbrev skE(w:(Str × Pos) × (Str × Nat × Pos) × Pos):PE:=.Subscript (.Name w.1.1 w.1.2) (.Constant (.str w.2.1.1) w.2.1.2.1 w.2.1.2.2) w.2.2
noncomputable def dSK(e:PE):Option { w:(Str × Pos) × (Str × Nat × Pos) × Pos // e=skE w } :=
 (nO e).bind fun u=>(bW u.1.1).bind fun y=>(lI u.1.2.1).bind fun k=>(aDa k.1.1).bind fun z=>some ⟨((y.1.1,y.1.2),(z.1,k.1.2.1,k.1.2.2),u.1.2.2),u.2.trans (bBy y.2 (k.2.trans (congrArg (fun x=>PySem.Expr.Constant x k.1.2.1 k.1.2.2) z.2)))⟩
noncomputable def dAS(s:Stmt):Option { w:((Str × Pos) × (Str × Nat × Pos) × Pos) × PE × Pos // s=.Assign [skE w.1] w.2.1 w.2.2 } :=
 (kH s).bind fun a=>(iN a.1.1).bind fun t=>(dSK t.1).bind fun y=>some ⟨(y.1,a.1.2.1,a.1.2.2),a.2.trans (congrArg (PySem.Stmt.Assign · a.1.2.1 a.1.2.2) (t.2.trans (congrArg (fun x=>[x]) y.2)))⟩
noncomputable abbrev atE(x:Str × Pos × PE × Pos)(y:((Str × Pos) × (Str × Nat × Pos) × Pos) × PE × Pos)(z:Nat × Pos):PE:=.Tuple [.Subscript (.Name x.1 x.2.1) x.2.2.1 x.2.2.2,.Subscript (skE y.1) y.2.1 y.2.2] z.1 z.2
noncomputable def dAT(s:Stmt):Option { w:(Str × Pos × PE × Pos) × (((Str × Pos) × (Str × Nat × Pos) × Pos) × PE × Pos) × (Nat × Pos) × PE × Pos // s=.Assign [atE w.1 w.2.1 w.2.2.1] w.2.2.2.1 w.2.2.2.2 } :=
 (kH s).bind fun a=>(iN a.1.1).bind fun t=>(jU t.1).bind fun es=>(aQh es.1.1).bind fun b=>(nO b.1.1).bind fun v1=>(bW v1.1.1).bind fun y=>(nO b.1.2).bind fun v2=>(dSK v2.1.1).bind fun v3=>some ⟨((y.1.1,y.1.2,v1.1.2.1,v1.1.2.2),(v3.1,v2.1.2.1,v2.1.2.2),(es.1.2.1,es.1.2.2),a.1.2.1,a.1.2.2),a.2.trans (congrArg (PySem.Stmt.Assign · a.1.2.1 a.1.2.2) (t.2.trans (congrArg (fun x=>[x]) (es.2.trans (congrArg (PySem.Expr.Tuple · es.1.2.1 es.1.2.2) (b.2.trans (bAd (v1.2.trans (congrArg (PySem.Expr.Subscript · v1.1.2.1 v1.1.2.2) y.2)) (v2.2.trans (congrArg (PySem.Expr.Subscript · v2.1.2.1 v2.1.2.2) v3.2)))))))))⟩
noncomputable def aWf(s:S):Option { w:Nat × X × X × X × X // s=.letE w.1 w.2.1 w.2.2.1 w.2.2.2.1 w.2.2.2.2 }:=if h:s.ctorIdx=11 then S.letE.elim (motive_1:=fun s=>Option { w:Nat × X × X × X × X // s=.letE w.1 w.2.1 w.2.2.1 w.2.2.2.1 w.2.2.2.2 }) s h (fun i e g n m=>some ⟨(i,e,g,n,m),rfl⟩) else none
noncomputable def xW(c:Ck)(q:Nat × X × X × X × X)(l:List Stmt)(f:List Stmt→Bool):Bool :=
 oS (cE l) fun l1=>oS (dAN l1.1) fun a=>oS (cE l1.2) fun l2=>oS (dAS l2.1) fun b=>oS (cE l2.2) fun l3=>oS (dAT l3.1) fun d =>
 ((aAa c a.1 q.1&&(!(a.1==("__debug__":Str)) && !(a.1==("__classdict__":Str))))&&(isF q.2.1&&(bG P g q.2.1 c a.2.2.1&&swB c a.2.2.1 (some (.Name a.1 a.2.1)) a.2.2.2.line false))) &&
 (((b.1.1.1==a.1&&b.1.2.1.1==("":Str))&&(isF q.2.2.1&&(bG P g q.2.2.1 c b.2.1&&swB c b.2.1 (some (.Subscript (.Name b.1.1.1 b.1.1.2) (.Constant (.str b.1.2.1.1) b.1.2.1.2.1 b.1.2.1.2.2) b.1.2.2)) b.2.2.line false))) &&
 (((d.1.1==a.1&&(d.2.1.1.1.1==a.1&&d.2.1.1.2.1.1==("":Str)))&&(bG P g q.2.2.2.1 c d.1.2.2.1&&(bG P g q.2.2.2.1 c d.2.1.2.1&&(bG P g q.2.2.2.2 c d.2.2.2.1&&(swB c d.2.2.2.1 (some (atE d.1 d.2.1 d.2.2.1)) d.2.2.2.2.line false&&oS (qT (swappedStores [atE d.1 d.2.1 d.2.2.1] d.2.2.2.1 (aCx c))) fun r=>r==none)))))&&f l3.2))
mutual
noncomputable def aXk:S→Ck→Stmt→Bool
 | .raise,c,s=>true
 | .letE ..,c,s=>false
 | .ret x,c,s=>oS (aMc s) fun w=>bG P g x c w.1
 | .expr x,c,s=>oS (aFp s) fun w=>swB c w.1 none w.2.line false&&bG P g x c w.1
 | .ite x a b,c,s=>oS (aZl s) fun w=>bG P g x c w.1&&(kD a c w.2.1&&kD b c w.2.2.1)
 | .while_ x b,c,s=>oS (aVw s) fun w=>w.2.2.1.isEmpty&&(bG P g x c w.1&&kD b c w.2.1)
 | .for_ tg src b,c,s=>oS (yL s) fun w=>(w.2.2.2.1.isEmpty&&(aFt w.2.1&&aGr c tg w.1))&&(zI P g src c w.1 w.2.1&&kD b c w.2.2.1)
 | .mth m o x,c,s=>oS (aFp s) fun w=>oS (bP w.1) fun v=>oS (iM v.1) fun a=>oS (iN v.2.1) fun e=>(a.2.1==aZn m&&(aZ a.1&&(a.2.2.endLine==v.2.2.line && !isStarred e)))&&(bG P g o c a.1&&bG P g x c e)
 | .asgT is x,c,s=>oS (kH s) fun w=>oS (iN w.1) fun t=>oS (jU t) fun es=>(vZ c is es.1&&(swB c w.2.1 (some t) w.2.2.line false&&oS (qT (swappedStores [t] w.2.1 (aCx c))) fun r=>r==none))&&bG P g x c w.2.1
 | .asgTs b is xs,c,s=>oS (kH s) fun w=>oS (iN w.1) fun t=>oS (jU t) fun es=>oS (jU w.2.1) fun vs=>(decide (xs.length≤1000)&&(swB c w.2.1 (some t) w.2.2.line false&&oS (qT (swappedStores [t] w.2.1 (aCx c))) fun r=>match b with
   | false=>r==none&&vZ c is es.1
   | true=>oB r fun ns=>aDz c is.reverse ns.reverse))&&eO P g xs c vs.1
 | .asg t x,c,s=>oS (kH s) fun w=>aYu P g c x w.1 w.2.1 w.2.2.line t
 | .asgM ts x,c,s=>oS (kH s) fun w=>oS (iN w.1) fun t=>oS (jU t) fun es=>(aHv P g c ts es.1&&(swB c w.2.1 (some t) w.2.2.line false&&oS (qT (swappedStores [t] w.2.1 (aCx c))) fun r=>r==none))&&bG P g x c w.2.1
noncomputable def kD:List S→Ck→List Stmt→Bool
 | [],c,l=>l.isEmpty
 | s::ss,c,l=>(oS (aWf s) fun q=>xW P g c q l fun r=>kD ss c r) || oS (cE l) fun w=>aXk s c w.1&&kD ss c w.2
end
end
end
theorem iI{c:Ck}{e:PE}{t:Option PE}{l:Nat}{r:Bool}(h:swB c e t l r=true)(env:bA)(he:env.scope=c.sc):swapsWith e t l env=pure r:=aD h fun a w k=>by
 refine rwT (aG k) ?_
 refine Eq.trans ?_ w
 delta swapsWith Env.blockKind Env.kindOf
 refine rwS he ?_; rfl
theorem wC{c:Ck}{ts:List PE}{e:PE}{r:Option (List Str)}(h:swappedStores ts e (aCx c)=.pure r)(env:bA)(he:env.scope=c.sc):swappedStores ts e env=pure r:=by
 refine Eq.trans ?_ h
 delta swappedStores Env.blockKind Env.kindOf
 refine rwS he ?_; rfl
section
variable{B:Bd}{u:Nat}{g:Gt}{c:Ck}
theorem aIa(h:Hs B u g){C:C}{e:PE}(k:bG B.P g (.comp C) c e=true):∃(elt:PE) (sc:Scope) (p:Pos) (tg:Tg) (src:Src) (ifs:List X) (r:Mine.Internal.C) (target iter:PE) (ifsE:List PE) (rest:List cW) (nm:List (Str × Nat)),
  e=.ListComp elt (⟨target,iter,ifsE,0⟩::rest) sc p∧C=.gen tg src ifs r∧CpOk c sc nm (tg.slots++r.slots)∧TSr B u c target src iter∧(∀env x,foldedSetIterable iter env x=pure x)∧jC B u ⟨nm,mC sc c.sc,uN sc⟩ tg ifs r target elt ifsE rest:=by
 refine nnG fun nG=>?_; obtain⟨⟨elt,gens,sc,p⟩,he,k⟩:=kW (o:=aGq e) k
 refine nG ?_; have r:=aSv h C c _ elt gens (aA k)
 cases C with
 | elt x=>exact nomatch r.1▸aA (aB k)
 | gen tg src ifs r'=>obtain⟨target,iter,ifsE,rest,rfl,h1,h2,h3⟩:=r; exact⟨elt,sc,p,tg,src,ifs,r',target,iter,ifsE,rest,_,he,rfl,(aIn (aB (aB k))),h1,h2,h3⟩
theorem bAc(h:Hs B u g){x:X}{ts:List PE}{e:PE}{pos:Pos}{t:Tgt}(k:aYu B.P g c x ts e pos.line t=true):TS B u c (.asg t x) (fun env=>exec (.Assign ts e pos) env):=by
 have ke:=aB k
 refine e12 (kW (aA k)) fun t0 h0 k=>?_
 refine rwS (show ts=[t0] from h0) ?_
 cases t with
 | name i =>
  refine e12 (kW k) fun y hy k=>?_
  have hn:=jJ (aB k)
  rcases Bool.or_eq_true_iff.mp (aA k) with k3 | k3
  ·rw[show t0=.Name y.1 y.2 from hy]at k3 ⊢
   exact aJn hn (bC h x c e ke).1 (iI k3)
  ·have k4:=aA k3
   have go:∀C,bG B.P g (.comp C) c e=true→TS B u c (.asg (.name i) (.comp C)) (fun env=>exec (.Assign [t0] e pos) env)∧TS B u c (.asg (.name i) (.mut (.comp C))) (fun env=>exec (.Assign [t0] e pos) env):=fun C k=>by
    refine nnG fun nG=>?_; obtain⟨elt,sc,p,tg,src,ifs,r,target,iter,ifsE,rest,nm,h1,h2,h3,h4,h5,h6⟩:=aIa h k
    refine nG ?_; rw[show t0=.Name y.1 y.2 from hy,h1]at k4
    refine rwS (show t0=.Name y.1 y.2 from hy) (rwS h1 (rwS h2 ?_))
    exact aFo hn h3 h4 h5 h6 (iI k4)
   rcases Bool.or_eq_true_iff.mp (aB k3) with k5 | k5
   ·refine e1 (Option.isSome_iff_exists.mp k5) fun C _=>?_
    rw[C.2]at ke ⊢
    exact(go C.1 ke).1
   ·refine e1 (Option.isSome_iff_exists.mp k5) fun C _=>?_
    rw[C.2]at ke ⊢
    exact(go C.1 (aA ke)).2
 | attr o f =>
  refine e12 (kW k) fun a ha k=>?_
  have k1:=aB (aB k)
  have k3:=aA (aB k)
  rw[show t0=.Attribute a.1 a.2.1 a.2.2 from ha]at k3 ⊢
  exact aMt h.F (List.contains_iff_mem.mp (aB k1)) (aB (aA k1)) (aG (aA (aA k1))) (bC h x c e ke).1 (bC h o c a.1 (aA k)).1 (iI k3)
 | item o j =>
  refine e12 (kW k) fun a ha k=>?_
  have k3:=aB k
  rw[show t0=.Subscript a.1 a.2.1 a.2.2 from ha]at k3 ⊢
  exact aNr (Nat.le_trans (by decide) h.hu) (bC h x c e ke).1 (bC h o c a.1 (aB (aA k))).1 (bC h j c a.2.1 (aA (aA k))).1 (iI k3)
theorem bBe(h:Hs B u g){t:Tgt}{t0:PE}(k:aWz B.P g c t t0=true):TSt B u c t t0:=by
 cases t with
 | name i=>exact aD (o:=bW t0) k fun y e k=>e▸aJp (jJ k)
 | attr o f=>exact aD (o:=iM t0) k fun a e k=>have k1:=aB k; e▸aLt h.F (List.contains_iff_mem.mp (aB k1)) (aB (aA k1)) (aG (aA (aA k1))) (bC h o c a.1 (aA k)).1
 | item o j=>exact aD (o:=nO t0) k fun a e k=>e▸aLk (Nat.le_trans (by decide) h.hu) (bC h o c a.1 (aB k)).1 (bC h j c a.2.1 (aA k)).1
theorem aOx(h:Hs B u g):∀{ts:List Tgt} {es:List PE},aHv B.P g c ts es=true→All2 (TSt B u c) ts es
 | [],es,k=>List.isEmpty_iff.mp k▸.nil
 | t::ts,es,k=>aD (o:=cE es) k fun w e k=>e▸.cons (bBe h (aB k)) (aOx h (aA k))
theorem aJo(h:Hs B u g){m:Mth}{y x:X}{o e:PE}{apos cpos pos:Pos}(hb:aZ o=true)(hl:(apos.endLine==cpos.line)=true)(hst:isStarred e=false)(h1:TE B u c y (fun env=>eval o env))(h2:TE B u c x (fun env=>eval e env)) :
  TS B u c (.mth m y x) (fun env=>exec (.Expr (.Call (.Attribute o (aZn m) apos) [e] [] cpos) pos) env):=by
 cases m with
 | app=>exact tM aRy PySem.F.plainAttrs_list PySem.F.slot_list_append PySem.F.type_list_append hb hl hst h1 h2
 | ext=>exact tM aSb PySem.F.plainAttrs_list PySem.F.slot_list_extend PySem.F.type_list_extend hb hl hst h1 h2
 | upd=>exact tM aQi PySem.F.plainAttrs_dict PySem.F.slot_dict_update PySem.F.type_dict_update hb hl hst h1 h2
 | rem=>exact tM aUq PySem.F.plainAttrs_list PySem.F.slot_list_remove PySem.F.type_list_remove hb hl hst h1 h2
theorem aKn(h:Hs B u g){q:Nat × X × X × X × X}{l:List Stmt}{f:List Stmt→Bool}{xs:List S}(k:xW B.P g c q l f=true)(h2:∀r,f r=true→TSs B u c xs (fun env=>execs r env)):TSs B u c (.letE q.1 q.2.1 q.2.2.1 q.2.2.2.1 q.2.2.2.2::xs) (fun env=>execs l env):=by
 delta xW at k
 exact aD k fun l1 e1 k=>aD k fun a ea k=>aD k fun l2 e2 k=>aD k fun b eb k=>aD k fun l3 e3 k=>aD k fun d ed k=>by
  have k1:=aB k
  have k2:=aB (aA k)
  have k3:=aB (aA (aA k))
  have k6:=aA k3
  have w2:=iI (aA (aA (aA k2)))
  have w3:=iI (aB (aA (aA (aA k6))))
  have w4:=aD (aA (aA (aA (aA k6)))) fun r hr k2 env he=>(aG k2▸wC hr env he:swappedStores [atE d.1 d.2.1 d.2.2.1] d.2.2.2.1 env=pure none)
  rw[aG (aB (aB k2)),aG (aA (aB k2))]at w2
  refine rwS e1 (rwS ea (rwS e2 (rwS eb (rwS e3 (rwS ed ?_)))))
  delta atE skE at w3 w4 ⊢
  rw[aG (aB (aB k3)),aG (aB (aA (aB k3))),aG (aA (aA (aB k3)))]at w3 w4 ⊢
  refine rwS (aG (aB (aB k2))) (rwS (aG (aA (aB k2))) ?_)
  exact aFg (pf:=d.2.2.2.2) (jJ (aB (aB k1))) (bE (aB (aA (aB k1)))) (bE (aA (aA (aB k1)))) ((bC h _ c _ (aB (aA (aA k1)))).2.2 (aB (aA k1))) ((bC h _ c _ (aB (aA (aA k2)))).2.2 (aB (aA k2))) (bC h _ c _ (aB (aA (aA k6)))).1 (bC h _ c _ (aB k6)).1 (bC h _ c _ (aB (aA k6))).1
   (iI (aA (aA (aA k1)))) w2 w3 w4 (h2 _ (aA (aA (aA k))))
mutual
theorem bCc(h:Hs B u g):∀(x:S) (s:Stmt),aXk B.P g x c s=true→TS B u c x (fun env=>exec s env)
 | .raise,s,k=>aHp
 | .letE ..,s,k=>absurd k Bool.false_ne_true
 | .ret x,s,k=>aD (o:=aMc s) k fun w e k=>e▸aUt (bC h x c w.1 k).1
 | .expr x,s,k=>aD (o:=aFp s) k fun w e k=>e▸aKe (bC h x c w.1 (aA k)).1 (iI (aB k))
 | .ite x a b,s,k=>aD (o:=aZl s) k fun w e k=>e▸aSu (bC h x c w.1 (aB k)).2.1 (nC h a w.2.1 (aB (aA k))) (nC h b w.2.2.1 (aA (aA k)))
 | .while_ x b,s,k=>aD (o:=aVw s) k fun w e k=>e▸List.isEmpty_iff.mp (aB k)▸aHf (bC h x c w.1 (aB (aA k))).2.1 (nC h b w.2.1 (aA (aA k)))
 | .for_ tg src b,s,k=>aD (o:=yL s) k fun w e k=>e▸List.isEmpty_iff.mp (aB (aB k))▸aTk (aEc h src c w.1 w.2.1 (aB (aA k))) (wM (aB (aA (aB k)))) (wO (aA (aA (aB k)))) (nC h b w.2.2.1 (aA (aA k)))
 | .mth m o x,s,k=>aD (o:=aFp s) k fun w e k=>aD k fun v e1 k=>aD k fun a e2 k=>aD k fun f e3 k=>by
  have k1:=aB k
  refine rwS e (rwS e1 (rwS e2 (rwS e3 (rwS (aG (aB k1)) ?_))))
  exact aJo h (aB (aA k1)) (aB (aA (aA k1))) (bE (aA (aA (aA k1)))) (bC h o c a.1 (aB (aA k))).1 (bC h x c f (aA (aA k))).1
 | .asgT is x,s,k=>aD (o:=kH s) k fun w e k=>aD k fun t e1 k=>aD k fun es e2 k=>aD (aA (aA (aB k))) fun r hr k2=>by
  have k1:=aB (aA (aB k))
  rw[e2]at k1 hr
  refine rwS e (rwS e1 (rwS e2 ?_))
  exact aMi (lK (aB (aB k))) (bC h x c w.2.1 (aA k)).1 (iI k1) fun env he=>aG k2▸wC hr env he
 | .asgTs b is xs,s,k=>aD (o:=kH s) k fun w e k=>aD k fun t e1 k=>aD k fun es e2 k=>aD k fun vs e3 k=>aD (aA (aA (aB k))) fun r hr k2=>by
  have k1:=aB (aA (aB k))
  rw[e2,e3]at k1 hr
  refine rwS e (rwS e1 (rwS e2 (rwS e3 ?_)))
  cases b with
  | false=>exact vE (names:=[]) (lK (aA k2)) ((dE h xs c vs.1 (aA k)).tes _) (of_decide_eq_true (aB (aB k))) (iI k1) fun env he=>aG (aB k2)▸wC hr env he
  | true=>cases r with
   | none=>exact(nob k2)
   | some ns=>exact vE (wY k2) ((dE h xs c vs.1 (aA k)).tes _) (of_decide_eq_true (aB (aB k))) (iI k1) fun env he=>wC hr env he
 | .asg t x,s,k=>aD (o:=kH s) k fun w e k=>e▸bAc h k
 | .asgM ts x,s,k=>aD (o:=kH s) k fun w e k=>aD k fun t e1 k=>aD k fun es e2 k=>aD (aA (aA (aB k))) fun r hr k2=>by
  have k1:=aB (aA (aB k))
  rw[e2]at k1 hr
  refine rwS e (rwS e1 (rwS e2 ?_))
  exact aLo (aOx h (aB (aB k))) (bC h x c w.2.1 (aA k)).1 (iI k1) fun env he=>aG k2▸wC hr env he
theorem nC(h:Hs B u g):∀(xs:List S) (l:List Stmt),kD B.P g xs c l=true→TSs B u c xs (fun env=>execs l env)
 | [],l,k=>List.isEmpty_iff.mp k▸aKb
 | s::ss,l,k=>(Bool.or_eq_true_iff.mp k).elim (fun k=>aD (o:=aWf s) k fun q e k=>e▸aKn h k fun r=>nC h ss r) fun k=>aD (o:=cE l) k fun w e k=>e▸aFx (bCc h s w.1 (aB k)) (nC h ss w.2 (aA k))
end
end
noncomputable section
noncomputable def oE{α:Type}(o:Option α):Option { a:α // o=some a }:=match o with
 | some a=>some ⟨a,rfl⟩
 | none=>none
noncomputable def aWe(d:Data):Option { f:FuncData // d=.func f }:=if h:d.ctorIdx=7 then PySem.Data.func.elim (motive:=fun d=>Option { f:FuncData // d=.func f }) d h (fun f=>some ⟨f,rfl⟩) else none
noncomputable def aVp(b:FuncBody):Option { l:List Stmt // b=.stmts l }:=match b with
 | .stmts l=>some ⟨l,rfl⟩
 | _=>none
noncomputable def aZi(P:Prog)(g:Gt)(names:List (Str × Nat))(d:FDef)(fd:FuncData):Bool:=oS (aVp fd.body) fun body =>
 (fd.closure.isEmpty&&(decide (fd.globals=mainGlobals)&&(decide (fd.builtins=builtinsNs)&&(!fd.scope.isCoroutine&&(!fd.scope.isGenerator&&(fd.scope.kind == .function&&((fd.scope.names.all fun x=>x.2 != .free)&&decide (fd.scope.names.map (·.1)).Nodup))))))) &&
 ((fd.params.posonlyargs.isEmpty&&(fd.params.kwonlyargs.isEmpty&&(fd.params.vararg.isNone&&(fd.params.kwarg.isNone&&(decide (fd.defaults=.none) &&
 (decide (fd.params.args.length=d.params)&&(decide (fd.params.args.map (·.arg)).Nodup&&(((fd.params.args.map (·.arg)).all fun x=>fd.scope.names.lookup x==some .local || fd.scope.names.lookup x==some .cell) &&
 (names.all fun q=>decide (d.params≤q.2) || (fd.params.args.map (·.arg))[q.2]? == some q.1)))))))))&&kD P g d.body ⟨names,fd.scope,eD⟩ body)
noncomputable def aPo(P:Prog)(g:Gt)(K:Frag)(names:List (Str × Nat))(a:Addr)(d:FDef):Bool:=oS (oE (K.lookup a)) fun o=>oS (aWe o.data) fun fd=>codeIn K fd.code fd.qualname&&aZi P g names d fd
end
theorem pV{β:Type}:∀{ns:List Str} {vs:List β} (n:Str),n∈ns→vs.length=ns.length→((ns.zip vs).lookup n).isSome=true
 | x::ns,v::vs,n,h,hl=>by
  refine rwS List.zip_cons_cons (rwS List.lookup_cons ?_)
  cases e:n==x with
  | true=>rfl
  | false=>exact pV n ((List.mem_cons.mp h).elim (fun h=>absurd h (beq_eq_false_iff_ne.mp e)) id) (Nat.succ.inj hl)
theorem rX{α β:Type}{f g:α→Option β}:∀{l:List α},(∀x∈l,f x=g x)→l.filterMap f=l.filterMap g
 | [],_=>rfl
 | x::l,h=>by exact rwS List.filterMap_cons (rwS List.filterMap_cons (rwS (h x (List.mem_cons_self ..)) (rwS (rX fun y hy=>h y (List.mem_cons_of_mem _ hy)) rfl)))
theorem pJ{β:Type}:∀{ns:List Str} {vs:List β},ns.Nodup→vs.length=ns.length→(ns.filterMap fun n=>((ns.zip vs).lookup n).map (n,·))=ns.zip vs
 | [],[],_,_=>rfl
 | x::ns,v::vs,hn,hl=>by
  refine rwS List.zip_cons_cons (rwS List.filterMap_cons (rwS List.lookup_cons (rwS BEq.rfl ?_)))
  refine congrArg ((x,v)::·) (Eq.trans (rX fun y hy=>?_) (pJ (List.nodup_cons.mp hn).2 (Nat.succ.inj hl)))
  exact rwS List.lookup_cons (rwS (show (y==x)=false from beq_eq_false_iff_ne.mpr fun e=>(List.nodup_cons.mp hn).1 (e▸hy)) rfl)
theorem aIh{name qual:Str}{ar:List Arg}{ka:List (Option PE)}{dfl:List PE}{bd:FuncBody}{sc:Scope}{gl:Addr}{cl:List (Str × Addr)}{kd doc pm code ct:PV}{an:Option Addr}{bi:Addr}(hn:(ar.map (·.arg)).Nodup){vals:List PV}(hl:vals.length=(ar.map (·.arg)).length) :
  bindArgs ⟨name,qual,⟨[],ar,none,[],ka,none,dfl⟩,bd,sc,gl,cl,.none,kd,doc,pm,an,code,ct,bi⟩ ⟨vals,[]⟩=pure ((ar.map (·.arg)).zip vals):=by
 have e1:(decide (vals.length > (ar.map (·.arg)).length)&&true)=true→False:=by rw[hl,Bool.and_true]; exact fun h=>Nat.lt_irrefl _ (of_decide_eq_true h)
 have hm:((ar.map (·.arg)).filter fun n=>(((ar.map (·.arg)).zip vals).lookup n).isNone)=[]:=List.filter_eq_nil_iff.mpr fun n h e=>nomatch (Option.isNone_iff_eq_none.mp e▸pV n h hl:(none:Option PV).isSome=true)
 have e2:∀k,(!(((ar.map (·.arg)).take ((ar.map (·.arg)).length - (List.drop k ([]:List PV)).length)).filter fun n=>(((ar.map (·.arg)).zip vals).lookup n).isNone).isEmpty)=true→False:=fun k=>by
  rw[List.drop_nil,List.length_nil,Nat.sub_zero,List.take_length,hm]; exact Bool.false_ne_true
 have e3:∀(l:List Str) (k:Nat),l.zip (List.drop k ([]:List PV))=[]:=fun l k=>by exact rwS List.drop_nil (rwS List.zip_nil_right rfl)
 refine Eq.trans (if_neg e1) (Eq.trans (if_neg (e2 _)) ?_)
 show (forIn (List.zip (List.drop _ _) (List.drop _ ([]:List PV))) _ _ >>= _)=_
 rw[e3]
 exact congrArg (Sem.pure (α:=List (Str × PV))) ((congrArg (List.filterMap fun n=>(((ar.map (·.arg)).zip vals).lookup n).map (n,·)) (List.append_nil (ar.map (·.arg)))).trans (pJ hn hl))
theorem aBq{fd:FuncData}(h1:fd.params.posonlyargs=[])(h2:fd.params.kwonlyargs=[])(h3:fd.params.vararg=none)(h4:fd.params.kwarg=none)(h5:fd.defaults=.none)
  (hn:(fd.params.args.map (·.arg)).Nodup) {vals:List PV} (hl:vals.length=fd.params.args.length):bindArgs fd ⟨vals,[]⟩=pure ((fd.params.args.map (·.arg)).zip vals):=by
 obtain⟨_,_,⟨po,ar,va,ko,_,kw,_⟩,_,_,_,_,df,_,_,_,_,_,_,_⟩:=fd
 subst h1 h2 h3 h4 h5
 exact aIh hn (hl.trans (List.length_map ..).symm)
section
variable{B:Bd}{u:Nat}{g:Gt}
theorem aYd(h:Hs B u g)(hu:u≤90){f:Nat}{d:FDef}{names:List (Str × Nat)}(k:aPo B.P g B.D.K names (B.D.fa f) d=true):aCr B f d:=by
 refine e12 (kW k) fun o ho k=>?_
 refine e12 (kW k) fun fd hd k=>?_
 refine e12 (kW (aA k)) fun body hb k2=>?_
 have a:=aB k2
 have b:=aB (aA k2)
 have a3:=aA (aA (aA a))
 have b3:=aA (aA (aA b))
 have b6:=aA (aA b3)
 have pl:fd.params.args.length=d.params:=of_decide_eq_true (aB b6)
 have pn:(fd.params.args.map (·.arg)).Nodup:=of_decide_eq_true (aB (aA b6))
 exact aNy h.F (u:=u) (names:=names) (ps:=fd.params.args.map (·.arg)) (fd:=fd) (body:=body) ⟨hu,⟨o,ho,hd⟩,aB k,hb,List.isEmpty_iff.mp (aB a),of_decide_eq_true (aB (aA a)),of_decide_eq_true (aB (aA (aA a))),bE (aB a3),bE (aB (aA a3)),aG (aB (aA (aA a3))),
  fun x e=>absurd rfl (bne_iff_ne.mp ((List.all_eq_true.mp (aB (aA (aA (aA a3))))) _ (aC e))),of_decide_eq_true (aA (aA (aA (aA a3)))),by rw[List.length_map,pl],pn,fun x hx=>(Bool.or_eq_true_iff.mp ((List.all_eq_true.mp (aB (aA (aA b6)))) x hx)).imp aG aG,
  fun vals hv=>aBq (List.isEmpty_iff.mp (aB b)) (List.isEmpty_iff.mp (aB (aA b))) (Option.isNone_iff_eq_none.mp (aB (aA (aA b)))) (Option.isNone_iff_eq_none.mp (aB b3)) (of_decide_eq_true (aB (aA b3))) pn (by exact rwS hv (rwS pl rfl)),
  fun x i e=>(Bool.or_eq_true_iff.mp ((List.all_eq_true.mp (aA (aA (aA b6)))) _ (aC e))).imp of_decide_eq_true aG,nC h d.body body (aA (aA k2))⟩
end
noncomputable section
noncomputable def aXh(K:Frag)(C:Addr):Bool :=
 findIn K (.ref C) "__getattribute__" == some (some (.builtin "object.__getattribute__"))&&(findIn K (.ref C) "__getattr__" == some none&&(findIn K (.ref C) "__setattr__" == some (some (.builtin "object.__setattr__")) &&
  (plainOver K C&&((clsIn K C).any (·.hasDict)&&((clsIn K C).isSome&&(makesIn K C&&keepIn K (.ref C)))))))
noncomputable def aPp(K:Frag)(P:Prog)(g:Gt)(fa ca:Nat→Addr)(nc:Nat)(live:List Nat):Bool :=
 (g.fns.all fun p=>nsIn K mainGlobals p.1==some (some (.ref (fa p.2))))&&((live.all fun i=>keepIn K (.ref (fa i)))&&((g.clss.all fun p=>nsIn K mainGlobals p.1==some (some (.ref (ca p.2)))&&decide (p.2<nc)) &&
 (((List.range nc).all fun i=>aXh K (ca i))&&((g.flds.all fun x=>(List.range nc).all fun i=>aAi K (ca i) x) &&
 ((g.mths.all fun x=>(List.range nc).all fun i=>(P.meth i (aL x)).all fun f=>findIn K (.ref (ca i)) x==some (some (.ref (fa f)))&&(typeIn K (.ref (fa f))==some (.type "function")&&(P.fn f).isSome)) &&
 ((List.range nc).all fun i=>(P.init i).all fun f=>findIn K (.ref (ca i)) "__init__" == some (some (.ref (fa f)))&&typeIn K (.ref (fa f))==some (.type "function")))))))
noncomputable def aSl(v:PV):Option { a:Addr // v=.ref a }:=if h:v.ctorIdx=10 then PySem.Value.ref.elim (motive:=fun v=>Option { a:Addr // v=.ref a }) v h (fun a=>some ⟨a,rfl⟩) else none
noncomputable def aWg(v:PV):Option { w:Int × Tok // v=.int w.1 w.2 }:=if h:v.ctorIdx=4 then PySem.Value.int.elim (motive:=fun v=>Option { w:Int × Tok // v=.int w.1 w.2 }) v h (fun i t=>some ⟨(i,t),rfl⟩) else none
noncomputable def aVl(v:PV):Option { w:Str × Tok // v=.str w.1 w.2 }:=if h:v.ctorIdx=6 then PySem.Value.str.elim (motive:=fun v=>Option { w:Str × Tok // v=.str w.1 w.2 }) v h (fun i t=>some ⟨(i,t),rfl⟩) else none
noncomputable def bBj(d:Data):Option { w:Array PV × Nat // d=.seq w.1 w.2 }:=if h:d.ctorIdx=2 then PySem.Data.seq.elim (motive:=fun d=>Option { w:Array PV × Nat // d=.seq w.1 w.2 }) d h (fun a n=>some ⟨(a,n),rfl⟩) else none
mutual
noncomputable def rvB(K:Frag):V→PV→Bool
 | .none,v=>v == .none
 | .bool b,v=>v == .bool b
 | .int i,v=>oS (aWg v) fun w=>decide (w.1=i)
 | .str z,v=>oS (aVl v) fun w=>strOk w.1&&aL w.1==z
 | .tup l,v=>oS (aSl v) fun a=>oS (oE (K.lookup a)) fun o=>oS (bBj o.data) fun w=>(o.cls == .type "tuple" && (o.dict.isNone&&o.slots.isEmpty))&&aUv K l w.1.toList
 | _,_=>false
noncomputable def aUv(K:Frag):List V→List PV→Bool
 | [],vs=>vs.isEmpty
 | d::r,vs=>oS (cE vs) fun w=>rvB K d w.1&&aUv K r w.2
end
end
theorem aLr{K:Frag}{C:Addr}(h:aXh K C=true):ClsOk K C:=by
 have h3:=aA (aA (aA h))
 exact⟨aG (aB h),aG (aB (aA h)),aG (aB (aA (aA h))),aB h3,aB (aA h3),aB (aA (aA h3)),aB (aA (aA (aA h3))),aA (aA (aA (aA h3)))⟩
theorem aEe{B:Bd}{g:Gt}{live:List Nat}(X:B.D.K.In B.D.base)(lim:B.D.base.NoLimit)(hl:∀i,(B.P.fn i).isSome=true→i∈live)(hm:∀i k f,B.P.meth i k=some f→i<B.D.nc)
  (k:aPp B.D.K B.P g B.D.fa B.D.ca B.D.nc live=true) (co:∀x k,g.consts.lookup x=some k→∀d,B.P.glob k=some d→∃v,nsIn B.D.K mainGlobals x=some (some v)∧∀N,Sm B.D N→Val B N d v):Facts B g:=by
 have k3:=aA (aA (aA k))
 have al:∀{α:Type} {l:List α} {f:α→Bool},l.all f=true→∀a∈l,f a=true:=fun h=>List.all_eq_true.mp h
 have alo:∀{o:Option Nat} {f:Nat→Bool},o.all f=true→∀a,o=some a→f a=true:=fun h a e=>by subst e; exact h
 exact⟨X,lim,fun x i h=>aG (al (aB k) _ (aC h)),fun i h=>al (aB (aA k)) i (hl i h),fun x i h=>have w:=al (aB (aA (aA k))) _ (aC h); ⟨aG (aB w),of_decide_eq_true (aA w)⟩,
  fun i h=>aLr (al (aB k3) i (List.mem_range.mpr h)),fun x hx i hi=>al (al (aB (aA k3)) x hx) i (List.mem_range.mpr hi),
  fun x hx i f hf=>have hi:=hm i _ f hf
   have w:=alo (al (al (aB (aA (aA k3))) x hx) i (List.mem_range.mpr hi)) f hf
   ⟨hi,aG (aB w),aG (aB (aA w)),aA (aA w)⟩,
  fun i f hf hi=>have w:=alo (al (aA (aA (aA k3))) i (List.mem_range.mpr hi)) f hf
   ⟨aG (aB w),aG (aA w)⟩,co⟩
section
variable{D:Wd}{N:Nx}
mutual
theorem yS(X:D.K.In D.base)(m:Sm D N):∀(d:V) (v:PV),rvB D.K d v=true→RV D N d v
 | .none,v,e=>aG e
 | .bool b,v,e=>aG e
 | .int i,v,e=>aD (o:=aWg v) e fun w h e=>⟨w.2,of_decide_eq_true e▸h⟩
 | .str z,v,e=>aD (o:=aVl v) e fun w h e=>⟨w.1,w.2,h,aB e,aG (aA e)⟩
 | .tup l,v,e=>aD (o:=aSl v) e fun a h e=>aD e fun o ho e=>aD e fun w hw e=>by
  have e1:=aB e
  refine⟨a,w.1,h,m.cs a (by refine rwS ((X a o ho)) ?_; rfl),⟨w.2,(m.gi a o (X a o ho)).trans (congrArg some ?_)⟩,aBn X m l _ (aA e)⟩
  obtain⟨c,d,dt,sl⟩:=o
  exact rwS (show c=.type "tuple" from aG (aB e1)) (rwS (show d=none from Option.isNone_iff_eq_none.mp (aB (aA e1))) (rwS (show dt=.seq w.1 w.2 from hw) (rwS (show sl=#[] from Array.isEmpty_iff.mp (aA (aA e1))) rfl)))
 | .list _,v,e=>absurd e Bool.false_ne_true
 | .dict _,v,e=>absurd e Bool.false_ne_true
 | .loc _,v,e=>absurd e Bool.false_ne_true
theorem aBn(X:D.K.In D.base)(m:Sm D N):∀(d:List V) (v:List PV),aUv D.K d v=true→RVs D N d v
 | [],v,e=>List.isEmpty_iff.mp e
 | d::r,v,e=>aD (o:=cE v) e fun w h e=>⟨w.1,w.2,h,yS X m d _ (aB e),aBn X m r _ (aA e)⟩
end
noncomputable def aNd(p:Params)(ts:List (Str × Tok × PV)):List DictEntry:=ts.map fun t=>⟨PyData.keyHash p t.1,.str t.1 t.2.1,t.2.2⟩
noncomputable def aMu(K:Frag)(l:List (Nat × V))(ts:List (Str × Tok × PV)):Bool:=ts.length==l.length&&(l.zip ts).all fun q=>strOk q.2.1&&(aL q.2.1==q.1.1&&rvB K q.1.2 q.2.2.2)
theorem aAt(X:D.K.In D.base)(m:Sm D N):∀(l:List (Nat × V)) (ts:List (Str × Tok × PV)),aMu D.K l ts=true→RVd D N (l.map fun q=>(.str q.1,q.2)) (ts.map fun t=>(t.1,t.2.2))
 | [],[],e=>rfl
 | [],_::_,e=>nomatch aB e
 | _::_,[],e=>nomatch aB e
 | q::l,t::ts,e=>have w:=aA e
  ⟨t.1,t.2.2,_,rfl,⟨by exact rwS (aG (aB (aA (aB w)))) rfl,aB (aB w)⟩,yS X m q.2 _ (aA (aA (aB w))),aAt X m l ts (by
   show (ts.length==l.length&&_)=true
   refine rwS (show (ts.length==l.length)=true from beq_iff_eq.mpr (Nat.succ.inj (aG (aB e)))) ?_; exact aA w)⟩
theorem vN{p:Params}:∀ts:List (Str × Tok × PV),Pairs (strKind D.prog D.w) (aNd p ts) (ts.map fun t=>(t.1,t.2.2))
 | []=>.nil
 | t::ts=>.cons (strKind_is D.prog D.w t.1 t.2.1) rfl (vN ts)
theorem aAd(X:D.K.In D.base)(m:Sm D N){a n:Nat}{ts:List (Str × Tok × PV)}{l:List (Nat × V)}(ho:D.K.lookup a=some ⟨.type "dict",none,.dict (aNd D.w.params ts).toArray n,#[]⟩)(ha:1<a)(hn:(ts.map (·.1)).Nodup)(e:aMu D.K l ts=true) :
  RV D N (.dict (l.map fun q=>(.str q.1,q.2))) (.ref a):=by
 refine⟨a,ts.map fun t=>(t.1,t.2.2),rfl,m.cs a (by refine rwS (X _ _ ho) ?_; rfl),⟨ha,_,_,_,m.gi a _ (X _ _ ho),⟨rfl,rfl,rfl⟩,rfl,fun en he=>?_,vN ts,by refine rwS List.map_map ?_; exact hn⟩,aAt X m l ts e⟩
 refine e12 (List.mem_map.mp (List.mem_toArray.mp he)) fun t ht e_2=>?_; subst e_2
 exact⟨t.1,strKind_is D.prog D.w t.1 t.2.1,rfl⟩
end
theorem aZc{K:Frag}{mb:Str→Option PV}{h:Heap}{ob:Obj}(hob:h.get? builtinsNs=some ob)(hb:h.Ns builtinsNs mb){x:Str}{v:PV}(e:mb x=some v):nsIn ((builtinsNs,ob)::K) builtinsNs x=some (some v):=by
 refine e34 hb fun o es ep ho hd _ hf=>?_
 rw[hob]at ho
 obtain rfl:=Option.some.inj ho
 have hx:=hf x
 rw[e]at hx
 delta nsFind findBy at hx
 rw[← Array.find?_toList]at hx
 delta nsIn
 refine rwS List.lookup_cons (rwS BEq.rfl ?_)
 obtain⟨oc,od,odt,osl⟩:=ob
 subst hd
 dsimp only
 cases e1:es.toList.find? (fun d=>d.key.isStr x) with
 | some d=>rw[e1]at hx; exact congrArg some hx
 | none=>rw[e1]at hx; exact nos hx
section
variable{B:Bd}{g:Gt}
theorem aQc{K:Frag}{a:Addr}{cd:ClassData}(h:clsIn K a=some cd):∃o,K.lookup a=some o∧o.data=.cls cd:=by
 delta clsIn at h
 cases e:K.lookup a with
 | none=>rw[e]at h; exact nos h
 | some o =>
  rw[e]at h
  cases o with
  | mk c d x l=>cases x with
   | cls y=>exact⟨_,rfl,congrArg Data.cls (Option.some.inj h)⟩
   | _=>exact nos h
theorem aIf{ps:List Str}{f f2 c1:Nat}{d:FDef}{fd:FuncData}{names:List (Str × Nat)}{q0 q1 ap cp pe:Pos}{es:List PE}{rest:List Stmt}{xs:List X}{ss:List S}{cc cda:Addr}{oc ocd:Obj}{ar:Arg}{cd:ClassData}{vs0:Array PV}{file:Str}{tf:Tok}(h:Hs B 40 g)
  (hK:∃o,B.D.K.lookup (B.D.fa f)=some o∧o.data=.func fd) (hcode:codeIn B.D.K fd.code fd.qualname=true) (hb:fd.body=.stmts (.Expr (.Call (.Attribute (.Call (.Name "super" q0) [] [] q1) "__init__" ap) es [] cp) pe::rest))
  (hd:d.body=.expr (.meth (.var 0) 0 xs)::ss) (hln:(ap.endLine==cp.line)=true) (hel:es.length<29) (hes:eO B.P g xs ⟨names,fd.scope,eD⟩ es=true) (hss:kD B.P g ss ⟨names,fd.scope,eD⟩ rest=true) (hclo:fd.closure=[(("__class__":Str),cc)])
  (hgl:fd.globals=mainGlobals) (hbi:fd.builtins=builtinsNs) (hco:fd.scope.isCoroutine=false) (hgen:fd.scope.isGenerator=false) (hk:fd.scope.kind=.function) (hnc:∀x∈fd.scope.names,x.2≠.cell) (hfr:∀x∈fd.scope.names,x.2=.free→x.1=("__class__":Str))
  (hpl:ps.length=d.params) (hpn:ps.Nodup) (hlo:∀x∈ps,fd.scope.names.lookup x=some .local) (hbind:∀vals:List PV,vals.length=d.params→bindArgs fd ⟨vals,[]⟩=pure (ps.zip vals))
  (hpo:fd.params.posonlyargs=[]) (hnm:∀x i,names.lookup x=some i→d.params≤i∨ps[i]?=some x) (har:fd.params.args.head?=some ar) (hmp:ar.arg∈ps) (hv0:names.lookup ar.arg=some 0) (hks:fd.scope.names.lookup ("super":Str)=some .globalImplicit) (hkc:fd.scope.names.lookup ("__class__":Str)=some .free)
  (hm:∀i f',B.P.meth i 0=some f'→i=c1∧f'=f2) (hcc:B.D.K.lookup cc=some oc) (hoc:oc.data=.cell (some (.ref (B.D.ca c1)))) (hcl:clsIn B.D.K (B.D.ca c1)=some cd) (hmro:mroIn B.D.K (B.D.ca c1) (.ref (B.D.ca c1))=some true)
  (hal:alongIn B.D.K "__init__" ((cd.mro.dropWhile (· != .ref (B.D.ca c1))).drop 1)=some (some (.ref (B.D.fa f2)))) (hty:typeIn B.D.K (.ref (B.D.fa f2))=some (.type "function")) (hfn:fnIn B.D.K (B.D.fa f2)=true) (hno:nsIn B.D.K cStatics "thirdparty.any"=some none)
  (hg:nsIn B.D.K mainGlobals "super"=some none) (hbt:nsIn B.D.K builtinsNs "super"=some (some (.type "super"))) (hcd:fd.code=.ref cda) (hcv:B.D.K.lookup cda=some ocd) (hcw:ocd.data=.fields vs0) (hv2:vs0[2]?=some (.str file tf)) (hfile:((B.D.prog.main.file:Str)==file)=true)
  (htop:(B.D.prog.main.scope.names.lookup ("super":Str)).isSome=false):aCr B f d:=fun A N ds vs K R hl q rm sm rs z=>by
 refine e12 hK fun of0 hK hdt=>?_
 have hvl:vs.length=d.params:=(aV rs).trans hl
 have hal':ps.length=d.params:=hpl
 have hzip:(ps.zip vs).map (·.1)=ps:=List.map_fst_zip (Nat.le_of_eq (hal'.trans hvl.symm))
 have mem_ps:∀x∈ps.zip vs,x.1∈ps:=fun x hx=>hzip▸List.mem_map.mpr ⟨x,hx,rfl⟩
 refine ks_codeAny_call_defAt (o:=of0) (fd:=fd) (binds:=ps.zip vs) rm.lt ((h.F.x sm) _ _ hK) hdt (h.F.lim.keeps sm.gi) (codeRec_of (h.F.x sm) hcode) hb (BindsTo.of_eq (hbind vs hvl)) hnc (fun x hx=>hlo _ (mem_ps x hx)) (fun h₀ hns hk₀=>?_) hco hgen hk
 have hcells:(callEnv fd N.s.heap.objs.size (B.D.fa f)).cells=fd.closure:=rfl
 have hscope:(callEnv fd N.s.heap.objs.size (B.D.fa f)).scope=fd.scope:=rfl
 have hloc:(callEnv fd N.s.heap.objs.size (B.D.fa f)).locals=N.s.heap.objs.size:=rfl
 have hframe:(callEnv fd N.s.heap.objs.size (B.D.fa f)).frame=some N.s.heap.objs.size:=rfl
 have hglob:(callEnv fd N.s.heap.objs.size (B.D.fa f)).globals=fd.globals:=rfl
 have hbuil:(callEnv fd N.s.heap.objs.size (B.D.fa f)).builtins=fd.builtins:=rfl
 have hfunc:(callEnv fd N.s.heap.objs.size (B.D.fa f)).func=some (B.D.fa f):=rfl
 have hcode':(callEnv fd N.s.heap.objs.size (B.D.fa f)).code=fd.code:=rfl
 generalize callEnv fd N.s.heap.objs.size (B.D.fa f)=env at hcells hscope hloc hframe hglob hbuil hfunc hcode' ⊢
 have hkd:∀x,env.kindOf x=fd.scope.names.lookup x:=fun x=>congrArg (fun s:Scope=>s.names.lookup x) hscope
 have hkind:env.scope.kind=.function:=(congrArg Scope.kind hscope).trans hk
 have hint:interactive env=false:=by delta interactive; refine rwS hkind ?_; rfl
 have m:More N { N.s with heap:=h₀,toks:=N.s.toks+(ps.zip vs).length }:=⟨hk₀,rfl,rfl⟩
 have af:=m.aft sm
 have nl:¬ N.has env.locals:=by refine rwS hloc ?_; exact aY
 have pl:Pv (N.at { N.s with heap:=h₀,toks:=N.s.toks+(ps.zip vs).length }) env.locals:=(uK hns).elim fun o e=>m.pv sm nl (by refine rwS hloc ?_; exact e)
 have X₀:B.D.K.In h₀:=h.F.x (B:=B) (N:=N.at _) af.sm
 have bse:∀{a o},B.D.K.lookup a=some o→¬ chg N.μ a:=fun {a o} e ⟨p,hp,e2⟩=>nomatch (sm.new p hp).symm.trans ((congrArg B.D.base.get? e2).trans (h.F.X a o e))
 have gs:Gs B 40 ⟨names,fd.scope,eD⟩ ⟨env,A.deeper env,bH d ds⟩ (N.at { N.s with heap:=h₀,toks:=N.s.toks+(ps.zip vs).length }):=by
  refine⟨⟨rm.deep (by decide),⟨hscope,hkind,hglob.trans hgl,hbuil.trans hbi,⟨pl.lt,pl.nc⟩,fun q hq=>?_,by refine rwS hframe ?_; rfl,fun x hx=>?_⟩,fun x i d' h1' h2' h3'=>?_,af.sm⟩,
   fun b f=>f.elim (fun e=>by refine rwS e ?_; exact pl) fun ⟨x,e,_⟩=>absurd rfl (hnc _ (aC e.2)),⟨_,by refine rwS hloc ?_; exact hns⟩,fun x _ hx=>absurd rfl (hnc _ (aC hx)),fun x y b _ hx=>absurd rfl (hnc _ (aC hx))⟩
  ·rw[hcells,hclo,List.mem_singleton]at hq
   refine rwS hq ?_
   exact⟨cI (X₀ _ _ hcc),bse hcc⟩
  ·refine rwS hcells (rwS hclo ?_)
   refine hx.elim (fun hx=>absurd rfl (hnc _ (aC hx))) fun hx=>?_
   refine rwS (show x=("__class__":Str) from hfr _ (aC hx) rfl) ?_; rfl
  ·have hd:=rR h3'
   have hi:i<d.params:=hl▸(List.getElem?_eq_some_iff.mp hd).1
   refine nnG fun nG=>?_; refine e12 (eF rs hd) fun v hv rv=>?_
   refine nG ?_; have hm:(x,v)∈ps.zip vs:=List.mem_of_getElem? (i:=i) (by rw[List.getElem?_zip_eq_some]; exact⟨((hnm x i h1').resolve_left (Nat.not_le.mpr hi)),hv⟩)
   exact⟨v,.inl ⟨(hkd x).trans (hlo x (mem_ps _ hm)),_,by refine rwS hloc ?_; exact hns,mQ (by refine rwS List.map_reverse (rwS hzip ?_); exact((List.reverse_perm _).nodup_iff).mpr hpn) (List.mem_reverse.mpr hm)⟩,cL af.le _ _ rv⟩
 have nF:∀b,Fr ⟨names,fd.scope,eD⟩ env b→¬ N.has b:=fun b f=>f.elim (fun e=>by refine rwS e ?_; exact nl) fun ⟨x,e,_⟩=>absurd rfl (hnc _ (aC e.2))
 have done:∀{Y},Aft B.D (N.at { N.s with heap:=h₀,toks:=N.s.toks+(ps.zip vs).length }) (Fr ⟨names,fd.scope,eD⟩ env) Y→Aft B.D N noA Y:=fun a=>(af.up.trans a).hide nF
 rw[hd]at q
 -- self
 refine iG (show oK (((bH d ds)[0]?).bind id) _ from q) fun dself e0 q=>?_
 have hlar:fd.scope.names.lookup ar.arg=some .local:=hlo _ hmp
 refine e12 (gs.go.fe ar.arg 0 dself hv0 (by rw[hkd,hlar]; rfl) (aEo e0)) fun v0 at0 r0=>?_
 cases dself with
 | loc k =>
  refine nnG fun nG=>?_; refine e12 (id r0) fun p e_1 hp=>?_; subst e_1
  refine nG ?_; refine(iR (f:=fun o=>oK (mY B.P k 0 o) _) gs.go.sm hp q id).elim fun o w=>?_
  refine e03 w fun q ho hst=>?_
  cases o with
  | inst ci fs =>
   cases eg:gD fs 0 with
   | some _=>rw[mY,eg]at q; exact False.elim q
   | none =>
   rw[mY,eg]at q
   refine iG (bO q) fun f' e2 q=>?_
   refine nnG fun nG=>?_; refine e02 (hm _ _ e2) fun e_0 e_1=>?_; subst e_0; subst e_1
   refine e21 (xM (B:=B) ho) fun od mm I=>?_
   obtain⟨mL,nsL,emL⟩:∃mm,h₀.Ns env.locals mm∧mm ar.arg=some (.ref p.1):=at0.elim (fun w=>w.2) fun w=>w.1.elim (fun e=>nomatch (e.symm.trans ((hkd _).trans hlar))) fun e=>nomatch (e.symm.trans ((hkd _).trans hlar))
   refine nG ?_; refine e12 (aQc hcl) fun oD hD1 hD2=>?_
   replace hD1:=X₀ _ _ hD1
   have as:=dE h xs ⟨names,fd.scope,eD⟩ es hes
   refine ks_wpAt_execs_cons (ks_wpAt_Expr_any (ks_wpAt_MethodCall (ks_wpAt_super_base (fd:=fd) (ar:=ar) ((hkd _).trans hks) ((hkd _).trans hkc) (by decide +kernel) hfunc (X₀ _ _ hK) hdt (by refine rwS hpo ?_; exact har) (hcode'.trans hcd) (X₀ _ _ hcv) hcw hv2 hfile htop ?_) (pP hln hel as.2)) hint rfl)
   refine gP (G:=⟨env,A.deeper env,bH d ds⟩) (N:=N.at { N.s with heap:=h₀,toks:=N.s.toks+(ps.zip vs).length }) gs.go h.F hks hg hbt ⟨rfl,?_⟩
   refine wpAny_loadName_free hkind ((hkd _).trans hkc) (by refine rwS hcells (rwS hclo ?_); rfl) ⟨_,X₀ _ _ hcc,hoc⟩ ?_
   refine wpAny_loadName_local hkind ((hkd _).trans hlar) nsL emL ?_
   refine ks_wpAny_isType_cls hD1 hD2 ⟨rfl,?_⟩
   refine ks_wpAny_call_super hD1 hD2 I.at_.at_ I.at_.cls (fun c e=>?_) (looks_mroIn X₀ hmro) (fun h1 e1 k1=>?_)
   ·have:=I.at_.no
    unfold notCls at this
    rw[e]at this
    exact Bool.noConfusion this
   have m1:More (N.at { N.s with heap:=h₀,toks:=N.s.toks+(ps.zip vs).length }) { N.s with heap:=h1.push (methodObj (.ref (B.D.fa f')) (.ref p.1)),toks:=N.s.toks+(ps.zip vs).length+1 }:=⟨fun b o e=>Heap.get?_push_of_some _ (k1 b o e),rfl,rfl⟩
   have X1:=X₀.keeps k1
   obtain⟨off,hof,hofc⟩:∃of,h1.get? (B.D.fa f')=some of∧of.cls=.type "function":=by
    have ht':(B.D.K.lookup (B.D.fa f')).map (·.cls)=some (.type "function"):=hty
    cases z:B.D.K.lookup (B.D.fa f') with
    | none=>rw[z]at ht'; exact nos ht'
    | some of=>rw[z]at ht'; exact⟨of,X1 _ _ z,Option.some.inj ht'⟩
   have hne:p.1≠B.D.ca ci:=fun e=>by
    have h2:=I.at_.at_
    rw[e]at h2
    have h3:oD=_:=Option.some.inj (hD1.symm.trans h2)
    have:=I.at_.no
    unfold notCls at this
    rw[← h3,hD2]at this
    exact Bool.noConfusion this
   refine ks_wpAny_getMethod_super e1 (looks_opaque X1 hno) (l₀:=cd.mro) (fun A Q E s k q=>wpAny_bind ((looks_clsIn X1 hcl) A _ E s k (wpAny_pure q))) rfl X1 hal hof hofc hne (by decide +kernel) ?_
   have n1:¬ (N.at { N.s with heap:=h₀,toks:=N.s.toks+(ps.zip vs).length }).has h1.objs.size:=fun hh=>(Option.isSome_iff_exists.mp hh).elim fun o e=>Nat.lt_irrefl _ (Heap.lt_size (k1 _ _ e))
   have hq0:(h1.push (methodObj (.ref (B.D.fa f')) (.ref p.1))).get? h1.objs.size=some (methodObj (.ref (B.D.fa f')) (.ref p.1)):=Heap.get?_push_size _ rfl
   have a1:=m1.aft gs.go.sm
   refine lE (G:=⟨env,A.deeper env,bH d ds⟩) (N:=N.at { N.s with heap:=h1.push (methodObj (.ref (B.D.fa f')) (.ref p.1)),toks:=N.s.toks+(ps.zip vs).length+1 }) (Pp:=MethP B.D.K h1.objs.size (B.D.fa f') (.ref p.1)) (keeps_M hfn) as.2 ?_
   refine as.tes cp ⟨env,A.deeper env,bH d ds⟩ (N.at { N.s with heap:=h1.push (methodObj (.ref (B.D.fa f')) (.ref p.1)),toks:=N.s.toks+(ps.zip vs).length+1 }) _ _ _ (gs.go.to a1) q fun ds2 Y vs3 q2 _ a3 rv3=>?_
   refine⟨⟨(a3.old (m1.pv gs.go.sm n1 hq0).nc hq0),h.F.x a3.sm⟩,wpAny_call (method_call (a3.old (m1.pv gs.go.sm n1 hq0).nc hq0) ((h.T (A.deeper env) Y _ _ _ _ q2 gs.go.rm.zero a3.sm ⟨_,_,rfl,Val.on a3 (Val.on a1 r0),rv3⟩).2 _ fun d4 Z v4 q4 a4 rv4=>?_))⟩
   have a14:=(a1.trans a3).trans a4
   exact wpAt_of_wpAny (nC h ss rest hss ⟨env,A.deeper env,bH d ds⟩ Z _ _ _ (gs.to a14) q4 ⟨fun ρ Y k a _=>z .none Y .none k (done (a14.up.trans a)) rfl,fun d Y v k a r=>z d Y v k (done (a14.up.trans a)) r⟩)
  | _=>exact False.elim q
 | _=>exact False.elim q
end
noncomputable section
noncomputable def bCf(d:Data):Option { v:Option PV // d=.cell v }:=if h:d.ctorIdx=6 then PySem.Data.cell.elim (motive:=fun d=>Option { v:Option PV // d=.cell v }) d h (fun v=>some ⟨v,rfl⟩) else none
noncomputable def bBk(d:Data):Option { v:Array PV // d=.fields v }:=if h:d.ctorIdx=9 then PySem.Data.fields.elim (motive:=fun d=>Option { v:Array PV // d=.fields v }) d h (fun v=>some ⟨v,rfl⟩) else none
noncomputable def bAv(K:Frag)(P:Prog)(g:Gt)(fa ca:Nat→Addr)(f2 c1:Nat)(d:FDef)(names:List (Str × Nat))(xs:List X)(ss:List S)(file:Str)(fd:FuncData)(bd:List Stmt)(v:PE × List PE × Pos)(a:PE × Str × Pos)(s0:List PE)(su:Str)(ar:Arg)(cl:Str)(cv:Option PV)(fl:Str)(cd:ClassData):Bool :=
 ((su==("super":Str)&&(a.2.1==("__init__":Str)&&(cl==("__class__":Str)&&(s0.isEmpty&&(cv==some (.ref (ca c1))&&(fl==file&&(a.2.2.endLine==v.2.2.line&&decide (v.2.1.length<29)))))))) &&
 (codeIn K fd.code fd.qualname&&(eO P g xs ⟨names,fd.scope,eD⟩ v.2.1&&(kD P g ss ⟨names,fd.scope,eD⟩ bd&&(decide (fd.globals=mainGlobals)&&(decide (fd.builtins=builtinsNs)&&(!fd.scope.isCoroutine&&(!fd.scope.isGenerator&&fd.scope.kind == .function)))))))) &&
 (((fd.scope.names.all fun x=>x.2 != .cell&&(x.2 != .free || x.1==("__class__":Str)))&&(fd.params.posonlyargs.isEmpty&&(fd.params.kwonlyargs.isEmpty&&(fd.params.vararg.isNone&&(fd.params.kwarg.isNone&&(decide (fd.defaults=.none)&&(decide (fd.params.args.length=d.params) &&
  (decide (fd.params.args.map (·.arg)).Nodup&&(((fd.params.args.map (·.arg)).all fun x=>fd.scope.names.lookup x==some .local)&&(names.all fun q=>decide (d.params≤q.2) || (fd.params.args.map (·.arg))[q.2]? == some q.1)))))))))) &&
 (names.lookup ar.arg==some 0&&(fd.scope.names.lookup ("super":Str)==some .globalImplicit&&(fd.scope.names.lookup ("__class__":Str)==some .free&&(mroIn K (ca c1) (.ref (ca c1))==some true&&(alongIn K "__init__" ((cd.mro.dropWhile (· != .ref (ca c1))).drop 1)==some (some (.ref (fa f2))) &&
  (typeIn K (.ref (fa f2))==some (.type "function")&&(fnIn K (fa f2)&&(nsIn K cStatics "thirdparty.any" == some none&&nsIn K mainGlobals "super" == some none)))))))))
noncomputable def bAe(K:Frag)(P:Prog)(g:Gt)(fa ca:Nat→Addr)(f2 c1:Nat)(d:FDef)(names:List (Str × Nat))(xs:List X)(ss:List S)(file:Str)(fd:FuncData)(bd:List Stmt)(v:PE × List PE × Pos)(a:PE × Str × Pos)(s0:List PE)(su:Str)(ar:Arg)(cl:Str)(cv:Option PV)(cda:Addr):Bool :=
 oS (oE (K.lookup cda)) fun ocd=>oS (bBk ocd.data) fun vs=>oS (oE (vs:Array PV)[2]?) fun fv=>oS (aVl fv) fun fl=>oS (oE (clsIn K (ca c1))) fun cd=>bAv K P g fa ca f2 c1 d names xs ss file fd bd v a s0 su ar cl cv fl.1 cd
noncomputable def bAh(K:Frag)(P:Prog)(g:Gt)(fa ca:Nat→Addr)(f2 c1:Nat)(d:FDef)(names:List (Str × Nat))(xs:List X)(ss:List S)(file:Str)(fd:FuncData)(bd:List Stmt)(v:PE × List PE × Pos)(a:PE × Str × Pos)(s0:List PE)(su:Str):Bool :=
 oS (oE fd.params.args.head?) fun ar=>oS (iN fd.closure) fun cl=>oS (aSl fd.code) fun cda=>oS (oE (K.lookup cl.2)) fun oc=>oS (bCf oc.data) fun cv=>bAe K P g fa ca f2 c1 d names xs ss file fd bd v a s0 su ar cl.1 cv cda
noncomputable def bAz(K:Frag)(P:Prog)(g:Gt)(fa ca:Nat→Addr)(f2 c1:Nat)(d:FDef)(names:List (Str × Nat))(xs:List X)(ss:List S)(file:Str)(fd:FuncData)(bd:List Stmt)(ex:PE):Bool :=
 oS (bP ex) fun v=>oS (iM v.1) fun a=>oS (bP a.1) fun s0=>oS (bW s0.1) fun su=>bAh K P g fa ca f2 c1 d names xs ss file fd bd v a s0.2.1 su.1
noncomputable def aYv(K:Frag)(P:Prog)(g:Gt)(fa ca:Nat→Addr)(f f2 c1:Nat)(d:FDef)(names:List (Str × Nat))(xs:List X)(ss:List S)(file:Str):Bool :=
 oS (oE (K.lookup (fa f))) fun o=>oS (aWe o.data) fun fd=>oS (aVp fd.body) fun body=>oS (cE body) fun bd=>oS (aFp bd.1) fun ex=>bAz K P g fa ca f2 c1 d names xs ss file fd bd.2 ex.1
end
theorem an8{x1 x2 x3 x4 x5 x6 x7 x8:Bool}{C:Prop}(k:(x1&&(x2&&(x3&&(x4&&(x5&&(x6&&(x7&&x8)))))))=true)(K:x1=true→x2=true→x3=true→x4=true→x5=true→x6=true→x7=true→x8=true→C):C:=K (aB k) (aB (aA k)) (aB (aA (aA k))) (aB (aA (aA (aA k)))) (aB (aA (aA (aA (aA k))))) (aB (aA (aA (aA (aA (aA k)))))) (aB (aA (aA (aA (aA (aA (aA k))))))) (aA (aA (aA (aA (aA (aA (aA k)))))))
theorem an9{x1 x2 x3 x4 x5 x6 x7 x8 x9:Bool}{C:Prop}(k:(x1&&(x2&&(x3&&(x4&&(x5&&(x6&&(x7&&(x8&&x9))))))))=true)(K:x1=true→x2=true→x3=true→x4=true→x5=true→x6=true→x7=true→x8=true→x9=true→C):C:=K (aB k) (aB (aA k)) (aB (aA (aA k))) (aB (aA (aA (aA k)))) (aB (aA (aA (aA (aA k))))) (aB (aA (aA (aA (aA (aA k)))))) (aB (aA (aA (aA (aA (aA (aA k))))))) (aB (aA (aA (aA (aA (aA (aA (aA k)))))))) (aA (aA (aA (aA (aA (aA (aA (aA k))))))))
theorem bAx{x1 x2 x3 x4 x5 x6 x7 x8 x9 x10:Bool}{C:Prop}(k:(x1&&(x2&&(x3&&(x4&&(x5&&(x6&&(x7&&(x8&&(x9&&x10)))))))))=true)(K:x1=true→x2=true→x3=true→x4=true→x5=true→x6=true→x7=true→x8=true→x9=true→x10=true→C):C:=K (aB k) (aB (aA k)) (aB (aA (aA k))) (aB (aA (aA (aA k)))) (aB (aA (aA (aA (aA k))))) (aB (aA (aA (aA (aA (aA k)))))) (aB (aA (aA (aA (aA (aA (aA k))))))) (aB (aA (aA (aA (aA (aA (aA (aA k)))))))) (aB (aA (aA (aA (aA (aA (aA (aA (aA k))))))))) (aA (aA (aA (aA (aA (aA (aA (aA (aA k)))))))))
theorem bAk{a b c d:Bool}{C:Prop}(k:(a&&b&&(c&&d))=true)(K:a=true→b=true→c=true→d=true→C):C:=K (aB (aB k)) (aA (aB k)) (aB (aA k)) (aA (aA k))
theorem aRe{B:Bd}{g:Gt}{f f2 c1:Nat}{d:FDef}{names:List (Str × Nat)}{xs:List X}{ss:List S}{file:Str}(h:Hs B 40 g)(hd:d.body=.expr (.meth (.var 0) 0 xs)::ss)(hm:∀i f',B.P.meth i 0=some f'→i=c1∧f'=f2)
  (hbt:nsIn B.D.K builtinsNs "super"=some (some (.type "super"))) (hfile:((B.D.prog.main.file:Str)==file)=true) (htop:(B.D.prog.main.scope.names.lookup ("super":Str)).isSome=false) (k:aYv B.D.K B.P g B.D.fa B.D.ca f f2 c1 d names xs ss file=true):aCr B f d :=
 aD k fun o ho k=>aD k fun fd hfd k=>aD k fun body hb k=>aD k fun bd hbd k=>aD k fun ex hex k=>aD k fun v hv k=>aD k fun a ha k=>aD k fun s0 hs0 k=>aD k fun su hsu k=>aD k fun ar har k =>
 aD k fun cl hcl k=>aD k fun cda hcda k=>aD k fun oc hoc k=>aD k fun cv hcv k=>aD k fun ocd hocd k=>aD k fun vs hvs k=>aD k fun fv hfv k=>aD k fun fl hfl k=>aD k fun cd hcd k=>bAk k fun ka kb kc kd=>an8 ka fun a1 a2 a3 a4 a5 a6 a7 a8=>an8 kb fun b1 b2 b3 b4 b5 b6 b7 b8=>bAx kc fun c1 c2 c3 c4 c5 c6 c7 c8 c9 c10=>an9 kd fun d1 d2 d3 d4 d5 d6 d7 d8 d9=>by
 have nms:=List.all_eq_true.mp c1
 have hpn:(fd.params.args.map (·.arg)).Nodup:=of_decide_eq_true c8
 have hpl:fd.params.args.length=d.params:=of_decide_eq_true c7
 have hn2:=List.all_eq_true.mp c10
 have hal:=List.all_eq_true.mp c9
 have hbody:fd.body=.stmts (.Expr (.Call (.Attribute (.Call (.Name "super" su.2) [] [] s0.2.2) "__init__" a.2.2) v.2.1 [] v.2.2) ex.2::bd.2):=by
  exact rwS hb (rwS hbd (rwS hex (rwS hv (rwS ha (rwS hs0 (rwS hsu (rwS (aG a1) (rwS (aG a2) (rwS (List.isEmpty_iff.mp a4) rfl)))))))))
 exact aIf (ps:=fd.params.args.map (·.arg)) (fd:=fd) (ar:=ar) (cd:=cd) h ⟨o,ho,hfd⟩ b1 hbody hd a7 (of_decide_eq_true a8) b2 b3 (hcl.trans (by exact rwT (aG a3) rfl))
  (of_decide_eq_true b4) (of_decide_eq_true b5) (bE b6) (bE b7) (aG b8) (fun x hx=>bne_iff_ne.mp (aB (nms x hx))) (fun x hx e=>(Bool.or_eq_true_iff.mp (aA (nms x hx))).elim (fun n=>absurd e (bne_iff_ne.mp n)) aG)
  ((List.length_map ..).trans hpl) hpn (fun x hx=>aG (hal x hx)) (fun vals hv=>aBq (List.isEmpty_iff.mp c2) (List.isEmpty_iff.mp c3) (Option.isNone_iff_eq_none.mp c4) (Option.isNone_iff_eq_none.mp c5) (of_decide_eq_true c6) hpn (by exact rwS hv (rwS hpl rfl)))
  (List.isEmpty_iff.mp c2) (fun x i e=>(Bool.or_eq_true_iff.mp (hn2 _ (aC e))).imp of_decide_eq_true aG) har (List.mem_map.mpr ⟨ar,List.mem_of_head? har,rfl⟩) (aG d1) (aG d2) (aG d3) hm hoc (hcv.trans (congrArg Data.cell (aG a5))) hcd
  (aG d4) (aG d5) (aG d6) d7 (aG d8) (aG d9) hbt hcda hocd hvs (hfv.trans (congrArg some hfl)) (by refine rwS (aG a6) ?_; exact hfile) htop
end Mine.Internal
namespace Mine.Internal
open PySem
namespace P2
noncomputable def oU:FDef :=
 { params:=1,slots:=1,body:=[.ite (.cmp .eq (.bi .len [(.var 0)]) (.cst (.int 1))) [.ret (.item (.var 0) (.cst (.int 0)))] [],
  .raise] }
noncomputable def aFb:FDef :=
 { params:=1,slots:=3,body:=[.asg (.name 1) (.item (.var 0) (.cst (.int 0))),
  .for_ (.one 2) (.val (.sl (.var 0) (.cst (.int 1)) (.cst .none))) [.raise],
  .ret (.var 1)] }
noncomputable def qV:FDef :=
 { params:=5,slots:=6,body:=[.asg (.attr (.var 0) 91018014822433855916448552147567129127201744206719258460276) (.var 1),
  .asg (.attr (.var 0) 2089024793972003303873052788) (.var 2),
  .asg (.attr (.var 0) 2050339269201387993285263476) (.var 3),
  .asg (.attr (.var 0) 9442840468706836533258501435379962347636) (.var 4),
  .asg (.attr (.var 0) 1934282215274345678596210804) (.mut (.dict [])),
  .for_ (.one 5) (.val (.var 3)) [.ite (.cmp .in_ (.item (.var 5) (.cst (.int 0))) (.tup [(.cst (.str 1042241545940152352869)),(.cst (.str 452999038107759))])) [.raise] []],
  .asg (.attr (.var 0) 1934282344401593776985866357) (.cst (.int 0))] }
noncomputable def rD:FDef :=
 { params:=2,slots:=2,body:=[.asg (.attr (.var 0) 1934282344401593776985866357) (.bin .add (.attr (.var 0) 1934282344401593776985866357) (.cst (.int 1))),
  .ret (.fstr [(.var 1),(.cst (.str 40)),(.attr (.var 0) 1934282344401593776985866357)])] }
noncomputable def wD:FDef :=
 { params:=2,slots:=2,body:=[.ret (.tup [(.cst (.str 505775562686573)),(.item (.attr (.var 0) 9442840468706836533258501435379962347636) (.var 1))])] }
noncomputable def qX:FDef :=
 { params:=2,slots:=3,body:=[.ret (.comp (.gen (.one 2) (.val (.meth (.attr (.var 0) 91018014822433855916448552147567129127201744206719258460276) 4178178428691374958171360535249012 [])) [(.cmp .eq (.item (.var 2) (.cst (.int 0))) (.var 1))] (.elt (.item (.var 2) (.cst (.int 1))))))] }
noncomputable def pD:FDef :=
 { params:=2,slots:=4,body:=[.ite (.or [(.meth (.attr (.var 0) 91018014822433855916448552147567129127201744206719258460276) 461795089186932 [(.var 1)]),(.cmp .ne (.meth (.var 0) 4543262072356571629796891589345396 [(.var 1)]) (.list []))]) [.ret (.cst (.int (-1)))] [],
  .ite (.cmp .in_ (.var 1) (.attr (.var 0) 1934282215274345678596210804)) [.raise] [],
  .ite (.cmp .in_ (.var 1) (.glob 3)) [.ret (.cst (.int 2))] [],
  .raise,
  .raise] }
noncomputable def rG:FDef :=
 { params:=3,slots:=7,body:=[.ite (.meth (.attr (.var 0) 91018014822433855916448552147567129127201744206719258460276) 461795089186932 [(.var 1)]) [.ret (.meth (.var 0) 505775562686573 [(.var 1)])] [],
  .asg (.name 3) (.meth (.var 0) 4543262072356571629796891589345396 [(.var 1)]),
  .ite (.cmp .ne (.var 3) (.list [])) [.ret (.call 2 [(.comp (.gen (.one 6) (.val (.var 3)) [] (.elt (.meth (.var 0) 505775562686573 [(.fstr [(.var 6),(.cst (.str 47)),(.var 1)])]))))])] [],
  .raise,
  .raise,
  .raise] }
noncomputable def gH:FDef :=
 { params:=2,slots:=3,body:=[.asg (.name 2) (.item (.var 1) (.cst (.int 0))),
  .ite (.cmp .eq (.var 2) (.cst (.str 505775562686573))) [.ret (.meth (.var 0) 13718444222045834973046468235386452060926671848844973262849473248587749245040621500453887869439101108335 [(.item (.var 1) (.cst (.int 1)))])] [],
  .ite (.cmp .in_ (.var 2) (.tup [(.cst (.str 4746086129707480553143090519474292)),(.cst (.str 1023794788672322142310))])) [.raise] [],
  .ite (.cmp .in_ (.var 2) (.tup [(.cst (.str 523367740342387)),(.cst (.str 1088358388532248576119))])) [.ret (.cst (.int 1))] [],
  .ite (.cmp .in_ (.var 2) (.tup [(.cst (.str 977677880109517766767)),(.cst (.str 1079135047281738252399)),(.cst (.str 8507063594590921578787178697020942581862)),(.cst (.str 1069911670846801313907))])) [.raise] [],
  .ite (.cmp .in_ (.var 2) (.tup [(.cst (.str 986901300524892553327)),(.cst (.str 9612981530472886828724840677988351606901))])) [.raise] [],
  .ite (.cmp .eq (.var 2) (.cst (.str 922337696266917511281))) [.raise] [],
  .ret (.meth (.var 0) 1895596745843988977414045818 [(.ite (.cmp .in_ (.var 2) (.tup [(.cst (.str 1895596653610251016640397413)),(.cst (.str 4137613609484209967886426670366835))])) (.glob 999) (.item (.var 1) (.cst (.int 1))))])] }
noncomputable def fS:FDef :=
 { params:=2,slots:=5,body:=[.for_ (.one 2) (.val (.meth (.attr (.var 0) 91018014822433855916448552147567129127201744206719258460276) 4178178428691374958171360535249012 [])) [.ite (.cmp .eq (.item (.attr (.var 0) 9442840468706836533258501435379962347636) (.fstr [(.item (.var 2) (.cst (.int 1))),(.cst (.str 47)),(.item (.var 2) (.cst (.int 0)))])) (.var 1)) [.raise] []],
  .ret (.ite (.cmp .in_ (.var 1) (.comp (.gen (.many [3,4]) (.val (.meth (.attr (.var 0) 91018014822433855916448552147567129127201744206719258460276) 4543261975642413826906189065093236 [])) [] (.elt (.glob 999))))) (.cst (.int 2)) (.cst (.int 1)))] }
noncomputable def cC:FDef :=
 { params:=5,slots:=5,body:=[.expr (.meth (.var 0) 0 [(.var 1),(.var 2),(.var 3),(.var 4)]),
  .asg (.attr (.var 0) 2243767363446240513821245557) (.cst (.int 0)),
  .asg (.attr (.var 0) 4259307989734766077997039554134133) (.cst (.int 0)),
  .asg (.attr (.var 0) 1042241488765539319916) (.cst (.int 0))] }
noncomputable def dJ:FDef :=
 { params:=3,slots:=3,body:=[.asg (.attr (.var 0) 2243767363446240513821245557) (.bin .add (.attr (.var 0) 2243767363446240513821245557) (.var 1)),
  .asg (.attr (.var 0) 1042241488765539319916) (.bi .max [(.attr (.var 0) 1042241488765539319916),(.bin .add (.attr (.var 0) 4259307989734766077997039554134133) (.var 2))]),
  .ite (.cmp .gt (.attr (.var 0) 2243767363446240513821245557) (.glob 0)) [.raise] [],
  .ite (.cmp .gt (.bin .add (.attr (.var 0) 4259307989734766077997039554134133) (.var 2)) (.glob 1)) [.raise] []] }
noncomputable def cJ:FDef :=
 { params:=3,slots:=7,body:=[.asgM [(.name 3),(.name 4),(.attr (.var 0) 1042241488765539319916)] (.tup [(.attr (.var 0) 2243767363446240513821245557),(.attr (.var 0) 1042241488765539319916),(.attr (.var 0) 4259307989734766077997039554134133)]),
  .asg (.name 5) (.meth (.var 0) 2301795664437192947725762662 [(.var 1),(.var 2)]),
  .asg (.name 6) (.tup [(.bin .sub (.attr (.var 0) 2243767363446240513821245557) (.var 3)),(.bin .sub (.attr (.var 0) 1042241488765539319916) (.attr (.var 0) 4259307989734766077997039554134133))]),
  .asg (.attr (.var 0) 1042241488765539319916) (.bi .max [(.var 4),(.attr (.var 0) 1042241488765539319916)]),
  .ret (.tup [(.var 5),(.var 6)])] }
noncomputable def eG:FDef :=
 { params:=3,slots:=5,body:=[.asgT [3,4] (.get (.get (.var 2) [(.cst (.str 0)),(.dict [])]) [(.var 1),(.tup [(.cst (.int 1)),(.cst (.int 1))])]),
  .expr (.meth (.var 0) 2243767363446240513821245541 [(.var 3),(.var 4)]),
  .ret (.item (.var 2) (.var 1))] }
noncomputable def eE:FDef :=
 { params:=3,slots:=8,body:=[.asg (.name 3) (.item (.var 1) (.cst (.int 0))),
  .ite (.cmp .in_ (.var 3) (.tup [(.cst (.str 488183410196590)),(.cst (.str 2205081783335414972318482549))])) [.ret (.ite (.or [(.cmp .eq (.var 3) (.cst (.str 488183410196590))),(.glob 999)]) (.cst (.str 4502697214463632837895632474603635)) (.cst (.str 2263110195006889023082856553)))] [],
  .ite (.cmp .eq (.var 3) (.cst (.str 247464047))) [.ret (.ite (.cmp .in_ (.item (.var 1) (.cst (.int 2))) (.tup [(.cst (.str 36)),(.cst (.str 46))])) (.cst (.str 4502697214463632837895632474603635)) (.glob 999))] [],
  .ite (.or [(.cmp .eq (.var 3) (.cst (.str 1914939503617617211324104812))),(.and [(.cmp .eq (.var 3) (.cst (.str 435406826897519))),(.cmp .notIn (.item (.var 1) (.cst (.int 2))) (.glob 7))])]) [.raise] [],
  .ite (.cmp .eq (.var 3) (.cst (.str 222298215))) [.raise] [],
  .ite (.cmp .eq (.var 3) (.cst (.str 479387283619957))) [.raise,
   .raise,
   .raise] [],
  .ite (.and [(.cmp .eq (.var 3) (.cst (.str 1023794727099668889702))),(.cmp .in_ (.item (.var 1) (.cst (.int 2))) (.var 2))]) [.asg (.name 5) (.item (.item (.var 2) (.item (.var 1) (.cst (.int 2)))) (.cst (.int 0))),
   .ret (.ite (.cmp .in_ (.var 5) (.glob 2)) (.cst (.str 4502697214463632837895632474603635)) (.ite (.cmp .in_ (.var 5) (.glob 4)) (.cst (.str 2263110195006889023082856553)) (.cst (.str 510173609197685))))] [],
  .asgT [6,7] (.meth (.var 0) 8507063148377852269946524166966015426663 [(.var 1),(.var 2)]),
  .ret (.ite (.cmp .eq (.var 6) (.cst (.str 0))) (.cst (.str 510173609197685)) (.glob 999))] }
noncomputable def bL:FDef :=
 { params:=3,slots:=4,body:=[.asg (.name 3) (.meth (.var 0) 950007812377492324462 [(.var 1),(.var 2)]),
  .ite (.cmp .eq (.var 3) (.cst (.str 2263110195006889023082856553))) [.raise] [],
  .ret (.ite (.cmp .eq (.var 3) (.cst (.str 4502697214463632837895632474603635))) (.meth (.var 0) 4502697214463632837895632474603635 [(.var 1),(.var 2)]) (.meth (.var 0) 940784479923051954291 [(.var 1),(.var 2)]))] }
noncomputable def cV:FDef :=
 { params:=3,slots:=4,body:=[.letE 3 (.bi .dict [(.var 2)]) (.bi .dict [(.get (.var 2) [(.cst (.str 0)),(.dict [])])]) (.item (.var 1) (.cst (.int 2))) (.meth (.var 0) 19624664451911280203008333532949299169285111909 [(.item (.var 1) (.cst (.int 3))),(.var 2)]),
  .ret (.var 3)] }
noncomputable def dG:FDef :=
 { params:=3,slots:=5,body:=[.ite (.and [(.cmp .eq (.item (.var 1) (.cst (.int 0))) (.cst (.str 1023794727099668889702))),(.cmp .notIn (.item (.var 1) (.cst (.int 2))) (.var 2)),(.cmp .ge (.meth (.var 0) 4583826678792810814624776111259764 [(.item (.var 1) (.cst (.int 2)))]) (.cst (.int 0)))]) [.ret (.tup [(.item (.var 1) (.cst (.int 2))),(.tup [])])] [],
  .ite (.cmp .eq (.item (.var 1) (.cst (.int 0))) (.cst (.str 435406839480441))) [.asgT [3,4] (.meth (.var 0) 1914939439053977769006334063 [(.item (.var 1) (.cst (.int 2))),(.var 2)]),
   .ite (.and [(.cmp .ne (.var 3) (.cst (.str 0))),(.cmp .le (.bi .len [(.item (.var 1) (.cst (.int 3)))]) (.bin .sub (.meth (.var 0) 4583826678792810814624776111259764 [(.var 3)]) (.bi .len [(.var 4)])))]) [.ret (.tup [(.var 3),(.bin .add (.var 4) (.bi .tuple [(.item (.var 1) (.cst (.int 3)))]))])] []] [],
  .ite (.and [(.cmp .eq (.item (.var 1) (.cst (.int 0))) (.cst (.str 435406826897519))),(.cmp .eq (.item (.var 1) (.cst (.int 2))) (.cst (.str 47)))]) [.asgT [3,4] (.meth (.var 0) 1914939439053977769006334063 [(.item (.var 1) (.cst (.int 4))),(.var 2)]),
   .ite (.and [(.cmp .ne (.var 3) (.cst (.str 0))),(.cmp .lt (.bi .len [(.var 4)]) (.meth (.var 0) 4583826678792810814624776111259764 [(.var 3)]))]) [.ret (.tup [(.var 3),(.bin .add (.tup [(.item (.var 1) (.cst (.int 3)))]) (.var 4))])] []] [],
  .ret (.tup [(.cst (.str 0)),(.tup [])])] }
noncomputable def eB:FDef :=
 { params:=3,slots:=5,body:=[.asgT [3,4] (.meth (.var 0) 1914939439053977769006334063 [(.var 1),(.var 2)]),
  .ite (.and [(.cmp .ne (.var 3) (.cst (.str 0))),(.cmp .lt (.bi .len [(.var 4)]) (.meth (.var 0) 4583826678792810814624776111259764 [(.var 3)]))]) [.raise] [],
  .ret (.tup [(.var 3),(.var 4)])] }
noncomputable def jG:FDef :=
 { params:=3,slots:=4,body:=[.asg (.attr (.var 0) 4259307989734766077997039554134133) (.bin .add (.attr (.var 0) 4259307989734766077997039554134133) (.cst (.int 1))),
  .expr (.meth (.var 0) 2243767363446240513821245541 [(.cst (.int 1)),(.cst (.int 0))]),
  .asg (.name 3) (.meth (.var 0) 20873507288947498888387828772211953481738616935 [(.var 1),(.var 2)]),
  .asg (.attr (.var 0) 4259307989734766077997039554134133) (.bin .sub (.attr (.var 0) 4259307989734766077997039554134133) (.cst (.int 1))),
  .ret (.var 3)] }
noncomputable def dN:FDef :=
 { params:=3,slots:=11,body:=[.asg (.name 3) (.item (.var 1) (.cst (.int 0))),
  .ite (.cmp .eq (.var 3) (.cst (.str 1914939503617617211324104812))) [.raise] [],
  .ite (.and [(.cmp .eq (.var 3) (.cst (.str 247464047))),(.cmp .eq (.item (.var 1) (.cst (.int 2))) (.cst (.str 34)))]) [.raise] [],
  .ite (.and [(.cmp .eq (.var 3) (.cst (.str 247464047))),(.cmp .in_ (.item (.var 1) (.cst (.int 2))) (.tup [(.cst (.str 1069911648856593924198)),(.cst (.str 232783984)),(.cst (.str 1005348044598612590694)),(.cst (.str 492581442027622))]))]) [.ret (.tup [(.item (.var 1) (.cst (.int 2))),(.meth (.var 0) 940784479923051954291 [(.item (.var 1) (.cst (.int 3))),(.var 2)])])] [],
  .ite (.and [(.cmp .eq (.var 3) (.cst (.str 435406826897519))),(.cmp .notIn (.item (.var 1) (.cst (.int 2))) (.glob 7))]) [.ret (.meth (.var 0) 17840605686735234431804093745855180624776659045 [(.var 1),(.var 2)])] [],
  .raise,
  .raise,
  .raise,
  .raise,
  .raise,
  .raise,
  .raise,
  .raise] }
noncomputable def aH:FDef :=
 { params:=3,slots:=8,body:=[.asgT [3,4,5] (.sl (.var 1) (.cst (.int 2)) (.cst (.int 5))),
  .ite (.cmp .in_ (.var 3) (.tup [(.cst (.str 81788967)),(.cst (.str 262144125))])) [.raise] [],
  .ite (.cmp .in_ (.var 3) (.tup [(.cst (.str 130023487)),(.cst (.str 268280967200831))])) [.raise] [],
  .ite (.cmp .in_ (.var 3) (.tup [(.cst (.str 71303230)),(.cst (.str 149533803675759))])) [.ret (.tup [(.cst (.str 488183397613685)),(.meth (.var 0) 17840605686735234431804093745855180624776659045 [(.tup [(.cst (.str 435406826897519)),(.item (.var 1) (.cst (.int 1))),(.sl (.var 3) (.cst (.int 1)) (.cst .none)),(.var 4),(.var 5)]),(.var 2)])])] [],
  .ite (.and [(.cmp .eq (.var 3) (.cst (.str 62))),(.cmp .eq (.meth (.var 0) 950007812377492324462 [(.var 4),(.var 2)]) (.cst (.str 510173609197685)))]) [.ret (.tup [(.cst (.str 1069911587283942768742)),(.meth (.var 0) 940784479923051954291 [(.var 4),(.var 2)]),(.meth (.var 0) 940784479923051954291 [(.var 5),(.var 2)])])] [],
  .ite (.cmp .eq (.var 3) (.cst (.str 222298223))) [.ret (.meth (.var 0) 8421993124555260641663923658296188207205 [(.meth (.var 0) 940784479923051954291 [(.var 4),(.var 2)]),(.var 5),(.var 2)])] [],
  .asgTs true [6,7] [(.meth (.var 0) 4502697214463632837895632474603635 [(.var 4),(.var 2)]),(.meth (.var 0) 4502697214463632837895632474603635 [(.var 5),(.var 2)])],
  .ite (.cmp .in_ (.var 3) (.tup [(.cst (.str 63)),(.cst (.str 132120638))])) [.asgTs true [6,7] [(.var 7),(.var 6)]] [],
  .ret (.tup [(.ite (.cmp .eq (.var 3) (.cst (.str 62))) (.cst (.str 213909618)) (.ite (.cmp .in_ (.var 3) (.tup [(.cst (.str 61)),(.cst (.str 63))])) (.cst (.str 228589685)) (.cst (.str 228589670)))),(.var 6),(.var 7)])] }
noncomputable def bQ:FDef :=
 { params:=3,slots:=20,body:=[.asgTs true [3,2,4] [(.mut (.list [])),(.mut (.bi .dict [(.var 2)])),(.mut (.list []))],
  .for_ (.many [5,6,7,8,9]) (.val (.var 1)) [.ite (.cmp .notIn (.var 8) (.tup [(.cst (.str 0)),(.cst (.str 492581442027622))])) [.raise] [],
   .asgTs true [10,11] [(.meth (.var 0) 940784479923051954291 [(.var 9),(.var 2)]),(.comp (.gen (.one 14) (.val (.var 7)) [] (.elt (.meth (.var 0) 1992310811413141719202398313 [(.var 14)]))))],
   .ite (.cmp .ne (.meth (.var 0) 1895596745843988977414045818 [(.var 10)]) (.cst (.int 1))) [.raise] [],
   .for_ (.many [12,13]) (.enum (.var 11)) [.mth .app (.var 3) (.tup [(.var 13),(.var 10)]),
    .mth .ext (.var 4) (.comp (.gen (.one 15) (.val (.sl (.var 11) (.cst .none) (.var 12))) [(.var 6)] (.elt (.tup [(.cst (.str 488183397613685)),(.tup [(.cst (.str 1069911587283942768742)),(.tup [(.cst (.str 523367740342387)),(.var 13)]),(.tup [(.cst (.str 523367740342387)),(.var 15)])])]))))],
   .mth .upd (.var 2) (.comp (.gen (.many [16,17]) (.zip (.var 7) (.var 11)) [] (.elt (.tup [(.var 16),(.tup [(.cst (.str 523367740342387)),(.var 17)])])))),
   .asg (.item (.var 2) (.cst (.str 0))) (.bi .dict [(.comp (.gen (.many [18,19]) (.items (.get (.var 2) [(.cst (.str 0)),(.dict [])])) [(.cmp .notIn (.var 18) (.var 7))] (.elt (.tup [(.var 18),(.var 19)]))))])],
  .ret (.tup [(.bi .tuple [(.var 3)]),(.var 2),(.var 4)])] }
noncomputable def kB:FDef :=
 { params:=3,slots:=4,body:=[.asg (.attr (.var 0) 4259307989734766077997039554134133) (.bin .add (.attr (.var 0) 4259307989734766077997039554134133) (.cst (.int 1))),
  .expr (.meth (.var 0) 2243767363446240513821245541 [(.cst (.int 1)),(.cst (.int 0))]),
  .asg (.name 3) (.meth (.var 0) 8677205264829240640962846540743768539239 [(.var 1),(.var 2)]),
  .asg (.attr (.var 0) 4259307989734766077997039554134133) (.bin .sub (.attr (.var 0) 4259307989734766077997039554134133) (.cst (.int 1))),
  .ret (.var 3)] }
noncomputable def eC:FDef :=
 { params:=3,slots:=11,body:=[.asg (.name 3) (.item (.var 1) (.cst (.int 0))),
  .ite (.cmp .in_ (.var 3) (.tup [(.cst (.str 1088358388532248576119)),(.cst (.str 977677880109517766767))])) [.raise] [],
  .ite (.cmp .eq (.var 3) (.cst (.str 1023794788672322142310))) [.raise] [],
  .ite (.and [(.cmp .eq (.var 3) (.cst (.str 247464047))),(.glob 999)]) [.raise] [],
  .ite (.cmp .eq (.var 3) (.cst (.str 1895596745844028559822159992))) [.raise] [],
  .ite (.cmp .eq (.var 3) (.cst (.str 1934282344401558592617971827))) [.raise,
   .raise] [],
  .ite (.cmp .eq (.var 3) (.cst (.str 222298215))) [.raise] [],
  .ite (.cmp .eq (.var 3) (.cst (.str 479387283619957))) [.raise] [],
  .ite (.and [(.cmp .eq (.var 3) (.cst (.str 1023794727099668889702))),(.cmp .in_ (.item (.var 1) (.cst (.int 2))) (.var 2))]) [.ret (.meth (.var 0) 4867780200473109852296548783751269 [(.meth (.var 0) 1088358410522472743013 [(.item (.var 1) (.cst (.int 2))),(.var 2)]),(.cst (.str 510173609197685)),(.item (.var 1) (.cst (.int 1)))])] [],
  .asgT [7,8] (.ite (.cmp .in_ (.var 3) (.tup [(.cst (.str 1023794727099668889702)),(.cst (.str 435406839480441)),(.cst (.str 435406826897519))])) (.meth (.var 0) 8507063148377852269946524166966015426663 [(.var 1),(.var 2)]) (.glob 999)),
  .ite (.cmp .ne (.var 7) (.cst (.str 0))) [.raise] [],
  .ite (.cmp .eq (.var 3) (.cst (.str 1023794727099668889702))) [.ret (.meth (.var 0) 2147053159526524811376328805 [(.item (.var 1) (.cst (.int 2))),(.item (.var 1) (.cst (.int 1)))])] [],
  .ite (.cmp .eq (.var 3) (.cst (.str 435406839480441))) [.raise,
   .raise,
   .raise] [],
  .ite (.or [(.cmp .ne (.var 3) (.cst (.str 435406826897519))),(.cmp .notIn (.item (.var 1) (.cst (.int 2))) (.glob 7))]) [.raise] [],
  .ret (.tup [(.item (.glob 7) (.item (.var 1) (.cst (.int 2)))),(.meth (.var 0) 940784479923051954291 [(.item (.var 1) (.cst (.int 3))),(.var 2)]),(.meth (.var 0) 940784479923051954291 [(.item (.var 1) (.cst (.int 4))),(.var 2)])])] }
noncomputable def cD:FDef :=
 { params:=4,slots:=5,body:=[.asg (.name 4) (.cmp .in_ (.item (.var 1) (.cst (.int 0))) (.glob 2)),
  .ite (.or [(.cmp .in_ (.item (.var 1) (.cst (.int 0))) (.glob 4)),(.cmp .ne (.var 4) (.cmp .eq (.var 2) (.cst (.str 4502697214463632837895632474603635))))]) [.raise] [],
  .ret (.var 1)] }
noncomputable def iJ:FDef :=
 { params:=3,slots:=4,body:=[.asg (.attr (.var 0) 4259307989734766077997039554134133) (.bin .add (.attr (.var 0) 4259307989734766077997039554134133) (.cst (.int 1))),
  .expr (.meth (.var 0) 2243767363446240513821245541 [(.cst (.int 1)),(.cst (.int 0))]),
  .asg (.name 3) (.meth (.var 0) 41530051578307762505690398698420219511523434286809191 [(.var 1),(.var 2)]),
  .asg (.attr (.var 0) 4259307989734766077997039554134133) (.bin .sub (.attr (.var 0) 4259307989734766077997039554134133) (.cst (.int 1))),
  .ret (.var 3)] }
noncomputable def dB:FDef :=
 { params:=3,slots:=10,body:=[.asg (.name 3) (.item (.var 1) (.cst (.int 0))),
  .ite (.cmp .eq (.var 3) (.cst (.str 488183410196590))) [.ret (.tup [(.cst (.str 488183410196590)),(.item (.var 1) (.cst (.int 2)))])] [],
  .ite (.and [(.cmp .eq (.var 3) (.cst (.str 247464047))),(.cmp .eq (.item (.var 1) (.cst (.int 2))) (.cst (.str 36)))]) [.ret (.tup [(.cst (.str 1934282344401593776985866357)),(.meth (.var 0) 940784479923051954291 [(.item (.var 1) (.cst (.int 3))),(.var 2)])])] [],
  .ite (.and [(.cmp .eq (.var 3) (.cst (.str 247464047))),(.cmp .eq (.item (.var 1) (.cst (.int 2))) (.cst (.str 46)))]) [.ret (.tup [(.cst (.str 1005348000618157965428)),(.tup [(.cst (.str 488183410196590)),(.cst (.int 0))]),(.meth (.var 0) 4502697214463632837895632474603635 [(.item (.var 1) (.cst (.int 3))),(.var 2)])])] [],
  .ite (.and [(.cmp .eq (.var 3) (.cst (.str 2205081783335414972318482549))),(.cmp .eq (.item (.var 1) (.cst (.int 2))) (.cst (.str 510173642752110)))]) [.asgT [4,5,6] (.meth (.var 0) 18019010797617156466320776713756646825720283239 [(.item (.var 1) (.cst (.int 3))),(.var 2)]),
   .asg (.name 7) (.meth (.var 0) 4502697214463632837895632474603635 [(.item (.var 1) (.cst (.int 4))),(.var 5)]),
   .ret (.tup [(.cst (.str 510173642752110)),(.var 4),(.ite (.cmp .ne (.var 6) (.list [])) (.tup [(.cst (.str 4056483951726744055527172950982758)),(.call 1 [(.var 6)]),(.var 7),(.tup [(.cst (.str 488183410196590)),(.cst (.int 0))])]) (.var 7))])] [],
  .ite (.cmp .eq (.var 3) (.cst (.str 222298215))) [.ret (.tup [(.cst (.str 4056483951726744055527172950982758)),(.meth (.var 0) 2263110195006889023082856553 [(.item (.var 1) (.cst (.int 2))),(.var 2)]),(.meth (.var 0) 4502697214463632837895632474603635 [(.item (.var 1) (.cst (.int 3))),(.var 2)]),(.meth (.var 0) 4502697214463632837895632474603635 [(.item (.var 1) (.cst (.int 4))),(.var 2)])])] [],
  .ite (.cmp .eq (.var 3) (.cst (.str 479387283619957))) [.ret (.meth (.var 0) 4502697214463632837895632474603635 [(.item (.var 1) (.cst (.int 4))),(.meth (.var 0) 9272698636209395384337487287709031465079 [(.var 1),(.var 2)])])] [],
  .ite (.and [(.cmp .eq (.var 3) (.cst (.str 1023794727099668889702))),(.cmp .in_ (.item (.var 1) (.cst (.int 2))) (.var 2))]) [.ret (.meth (.var 0) 4867780200473109852296548783751269 [(.meth (.var 0) 1088358410522472743013 [(.item (.var 1) (.cst (.int 2))),(.var 2)]),(.cst (.str 4502697214463632837895632474603635)),(.item (.var 1) (.cst (.int 1)))])] [],
  .asgT [8,9] (.ite (.cmp .in_ (.var 3) (.tup [(.cst (.str 1023794727099668889702)),(.cst (.str 435406839480441)),(.cst (.str 435406826897519))])) (.meth (.var 0) 8507063148377852269946524166966015426663 [(.var 1),(.var 2)]) (.glob 999)),
  .ite (.or [(.cmp .in_ (.var 8) (.attr (.var 0) 1934282215274345678596210804)),(.cmp .notIn (.var 8) (.glob 3))]) [.raise] [],
  .ret (.tup [(.item (.glob 3) (.var 8)),(.meth (.var 0) 4502697214463632837895632474603635 [(.item (.var 9) (.cst (.int 0))),(.var 2)]),(.meth (.var 0) 4502697214463632837895632474603635 [(.item (.var 9) (.cst (.int 1))),(.var 2)])])] }
noncomputable def fP:FDef :=
 { params:=2,slots:=2,body:=[.ite (.cmp .ne (.item (.var 1) (.cst (.int 0))) (.cst (.str 1895596745844028559822159992))) [.ret (.cst (.bool false))] [],
  .raise] }
noncomputable def cS:FDef :=
 { params:=4,slots:=5,body:=[.asg (.name 4) (.list [(.tup [(.cst (.str 222298223)),(.var 1),(.meth (.var 0) 940784479923051954291 [(.var 2),(.var 3)])])]),
  .ite (.meth (.var 0) 39659329125711092606061701497258847366907394231631973 [(.var 2)]) [.raise] [],
  .ret (.call 1 [(.var 4)])] }
noncomputable def jR:FDef :=
 { params:=2,slots:=4,body:=[.asg (.attr (.var 0) 8677204859181125939181893442046368153716) (.mut (.dict [])),
  .asg (.attr (.var 0) 4705521291157225747889372490891380) (.mut (.list [])),
  .asg (.attr (.var 0) 4543261936956796822649674720608357) (.mut (.list [])),
  .for_ (.one 2) (.val (.var 1)) [.ite (.cmp .eq (.item (.var 2) (.cst (.int 0))) (.cst (.str 510173617586280))) [.expr (.meth (.var 0) 20873505842747033825917143739743621578993172584 [(.var 2)])] []],
  .for_ (.one 3) (.val (.attr (.var 0) 4705521291157225747889372490891380)) [.expr (.meth (.var 0) 85525553048838452435796612866680672575463731298935710416998 [(.var 3)])],
  .asg (.attr (.var 0) 9527910938742439441923968210238380703845) (.meth (.var 0) 817781968424305856020720693277975001885178188133497416857951756894079352307829 []),
  .asg (.attr (.var 0) 87879469192763632568941775319736026401969400547484486336628) (.meth (.var 0) 76894537040247973696483349677575856673244932794782289231988 []),
  .expr (.meth (.var 0) 179360084627477658202635738266585308677210351137292936563493175412 []),
  .for_ (.one 2) (.val (.var 1)) [.ite (.cmp .eq (.item (.var 2) (.cst (.int 0))) (.cst (.str 1033018165107204554863))) [.raise] []]] }
noncomputable def iP:FDef :=
 { params:=2,slots:=3,body:=[.for_ (.one 2) (.val (.item (.var 1) (.cst (.int 2)))) [.ite (.cmp .in_ (.var 2) (.attr (.var 0) 8677204859181125939181893442046368153716)) [.raise] [],
   .asg (.item (.attr (.var 0) 8677204859181125939181893442046368153716) (.var 2)) (.var 1),
   .mth .app (.attr (.var 0) 4705521291157225747889372490891380) (.var 2)],
  .ite (.and [(.cmp .gt (.bi .len [(.item (.var 1) (.cst (.int 6)))]) (.cst (.int 0))),(.glob 999)]) [.raise] []] }
noncomputable def gW:FDef :=
 { params:=2,slots:=3,body:=[.for_ (.one 2) (.val (.meth (.var 0) 4097048790276888180281264314515573 [(.var 1)])) [.ite (.cmp .notIn (.var 2) (.attr (.var 0) 8677204859181125939181893442046368153716)) [.raise] []],
  .ite (.and [(.cmp .ne (.meth (.var 0) 4583826466022023359783464006058101 [(.var 1)]) (.cst (.str 0))),(.meth (.var 0) 39659329125711092606305090799358782114758691848716405 [(.meth (.var 0) 4583826466022023359783464006058101 [(.var 1)])])]) [.raise] []] }
noncomputable def jS:FDef :=
 { params:=2,slots:=2,body:=[.ret (.bin .add (.ite (.cmp .ne (.meth (.var 0) 4583826466022023359783464006058101 [(.var 1)]) (.cst (.str 0))) (.tup [(.meth (.var 0) 4583826466022023359783464006058101 [(.var 1)])]) (.tup [])) (.meth (.var 0) 4705521310500177212264409718587508 [(.var 1)]))] }
noncomputable def fJ:FDef :=
 { params:=1,slots:=6,body:=[.asgTs false [1,2] [(.mut (.list [])),(.mut (.bi .list [(.attr (.var 0) 4705521291157225747889372490891380)]))],
  .while_ (.cmp .gt (.bi .len [(.var 2)]) (.cst (.int 0))) [.asg (.name 3) (.comp (.gen (.one 4) (.val (.var 2)) [(.cmp .eq (.comp (.gen (.one 5) (.val (.meth (.var 0) 4097048790276888180281264314515573 [(.var 4)])) [(.cmp .notIn (.var 5) (.var 1))] (.elt (.var 5)))) (.list []))] (.elt (.var 4)))),
   .ite (.cmp .eq (.bi .len [(.var 3)]) (.cst (.int 0))) [.raise] [],
   .mth .app (.var 1) (.item (.var 3) (.cst (.int 0))),
   .mth .rem (.var 2) (.item (.var 3) (.cst (.int 0)))],
  .ret (.var 1)] }
noncomputable def gQ:FDef :=
 { params:=1,slots:=10,body:=[.asgTs true [1,2] [(.mut (.list [])),(.cst (.int 0))],
  .for_ (.one 3) (.val (.attr (.var 0) 9527910938742439441923968210238380703845)) [.for_ (.many [4,5,6,7,8]) (.val (.item (.item (.attr (.var 0) 8677204859181125939181893442046368153716) (.var 3)) (.cst (.int 7)))) [.for_ (.one 9) (.val (.var 6)) [.mth .app (.var 1) (.tup [(.var 9),(.var 3),(.var 7),(.var 8),(.var 4),(.ite (.var 5) (.glob 999) (.cst (.int (-1))))])],
    .asg (.name 2) (.bin .add (.var 2) (.ite (.var 5) (.cst (.int 1)) (.cst (.int 0))))]],
  .ret (.var 1)] }
noncomputable def gF:FDef :=
 { params:=1,slots:=9,body:=[.asg (.name 1) (.mut (.dict [])),
  .for_ (.many [2,3,4,5,6,7]) (.val (.attr (.var 0) 87879469192763632568941775319736026401969400547484486336628)) [.ite (.cmp .in_ (.var 2) (.attr (.var 0) 8677204859181125939181893442046368153716)) [.raise] [],
   .for_ (.one 8) (.val (.bin .add (.list [(.var 3)]) (.meth (.var 0) 36666172523616778228990244614959538096012432804675686 [(.var 3)]))) [.ite (.cmp .in_ (.tup [(.var 2),(.var 8)]) (.var 1)) [.raise] []],
   .asg (.item (.var 1) (.tup [(.var 2),(.var 3)])) (.cst (.bool true))]] }
noncomputable def mI:FDef :=
 { params:=2,slots:=2,body:=[.ret (.cmp .in_ (.var 1) (.attr (.var 0) 8677204859181125939181893442046368153716))] }
noncomputable def jV:FDef :=
 { params:=2,slots:=2,body:=[.ret (.item (.item (.attr (.var 0) 8677204859181125939181893442046368153716) (.var 1)) (.cst (.int 5)))] }
noncomputable def jX:FDef :=
 { params:=2,slots:=2,body:=[.ret (.bi .tuple [(.item (.item (.attr (.var 0) 8677204859181125939181893442046368153716) (.var 1)) (.cst (.int 6)))])] }
noncomputable def hV:FDef :=
 { params:=2,slots:=2,body:=[.ret (.cmp .gt (.bi .len [(.item (.item (.attr (.var 0) 8677204859181125939181893442046368153716) (.var 1)) (.cst (.int 6)))]) (.cst (.int 0)))] }
noncomputable def hU:FDef :=
 { params:=2,slots:=5,body:=[.asgTs true [2,3] [(.list []),(.bi .list [(.meth (.var 0) 4097048790276888180281264314515573 [(.var 1)])])],
  .while_ (.cmp .gt (.bi .len [(.var 3)]) (.cst (.int 0))) [.raise,
   .raise],
  .ret (.var 2)] }
noncomputable def jT:FDef :=
 { params:=1,slots:=1,body:=[.ret (.bi .list [(.attr (.var 0) 87879469192763632568941775319736026401969400547484486336628)])] }
noncomputable def jW:FDef :=
 { params:=1,slots:=1,body:=[.ret (.bi .list [(.attr (.var 0) 4543261936956796822649674720608357)])] }
noncomputable def hH:FDef :=
 { params:=2,slots:=3,body:=[.asg (.name 2) (.item (.var 0) (.cst (.str 1069911653254644629621))),
  .asg (.item (.var 0) (.cst (.str 1069911653254644629621))) (.bin .add (.var 2) (.cst (.int 1))),
  .ret (.bin .mod (.ite (.cmp .lt (.var 2) (.bi .len [(.item (.var 0) (.cst (.str 1934282252167833826015314036)))])) (.item (.item (.var 0) (.cst (.str 1934282252167833826015314036))) (.var 2)) (.bin .mod (.bin .add (.bin .add (.bin .mul (.bin .mul (.cst (.int 7)) (.var 2)) (.var 2)) (.bin .mul (.cst (.int 5)) (.var 2))) (.cst (.int 4))) (.cst (.int 97)))) (.var 1))] }
noncomputable def jZ:FDef :=
 { params:=2,slots:=3,body:=[.ret (.comp (.gen (.one 2) (.val (.bi .sortedK [(.var 0)])) [(.cmp .eq (.item (.var 0) (.var 2)) (.var 1))] (.elt (.var 2))))] }
noncomputable def dY:FDef :=
 { params:=2,slots:=5,body:=[.asgTs true [2,3] [(.call 75 [(.var 0),(.cst (.int 7))]),(.bin .add (.call 76 [(.var 1),(.cst (.str 903890974183444709486))]) (.call 76 [(.var 1),(.cst (.str 510173609197685))]))],
  .asg (.name 4) (.tup [(.cst (.str 1023794727099668889702)),(.cst (.int 0)),(.ite (.cmp .ne (.var 3) (.list [])) (.item (.var 3) (.call 75 [(.var 0),(.bi .len [(.var 3)])])) (.cst (.str 67)))]),
  .ite (.cmp .lt (.var 2) (.cst (.int 2))) [.ret (.tup [(.cst (.str 1023794727099668889702)),(.cst (.int 0)),(.sidx [(.str 66),(.str 67)] (.var 2))])] [],
  .ite (.cmp .eq (.var 2) (.cst (.int 2))) [.ret (.var 4)] [],
  .ite (.cmp .lt (.var 2) (.cst (.int 5))) [.ret (.tup [(.cst (.str 435406826897519)),(.cst (.int 0)),(.cst (.str 47)),(.var 4),(.tup [(.cst (.str 1023794727099668889702)),(.cst (.int 0)),(.cst (.str 103))])])] [],
  .ret (.tup [(.cst (.str 435406826897519)),(.cst (.int 0)),(.sidx [(.str 46),(.str 44)] (.bin .sub (.var 2) (.cst (.int 5)))),(.tup [(.cst (.str 1023794727099668889702)),(.cst (.int 0)),(.cst (.str 66))]),(.var 4)])] }
noncomputable def kZ:FDef :=
 { params:=2,slots:=4,body:=[.asgTs true [2,3] [(.call 75 [(.var 0),(.cst (.int 4))]),(.call 76 [(.var 1),(.cst (.str 903890974183444709486))])],
  .ite (.and [(.cmp .eq (.var 2) (.cst (.int 3))),(.cmp .ne (.var 3) (.list []))]) [.ret (.tup [(.cst (.str 1023794727099668889702)),(.cst (.int 0)),(.item (.var 3) (.cst (.int (-1))))])] [],
  .ret (.ite (.cmp .eq (.var 2) (.cst (.int 2))) (.tup [(.cst (.str 435406826897519)),(.cst (.int 0)),(.cst (.str 46)),(.tup [(.cst (.str 1023794727099668889702)),(.cst (.int 0)),(.cst (.str 66))]),(.tup [(.cst (.str 1023794727099668889702)),(.cst (.int 0)),(.cst (.str 67))])]) (.tup [(.cst (.str 1023794727099668889702)),(.cst (.int 0)),(.sidx [(.str 67),(.str 66)] (.bin .mod (.var 2) (.cst (.int 2))))]))] }
noncomputable def fZ:FDef :=
 { params:=2,slots:=4,body:=[.asg (.name 2) (.call 75 [(.var 0),(.cst (.int 3))]),
  .ite (.cmp .eq (.var 2) (.cst (.int 0))) [.ret (.tup [(.cst (.str 247464047)),(.cst (.int 0)),(.item (.list [(.cst (.str 1069911648856593924198)),(.cst (.str 232783984)),(.cst (.str 492581442027622))]) (.call 75 [(.var 0),(.cst (.int 3))])),(.call 77 [(.var 0),(.var 1)])])] [],
  .ite (.cmp .eq (.var 2) (.cst (.int 1))) [.ret (.tup [(.cst (.str 435406826897519)),(.cst (.int 0)),(.item (.list [(.cst (.str 222298223)),(.cst (.str 62))]) (.call 75 [(.var 0),(.cst (.int 2))])),(.call 77 [(.var 0),(.var 1)]),(.call 77 [(.var 0),(.var 1)])])] [],
  .asg (.name 3) (.item (.list [(.cst (.str 61)),(.cst (.str 127926334)),(.cst (.str 62)),(.cst (.str 71303230)),(.cst (.str 63))]) (.call 75 [(.var 0),(.cst (.int 5))])),
  .ret (.tup [(.cst (.str 435406826897519)),(.cst (.int 0)),(.var 3),(.call 82 [(.var 0),(.var 1),(.cst (.int 0))]),(.call 82 [(.var 0),(.var 1),(.cst (.int 0))])])] }
noncomputable def cZ:FDef :=
 { params:=3,slots:=7,body:=[.asgTs true [3,4] [(.tup [(.cst (.str 1023794727099668889702)),(.cst (.int 0)),(.item (.list [(.cst (.str 1042241519551906840692)),(.cst (.str 2127710420199671437499302004)),(.cst (.str 483785363685485))]) (.call 75 [(.var 0),(.cst (.int 3))]))]),(.call 75 [(.var 0),(.cst (.int 3))])],
  .asgTs true [5,6] [(.call 82 [(.var 0),(.var 1),(.bin .sub (.var 2) (.cst (.int 1)))]),(.call 82 [(.var 0),(.var 1),(.cst (.int 0))])],
  .ite (.cmp .eq (.var 4) (.cst (.int 0))) [.ret (.tup [(.cst (.str 435406839480441)),(.cst (.int 0)),(.var 3),(.tup [(.var 5),(.var 6)])])] [],
  .ret (.tup [(.cst (.str 435406839480441)),(.cst (.int 0)),(.ite (.cmp .eq (.var 4) (.cst (.int 1))) (.tup [(.cst (.str 435406826897519)),(.cst (.int 0)),(.cst (.str 47)),(.var 5),(.var 3)]) (.tup [(.cst (.str 435406839480441)),(.cst (.int 0)),(.var 3),(.tup [(.var 5)])])),(.tup [(.var 6)])])] }
noncomputable def dU:FDef :=
 { params:=3,slots:=7,body:=[.ite (.cmp .ne (.call 76 [(.var 1),(.cst (.str 903890974183444709486))]) (.list [])) [.asgTs true [3,4] [(.tup [(.tup [(.cst (.int 0)),(.cst (.bool false)),(.tup [(.cst (.str 122))]),(.cst (.str 0)),(.call 78 [(.var 0),(.var 1)])])]),(.mut (.dkw (.var 1) [(122,903890974183444709486)]))]] [.ite (.cmp .eq (.call 75 [(.var 0),(.cst (.int 2))]) (.cst (.int 0))) [.asg (.name 3) (.tup [(.tup [(.cst (.int 0)),(.cmp .eq (.call 75 [(.var 0),(.cst (.int 2))]) (.cst (.int 1))),(.tup [(.cst (.str 121)),(.cst (.str 122))]),(.cst (.str 0)),(.call 78 [(.var 0),(.var 1)])])]),
    .asg (.name 4) (.mut (.dkw (.var 1) [(121,903890974183444709486),(122,903890974183444709486)]))] [.asgTs true [5,6] [(.item (.list [(.cst (.str 121)),(.cst (.str 122))]) (.call 75 [(.var 0),(.cst (.int 2))])),(.item (.list [(.cst (.str 111)),(.cst (.str 121))]) (.call 75 [(.var 0),(.cst (.int 2))]))],
    .asgTs true [3,4] [(.tup [(.tup [(.cst (.int 0)),(.cst (.bool false)),(.tup [(.var 5)]),(.cst (.str 0)),(.call 78 [(.var 0),(.var 1)])])]),(.mut (.bi .dict [(.var 1)]))],
    .asg (.item (.var 4) (.var 5)) (.cst (.str 903890974183444709486)),
    .ite (.cmp .eq (.call 75 [(.var 0),(.cst (.int 2))]) (.cst (.int 1))) [.asg (.name 3) (.bin .add (.var 3) (.tup [(.tup [(.cst (.int 0)),(.cst (.bool false)),(.tup [(.var 6)]),(.cst (.str 492581442027622)),(.call 78 [(.var 0),(.var 4)])])])),
     .asg (.item (.var 4) (.var 6)) (.cst (.str 903890974183444709486))] []]],
  .ret (.tup [(.cst (.str 2205081783335414972318482549)),(.cst (.int 0)),(.cst (.str 510173642752110)),(.var 3),(.call 82 [(.var 0),(.var 4),(.bin .sub (.var 2) (.cst (.int 1)))])])] }
noncomputable def bJ:FDef :=
 { params:=3,slots:=8,body:=[.asg (.item (.var 0) (.cst (.str 1005348000618130702453))) (.bin .sub (.item (.var 0) (.cst (.str 1005348000618130702453))) (.cst (.int 1))),
  .asg (.name 3) (.ite (.and [(.cmp .gt (.var 2) (.cst (.int 0))),(.cmp .gt (.item (.var 0) (.cst (.str 1005348000618130702453))) (.cst (.int 0)))]) (.call 75 [(.var 0),(.cst (.int 10))]) (.call 75 [(.var 0),(.cst (.int 3))])),
  .ite (.cmp .eq (.var 3) (.cst (.int 0))) [.ret (.tup [(.cst (.str 488183410196590)),(.cst (.int 0)),(.call 75 [(.var 0),(.cst (.int 4))])])] [],
  .ite (.or [(.cmp .eq (.var 3) (.cst (.int 1))),(.and [(.cmp .eq (.var 3) (.cst (.int 2))),(.cmp .eq (.call 76 [(.var 1),(.cst (.str 4502697214463632837895632474603635))]) (.list []))])]) [.ret (.tup [(.cst (.str 247464047)),(.cst (.int 0)),(.cst (.str 36)),(.call 77 [(.var 0),(.var 1)])])] [],
  .ite (.cmp .eq (.var 3) (.cst (.int 2))) [.ret (.tup [(.cst (.str 1023794727099668889702)),(.cst (.int 0)),(.item (.call 76 [(.var 1),(.cst (.str 4502697214463632837895632474603635))]) (.cst (.int (-1))))])] [],
  .ite (.and [(.cmp .lt (.var 3) (.cst (.int 5))),(.cmp .gt (.var 2) (.cst (.int 1)))]) [.ret (.call 81 [(.var 0),(.var 1),(.var 2)])] [],
  .ite (.cmp .lt (.var 3) (.cst (.int 7))) [.ret (.call 80 [(.var 0),(.var 1),(.var 2)])] [],
  .ite (.cmp .eq (.var 3) (.cst (.int 7))) [.ret (.tup [(.cst (.str 247464047)),(.cst (.int 0)),(.cst (.str 46)),(.call 82 [(.var 0),(.var 1),(.bin .sub (.var 2) (.cst (.int 1)))])])] [],
  .ite (.cmp .eq (.var 3) (.cst (.int 8))) [.ret (.tup [(.cst (.str 222298215)),(.cst (.int 0)),(.call 79 [(.var 0),(.var 1)]),(.call 82 [(.var 0),(.var 1),(.cst (.int 0))]),(.call 82 [(.var 0),(.var 1),(.bin .sub (.var 2) (.cst (.int 1)))])])] [],
  .asgTs true [4,5] [(.item (.list [(.cst (.str 121)),(.cst (.str 111))]) (.call 75 [(.var 0),(.cst (.int 2))])),(.cmp .eq (.call 75 [(.var 0),(.cst (.int 2))]) (.cst (.int 1)))],
  .asg (.name 6) (.ite (.var 5) (.call 77 [(.var 0),(.var 1)]) (.call 82 [(.var 0),(.var 1),(.cst (.int 0))])),
  .asg (.name 7) (.mut (.bi .dict [(.var 1)])),
  .asg (.item (.var 7) (.var 4)) (.ite (.var 5) (.cst (.str 510173609197685)) (.cst (.str 4502697214463632837895632474603635))),
  .ret (.tup [(.cst (.str 479387283619957)),(.cst (.int 0)),(.var 4),(.var 6),(.call 82 [(.var 0),(.var 7),(.bin .sub (.var 2) (.cst (.int 1)))])])] }
noncomputable def cQ:FDef :=
 { params:=1,slots:=10,body:=[.asgTs false [1,2,3] [(.bin .add (.cst (.int 1)) (.call 75 [(.var 0),(.cst (.int 7))])),(.call 75 [(.var 0),(.cst (.int 8))]),(.call 75 [(.var 0),(.cst (.int 64))])],
  .asg (.name 4) (.comp (.gen (.one 6) (.range (.cst (.int 3))) [(.cmp .eq (.bin .band (.bin .shr (.var 1) (.var 6)) (.cst (.int 1))) (.cst (.int 1)))] (.elt (.tup [(.var 6)])))),
  .asg (.name 5) (.comp (.gen (.one 7) (.val (.var 4)) [(.cmp .eq (.bin .band (.bin .shr (.var 2) (.item (.var 7) (.cst (.int 0)))) (.cst (.int 1))) (.cst (.int 1)))] (.elt (.var 7)))),
  .ret (.list [(.var 4),(.var 5),(.comp (.gen (.one 8) (.val (.var 4)) [] (.gen (.one 9) (.range (.cst (.int 3))) [(.cmp .eq (.bin .band (.bin .shr (.var 3) (.bin .add (.bin .mul (.cst (.int 2)) (.item (.var 8) (.cst (.int 0)))) (.var 9))) (.cst (.int 1))) (.cst (.int 1)))] (.elt (.tup [(.item (.var 8) (.cst (.int 0))),(.var 9)])))))])] }
noncomputable def jH:FDef :=
 { params:=3,slots:=6,body:=[.ite (.cmp .eq (.var 0) (.cst (.str 986901300524892553327))) [.ret (.bi .sortedSet [(.comp (.gen (.one 3) (.val (.var 1)) [] (.gen (.one 4) (.val (.var 2)) [(.cmp .eq (.item (.var 3) (.cst (.int (-1)))) (.item (.var 4) (.cst (.int 0))))] (.elt (.bin .add (.sl (.var 3) (.cst .none) (.cst (.int (-1)))) (.sl (.var 4) (.cst (.int 1)) (.cst .none)))))))])] [],
  .ret (.ite (.cmp .eq (.var 0) (.cst (.str 2282452971227182165890433135))) (.bi .sortedSet [(.bin .add (.var 1) (.var 2))]) (.comp (.gen (.one 5) (.val (.var 1)) [(.cmp .notIn (.var 5) (.var 2))] (.elt (.var 5)))))] }
noncomputable def fO:FDef :=
 { params:=3,slots:=4,body:=[.ite (.cmp .eq (.var 0) (.cst (.str 222298223))) [.ret (.cmp .eq (.comp (.gen (.one 3) (.val (.var 1)) [(.cmp .notIn (.var 3) (.var 2))] (.elt (.var 3)))) (.list []))] [],
  .ite (.cmp .in_ (.var 0) (.tup [(.cst (.str 62)),(.cst (.str 71303230))])) [.ret (.cmp .eq (.cmp .eq (.var 1) (.var 2)) (.cmp .eq (.var 0) (.cst (.str 62))))] [],
  .ret (.ite (.cmp .eq (.var 0) (.cst (.str 61))) (.cmp .lt (.var 1) (.var 2)) (.ite (.cmp .eq (.var 0) (.cst (.str 127926334))) (.cmp .le (.var 1) (.var 2)) (.cmp .gt (.var 1) (.var 2))))] }
noncomputable def hJ:FDef :=
 { params:=3,slots:=13,body:=[.asg (.name 3) (.item (.var 0) (.cst (.int 0))),
  .ite (.cmp .eq (.var 3) (.cst (.str 488183410196590))) [.ret (.item (.var 0) (.cst (.int 2)))] [],
  .ite (.cmp .eq (.var 3) (.cst (.str 1023794727099668889702))) [.ret (.ite (.cmp .in_ (.item (.var 0) (.cst (.int 2))) (.var 1)) (.item (.var 1) (.item (.var 0) (.cst (.int 2)))) (.item (.var 2) (.sfind (.item (.var 0) (.cst (.int 2))))))] [],
  .ite (.cmp .eq (.var 3) (.cst (.str 2205081783335414972318482549))) [.ret (.bi .sum [(.comp (.gen (.one 12) (.val (.call 87 [(.item (.var 0) (.cst (.int 3))),(.var 1),(.var 2)])) [] (.elt (.call 86 [(.item (.var 0) (.cst (.int 4))),(.var 12),(.var 2)]))))])] [],
  .ite (.cmp .eq (.var 3) (.cst (.str 222298215))) [.ret (.call 86 [(.ite (.call 86 [(.item (.var 0) (.cst (.int 2))),(.var 1),(.var 2)]) (.item (.var 0) (.cst (.int 3))) (.item (.var 0) (.cst (.int 4)))),(.var 1),(.var 2)])] [],
  .ite (.cmp .eq (.var 3) (.cst (.str 479387283619957))) [.asg (.name 4) (.mut (.bi .dict [(.var 1)])),
   .asg (.item (.var 4) (.item (.var 0) (.cst (.int 2)))) (.call 86 [(.item (.var 0) (.cst (.int 3))),(.var 1),(.var 2)]),
   .ret (.call 86 [(.item (.var 0) (.cst (.int 4))),(.var 4),(.var 2)])] [],
  .ite (.cmp .eq (.var 3) (.cst (.str 247464047))) [.asg (.name 5) (.call 86 [(.item (.var 0) (.cst (.int 3))),(.var 1),(.var 2)]),
   .ite (.cmp .eq (.item (.var 0) (.cst (.int 2))) (.cst (.str 46))) [.ret (.bin .sub (.cst (.int 0)) (.var 5))] [],
   .asg (.name 6) (.bi .len [(.var 5)]),
   .ret (.ite (.cmp .eq (.item (.var 0) (.cst (.int 2))) (.cst (.str 36))) (.var 6) (.item (.dict [(.cst (.str 1069911648856593924198)),(.cmp .gt (.var 6) (.cst (.int 0))),(.cst (.str 232783984)),(.cmp .eq (.var 6) (.cst (.int 0))),(.cst (.str 492581442027622)),(.cmp .eq (.var 6) (.cst (.int 1)))]) (.item (.var 0) (.cst (.int 2)))))] [],
  .ite (.cmp .eq (.var 3) (.cst (.str 435406839480441))) [.asgTs true [7,8] [(.item (.var 0) (.cst (.int 2))),(.item (.item (.var 0) (.cst (.int 3))) (.cst (.int (-1))))],
   .ite (.cmp .eq (.bi .len [(.item (.var 0) (.cst (.int 3)))]) (.cst (.int 2))) [.asgTs true [9,10] [(.item (.var 7) (.cst (.int 2))),(.item (.item (.var 0) (.cst (.int 3))) (.cst (.int 0)))]] [.asgT [9,10] (.ite (.cmp .eq (.item (.var 7) (.cst (.int 0))) (.cst (.str 435406826897519))) (.tup [(.item (.item (.var 7) (.cst (.int 4))) (.cst (.int 2))),(.item (.var 7) (.cst (.int 3)))]) (.tup [(.item (.item (.var 7) (.cst (.int 2))) (.cst (.int 2))),(.item (.item (.var 7) (.cst (.int 3))) (.cst (.int 0)))]))],
   .asgTs true [5,11] [(.call 86 [(.var 10),(.var 1),(.var 2)]),(.call 86 [(.var 8),(.var 1),(.var 2)])],
   .ret (.ite (.cmp .eq (.var 9) (.cst (.str 1042241519551906840692))) (.bin .add (.var 5) (.var 11)) (.ite (.cmp .eq (.var 9) (.cst (.str 2127710420199671437499302004))) (.bin .sub (.var 5) (.var 11)) (.bin .mul (.var 5) (.var 11))))] [],
  .asgTs true [5,11] [(.call 86 [(.item (.var 0) (.cst (.int 3))),(.var 1),(.var 2)]),(.call 86 [(.item (.var 0) (.cst (.int 4))),(.var 1),(.var 2)])],
  .ite (.cmp .in_ (.item (.var 0) (.cst (.int 2))) (.tup [(.cst (.str 47)),(.cst (.str 44)),(.cst (.str 46))])) [.ret (.call 84 [(.item (.dict [(.cst (.str 47)),(.cst (.str 986901300524892553327)),(.cst (.str 44)),(.cst (.str 2282452971227182165890433135)),(.cst (.str 46)),(.cst (.str 2127710420199671437499302004))]) (.item (.var 0) (.cst (.int 2)))),(.var 5),(.var 11)])] [],
  .ret (.call 85 [(.item (.var 0) (.cst (.int 2))),(.var 5),(.var 11)])] }
noncomputable def iD:FDef :=
 { params:=3,slots:=17,body:=[.asg (.name 3) (.list [(.var 1)]),
  .for_ (.many [4,5,6,7,8]) (.val (.var 0)) [.asg (.name 9) (.list []),
   .for_ (.one 10) (.val (.var 3)) [.asgTs false [11,12] [(.call 86 [(.var 8),(.var 10),(.var 2)]),(.list [(.var 10)])],
    .for_ (.one 13) (.val (.var 6)) [.asg (.name 12) (.comp (.gen (.one 14) (.val (.var 12)) [] (.gen (.one 15) (.val (.var 11)) [] (.elt (.bi .dict [(.bin .add (.bi .items [(.var 14)]) (.list [(.tup [(.var 13),(.list [(.var 15)])])]))])))))],
    .asg (.name 9) (.bin .add (.var 9) (.comp (.gen (.one 16) (.val (.var 12)) [(.or [(.not (.var 5)),(.cmp .ne (.item (.var 16) (.cst (.str 121))) (.item (.var 16) (.cst (.str 122))))])] (.elt (.var 16)))))],
   .asg (.name 3) (.var 9)],
  .ret (.var 3)] }
noncomputable def bZ:FDef :=
 { params:=3,slots:=12,body:=[.asg (.name 3) (.item (.var 0) (.cst (.int 0))),
  .ite (.cmp .eq (.var 3) (.cst (.str 488183410196590))) [.ret (.item (.var 0) (.cst (.int 1)))] [],
  .ite (.cmp .eq (.var 3) (.cst (.str 505775562686573))) [.ret (.item (.var 2) (.item (.var 0) (.cst (.int 1))))] [],
  .ite (.cmp .eq (.var 3) (.cst (.str 523367740342387))) [.ret (.item (.var 1) (.item (.var 0) (.cst (.int 1))))] [],
  .ite (.cmp .eq (.var 3) (.cst (.str 1079135034087605010534))) [.raise] [],
  .ite (.cmp .in_ (.var 3) (.tup [(.cst (.str 431008790872165)),(.cst (.str 234881139))])) [.raise,
   .raise] [],
  .ite (.cmp .eq (.var 3) (.cst (.str 488183397613685))) [.ret (.not (.call 88 [(.item (.var 0) (.cst (.int 1))),(.var 1),(.var 2)]))] [],
  .ite (.cmp .eq (.var 3) (.cst (.str 510173642752110))) [.asg (.name 5) (.list [(.var 1)]),
   .for_ (.many [6,7]) (.val (.item (.var 0) (.cst (.int 1)))) [.asg (.name 5) (.comp (.gen (.one 8) (.val (.var 5)) [] (.gen (.one 9) (.val (.call 88 [(.var 7),(.var 8),(.var 2)])) [] (.elt (.bi .dict [(.bin .add (.bi .items [(.var 8)]) (.list [(.tup [(.var 6),(.list [(.var 9)])])]))])))))],
   .ret (.bi .sum [(.comp (.gen (.one 10) (.val (.var 5)) [] (.elt (.call 88 [(.item (.var 0) (.cst (.int 2))),(.var 10),(.var 2)]))))])] [],
  .ite (.cmp .eq (.var 3) (.cst (.str 4056483951726744055527172950982758))) [.ret (.call 88 [(.ite (.call 88 [(.item (.var 0) (.cst (.int 1))),(.var 1),(.var 2)]) (.item (.var 0) (.cst (.int 2))) (.item (.var 0) (.cst (.int 3)))),(.var 1),(.var 2)])] [],
  .asg (.name 4) (.comp (.gen (.one 11) (.val (.sl (.var 0) (.cst (.int 1)) (.cst .none))) [] (.elt (.call 88 [(.var 11),(.var 1),(.var 2)])))),
  .ite (.cmp .eq (.var 3) (.cst (.str 1934282344401593776985866357))) [.ret (.bi .len [(.item (.var 4) (.cst (.int 0)))])] [],
  .ite (.cmp .in_ (.var 3) (.tup [(.cst (.str 1069911648856593924198)),(.cst (.str 232783984)),(.cst (.str 492581442027622))])) [.ret (.item (.dict [(.cst (.str 1069911648856593924198)),(.cmp .ne (.item (.var 4) (.cst (.int 0))) (.list [])),(.cst (.str 232783984)),(.cmp .eq (.item (.var 4) (.cst (.int 0))) (.list [])),(.cst (.str 492581442027622)),(.cmp .eq (.bi .len [(.item (.var 4) (.cst (.int 0)))]) (.cst (.int 1)))]) (.var 3))] [],
  .ite (.cmp .in_ (.var 3) (.tup [(.cst (.str 1042241519551906840692)),(.cst (.str 1005348000618157965428)),(.cst (.str 2263110111996505506986328180))])) [.ret (.ite (.cmp .eq (.var 3) (.cst (.str 1042241519551906840692))) (.bin .add (.item (.var 4) (.cst (.int 0))) (.item (.var 4) (.cst (.int 1)))) (.ite (.cmp .eq (.var 3) (.cst (.str 1005348000618157965428))) (.bin .sub (.item (.var 4) (.cst (.int 0))) (.item (.var 4) (.cst (.int 1)))) (.bin .mul (.item (.var 4) (.cst (.int 0))) (.item (.var 4) (.cst (.int 1))))))] [],
  .ite (.cmp .in_ (.var 3) (.tup [(.cst (.str 986901300524892553327)),(.cst (.str 2282452971227182165890433135)),(.cst (.str 2127710420199671437499302004))])) [.ret (.call 84 [(.var 3),(.item (.var 4) (.cst (.int 0))),(.item (.var 4) (.cst (.int 1)))])] [],
  .ret (.call 85 [(.item (.dict [(.cst (.str 222298223)),(.cst (.str 222298223)),(.cst (.str 1069911587283942768742)),(.cst (.str 62)),(.cst (.str 213909618)),(.cst (.str 62)),(.cst (.str 228589685)),(.cst (.str 61)),(.cst (.str 228589670)),(.cst (.str 127926334))]) (.var 3)),(.item (.var 4) (.cst (.int 0))),(.item (.var 4) (.cst (.int 1)))])] }
noncomputable def sP:FDef :=
 { params:=1,slots:=12,body:=[.asg (.name 1) (.mut (.dict [(.cst (.str 1934282252167833826015314036)),(.comp (.gen (.one 9) (.val (.sl (.var 0) (.cst .none) (.cst (.int 63)))) [] (.elt (.bi .abs [(.var 9)])))),(.cst (.str 1069911653254644629621)),(.cst (.int 0)),(.cst (.str 1005348000618130702453)),(.cst (.int 0))])),
  .asg (.name 2) (.tup [(.cst (.int 0)),(.cst (.bool false)),(.tup [(.cst (.str 103))]),(.cst (.str 510173609197685)),(.tup [(.cst (.str 1023794727099668889702)),(.cst (.int 0)),(.cst (.str 66))])]),
  .asg (.name 3) (.list [(.tup [(.cst (.str 510173617586280)),(.cst (.int 0)),(.tup [(.cst (.str 66))]),(.cst (.bool false)),(.cst (.str 0)),(.cst (.str 0)),(.tup []),(.tup [(.var 2)]),(.tup [])]),(.tup [(.cst (.str 510173617586280)),(.cst (.int 0)),(.tup [(.cst (.str 67))]),(.cst (.bool false)),(.cst (.str 0)),(.cst (.str 66)),(.tup []),(.tup []),(.tup [])])]),
  .asgTs true [4,5,6] [(.new 1 [(.new 2 [(.var 3)]),(.cst .none),(.var 3),(.dict [(.cst (.str 66)),(.cst (.int 0)),(.cst (.str 67)),(.cst (.int 1)),(.cst (.str 290271168299111)),(.cst (.int 2))])]),(.mut (.list [])),(.mut (.list []))],
  .for_ (.one 7) (.range (.cst (.int 2))) [.asg (.item (.var 1) (.cst (.str 1005348000618130702453))) (.cst (.int 8)),
   .mth .app (.var 5) (.call 82 [(.var 1),(.dict []),(.cst (.int 3))]),
   .mth .app (.var 6) (.meth (.var 4) 4502697214463632837895632474603635 [(.item (.var 5) (.cst (.int (-1)))),(.dict [])])],
  .for_ (.one 7) (.range (.cst (.int 2))) [.asg (.name 8) (.call 83 [(.var 1)]),
   .ite (.cmp .ne (.comp (.gen (.one 10) (.val (.var 6)) [] (.elt (.call 88 [(.var 10),(.dict []),(.var 8)])))) (.comp (.gen (.one 11) (.val (.var 5)) [] (.elt (.call 86 [(.var 11),(.dict []),(.var 8)]))))) [.raise] []],
  .ret (.cst (.bool true))] }
noncomputable def fnL:List (Nat × FDef):=[(1,oU),(2,aFb),(3,qV),(4,rD),(5,wD),(6,qX),(8,pD),(9,rG),(13,gH),(14,fS),(15,cC),(16,dJ),(17,cJ),(18,eG),(19,eE),(21,bL),(22,cV),(23,dG),(24,eB),(26,jG),(27,dN),(29,aH),(30,bQ),(32,kB),(33,eC),(37,cD),(39,iJ),(40,dB),(41,fP),(42,cS),(52,jR),(53,iP),(54,gW),(55,jS),(56,fJ),(57,gQ),(58,gF),(61,mI),(63,jV),(64,jX),(65,hV),(69,hU),(72,jT),(74,jW),(75,hH),(76,jZ),(77,dY),(78,kZ),(79,fZ),(80,cZ),(81,dU),(82,bJ),(83,cQ),(84,jH),(85,fO),(86,hJ),(87,iD),(88,bZ),(89,sP)]
noncomputable def nmL:List (Nat × List (Str × Nat)):=[(1,[(("formulas":Str),0)]),(2,[(("exprs":Str),0),(("found":Str),1),(("expr":Str),2)]),(3,[(("self":Str),0),(("signatures":Str),1),(("kinds":Str),2),(("items":Str),3),(("numbers":Str),4),(("item":Str),5)]),(4,[(("self":Str),0),(("name":Str),1)]),(5,[(("self":Str),0),(("name":Str),1)]),(6,[(("self":Str),0),(("name":Str),1)]),(8,[(("self":Str),0),(("name":Str),1),(("last":Str),2),(("orders":Str),3)]),(9,[(("self":Str),0),(("name":Str),1),(("spot":Str),2),(("owners":Str),3),(("last":Str),4),(("orders":Str),5)]),(13,[(("self":Str),0),(("expr":Str),1),(("head":Str),2)]),(14,[(("self":Str),0),(("r":Str),1),(("field":Str),2)]),(15,[(("self":Str),0),(("signatures":Str),1),(("kinds":Str),2),(("items":Str),3),(("numbers":Str),4)]),(16,[(("self":Str),0),(("nodes":Str),1),(("levels":Str),2)]),(17,[(("self":Str),0),(("node":Str),1),(("env":Str),2),(("before":Str),3),(("peak":Str),4),(("found":Str),5),(("cost":Str),6)]),(18,[(("self":Str),0),(("name":Str),1),(("env":Str),2),(("nodes":Str),3),(("levels":Str),4)]),(19,[(("self":Str),0),(("node":Str),1),(("env":Str),2),(("op":Str),3),(("inner":Str),4),(("head":Str),5),(("name":Str),6),(("args":Str),7)]),(21,[(("self":Str),0),(("node":Str),1),(("env":Str),2),(("form":Str),3)]),(22,[(("self":Str),0),(("node":Str),1),(("env":Str),2),(("found":Str),3)]),(23,[(("self":Str),0),(("node":Str),1),(("env":Str),2),(("name":Str),3),(("args":Str),4)]),(24,[(("self":Str),0),(("node":Str),1),(("env":Str),2),(("name":Str),3),(("args":Str),4)]),(26,[(("self":Str),0),(("node":Str),1),(("env":Str),2),(("found":Str),3)]),(27,[(("self":Str),0),(("node":Str),1),(("env":Str),2),(("op":Str),3),(("before":Str),4),(("c":Str),5),(("one":Str),6),(("other":Str),7),(("name":Str),8),(("args":Str),9),(("inner":Str),10)]),(29,[(("self":Str),0),(("node":Str),1),(("env":Str),2),(("sign":Str),3),(("left":Str),4),(("right":Str),5),(("i":Str),6),(("j":Str),7)]),(30,[(("self":Str),0),(("decls":Str),1),(("env":Str),2),(("found":Str),3),(("apart":Str),4),(("spot":Str),5),(("is_disj":Str),6),(("names":Str),7),(("mult":Str),8),(("node":Str),9),(("domain":Str),10),(("some":Str),11),(("k":Str),12),(("name":Str),13)]),(32,[(("self":Str),0),(("node":Str),1),(("env":Str),2),(("found":Str),3)]),(33,[(("self":Str),0),(("node":Str),1),(("env":Str),2),(("op":Str),3),(("told":Str),4),(("inner":Str),5),(("apart":Str),6),(("name":Str),7),(("args":Str),8),(("found":Str),9),(("one":Str),10)]),(37,[(("self":Str),0),(("value":Str),1),(("form":Str),2),(("spot":Str),3),(("is_number":Str),4)]),(39,[(("self":Str),0),(("node":Str),1),(("env":Str),2),(("found":Str),3)]),(40,[(("self":Str),0),(("node":Str),1),(("env":Str),2),(("op":Str),3),(("told":Str),4),(("inner":Str),5),(("apart":Str),6),(("found":Str),7),(("name":Str),8),(("args":Str),9)]),(41,[(("self":Str),0),(("node":Str),1)]),(42,[(("self":Str),0),(("value":Str),1),(("node":Str),2),(("env":Str),3),(("found":Str),4)]),(52,[(("self":Str),0),(("items":Str),1),(("item":Str),2),(("name":Str),3)]),(53,[(("self":Str),0),(("item":Str),1),(("name":Str),2)]),(54,[(("self":Str),0),(("name":Str),1),(("other":Str),2)]),(55,[(("self":Str),0),(("name":Str),1)]),(56,[(("self":Str),0),(("found":Str),1),(("rest":Str),2),(("able":Str),3)]),(57,[(("self":Str),0),(("found":Str),1),(("group":Str),2),(("name":Str),3),(("spot":Str),4),(("is_disj":Str),5),(("fields":Str),6),(("mult":Str),7),(("node":Str),8),(("field":Str),9)]),(58,[(("self":Str),0),(("seen":Str),1),(("field":Str),2),(("name":Str),3),(("mult":Str),4),(("node":Str),5),(("spot":Str),6),(("group":Str),7),(("other":Str),8)]),(61,[(("self":Str),0),(("name":Str),1)]),(63,[(("self":Str),0),(("name":Str),1)]),(64,[(("self":Str),0),(("name":Str),1)]),(65,[(("self":Str),0),(("name":Str),1)]),(69,[(("self":Str),0),(("name":Str),1),(("found":Str),2),(("waiting":Str),3),(("other":Str),4)]),(72,[(("self":Str),0)]),(74,[(("self":Str),0)]),(75,[(("feed":Str),0),(("many":Str),1),(("spot":Str),2)]),(76,[(("scope":Str),0),(("sort":Str),1)]),(77,[(("feed":Str),0),(("scope":Str),1),(("way":Str),2),(("atoms":Str),3),(("late":Str),4)]),(78,[(("feed":Str),0),(("scope":Str),1),(("way":Str),2),(("atoms":Str),3)]),(79,[(("feed":Str),0),(("scope":Str),1),(("way":Str),2),(("sign":Str),3)]),(80,[(("feed":Str),0),(("scope":Str),1),(("deep":Str),2),(("name":Str),3),(("form":Str),4),(("one":Str),5),(("other":Str),6)]),(81,[(("feed":Str),0),(("scope":Str),1),(("deep":Str),2),(("decls":Str),3),(("inner":Str),4),(("first":Str),5),(("late":Str),6)]),(82,[(("feed":Str),0),(("scope":Str),1),(("deep":Str),2),(("way":Str),3),(("name":Str),4),(("is_set":Str),5),(("told":Str),6),(("inner":Str),7)]),(83,[(("feed":Str),0),(("some":Str),1),(("few":Str),2),(("pairs":Str),3),(("a":Str),4),(("b":Str),5)]),(84,[(("op":Str),0),(("one":Str),1),(("other":Str),2)]),(85,[(("op":Str),0),(("one":Str),1),(("other":Str),2)]),(86,[(("node":Str),0),(("env":Str),1),(("world":Str),2),(("kind":Str),3),(("inner":Str),4),(("one":Str),5),(("many":Str),6),(("head":Str),7),(("late":Str),8),(("name":Str),9),(("first":Str),10),(("other":Str),11)]),(87,[(("decls":Str),0),(("env":Str),1),(("world":Str),2),(("found":Str),3),(("spot":Str),4),(("is_disj":Str),5),(("names":Str),6),(("mult":Str),7),(("domain":Str),8),(("late":Str),9),(("one":Str),10),(("rows":Str),11),(("some":Str),12),(("name":Str),13)]),(88,[(("told":Str),0),(("env":Str),1),(("world":Str),2),(("op":Str),3),(("some":Str),4),(("found":Str),5),(("name":Str),6),(("domain":Str),7)]),(89,[(("script":Str),0),(("feed":Str),1),(("own":Str),2),(("items":Str),3),(("opener":Str),4),(("nodes":Str),5),(("told":Str),6),(("lap":Str),7),(("world":Str),8)])]
noncomputable def aVx:List (Nat × Nat):=[(1992310811413141719202398313,4),(505775562686573,5),(4543262072356571629796891589345396,6),(4583826678792810814624776111259764,8),(2147053159526524811376328805,9),(1895596745843988977414045818,13),(13718444222045834973046468235386452060926671848844973262849473248587749245040621500453887869439101108335,14)]
noncomputable def aYl:List (Nat × Nat):=[(1992310811413141719202398313,4),(505775562686573,5),(4543262072356571629796891589345396,6),(4583826678792810814624776111259764,8),(2147053159526524811376328805,9),(1895596745843988977414045818,13),(13718444222045834973046468235386452060926671848844973262849473248587749245040621500453887869439101108335,14),(2243767363446240513821245541,16),(19624664451911280203008333532949299169285111909,17),(1088358410522472743013,18),(950007812377492324462,19),(2301795664437192947725762662,21),(9272698636209395384337487287709031465079,22),(1914939439053977769006334063,23),(8507063148377852269946524166966015426663,24),(2263110195006889023082856553,26),(20873507288947498888387828772211953481738616935,27),(17840605686735234431804093745855180624776659045,29),(18019010797617156466320776713756646825720283239,30),(940784479923051954291,32),(8677205264829240640962846540743768539239,33),(4867780200473109852296548783751269,37),(4502697214463632837895632474603635,39),(41530051578307762505690398698420219511523434286809191,40),(39659329125711092606061701497258847366907394231631973,41),(8421993124555260641663923658296188207205,42),(0,3)]
noncomputable def aXu:List (Nat × Nat):=[(20873505842747033825917143739743621578993172584,53),(85525553048838452435796612866680672575463731298935710416998,54),(4097048790276888180281264314515573,55),(817781968424305856020720693277975001885178188133497416857951756894079352307829,56),(76894537040247973696483349677575856673244932794782289231988,57),(179360084627477658202635738266585308677210351137292936563493175412,58),(461795089186932,61),(4583826466022023359783464006058101,63),(4705521310500177212264409718587508,64),(39659329125711092606305090799358782114758691848716405,65),(36666172523616778228990244614959538096012432804675686,69),(4178178428691374958171360535249012,72),(4543261975642413826906189065093236,74)]
noncomputable def aVy:List (Nat × Nat):=[(0,3),(1,15),(2,52)]
noncomputable def aYh:List (Nat × V):=[(0,(.int 20000)),(1,(.int 100)),(2,(.tup [(.str 488183410196590),(.str 1934282344401593776985866357),(.str 1042241519551906840692),(.str 1005348000618157965428),(.str 2263110111996505506986328180),(.str 510173642752110),(.str 4056483951726744055527172950982758)])),(3,(.dict [((.str 1042241519551906840692),(.str 1042241519551906840692)),((.str 2127710420199671437499302004),(.str 1005348000618157965428)),((.str 483785363685485),(.str 2263110111996505506986328180))])),(4,(.tup [(.str 1079135034087605010534),(.str 1992310654615847878996787302),(.str 488183397613685),(.str 431008790872165),(.str 234881139),(.str 9017487185537167824034131633095323943028),(.str 466193146183783),(.str 222298223),(.str 1069911587283942768742),(.str 1069911648856593924198),(.str 232783984),(.str 492581442027622),(.str 1005348044598612590694),(.str 431008786677869),(.str 4137613899626305218353401740394612),(.str 228589670),(.str 228589685),(.str 213909618)])),(7,(.dict [((.str 44),(.str 2282452971227182165890433135)),((.str 39),(.str 1014571372654983381109)),((.str 46),(.str 2127710420199671437499302004)),((.str 47),(.str 986901300524892553327)),((.str 92274732),(.str 19981477821287991846518861117233156356625662054)),((.str 127926331),(.str 1895596653610251016640397413)),((.str 123732031),(.str 4015919074490936809546431789531237))])),(8,(.tup [(.str 127),(.str 95),(.str 43)]))]
noncomputable def aMd:List (Nat × List (Nat × Nat)):=[(0,aVx),(1,aYl),(2,aXu)]
noncomputable def prog:Prog:=⟨fun k=>fnL.lookup k,fun c n=>(aMd.lookup c).bind fun l=>l.lookup n,fun c=>aVy.lookup c,fun k=>aYh.lookup k⟩
noncomputable def flds:List Str:=[("calls":Str),("count":Str),("entries":Str),("height":Str),("items":Str),("kinds":Str),("numbers":Str),("opened":Str),("ordered":Str),("own_fields":Str),("peak":Str),("signatures":Str),("spent":Str),("stands":Str)]
noncomputable def mths:List Str:=[("all_above":Str),("all_fields":Str),("arity":Str),("arity_of_relation":Str),("begun":Str),("bounded":Str),("call_of":Str),("compared":Str),("decls_of":Str),("direct":Str),("expr":Str),("expr_of":Str),("fields":Str),("form":Str),("fresh":Str),("has":Str),("is_marked":Str),("is_subset":Str),("let_env":Str),("look_above":Str),("look_fields":Str),("measured":Str),("named":Str),("number":Str),("number_of":Str),("orders":Str),("owners":Str),("parent":Str),("parents_first":Str),("places":Str),("rel":Str),("spend":Str),("supers":Str),("take_sig":Str),("truth":Str),("truth_of":Str),("used":Str),("value":Str),("wanted":Str)]
noncomputable def fnN:List (Str × Nat):=[(("all_of":Str),1),(("united":Str),2),(("_law_draw":Str),75),(("_law_of_sort":Str),76),(("_law_set":Str),77),(("_law_domain":Str),78),(("_law_truth":Str),79),(("_law_call":Str),80),(("_law_sum":Str),81),(("_law_number":Str),82),(("_law_world":Str),83),(("_law_two":Str),84),(("_law_said":Str),85),(("_law_node":Str),86),(("_law_ways":Str),87),(("_law_open":Str),88),(("law":Str),89)]
noncomputable def bAi:List (Str × Nat):=[(("Names":Str),0),(("Opener":Str),1),(("Signatures":Str),2)]
noncomputable def yQ:List (Str × Nat):=[(("MOST_NODES":Str),0),(("MOST_LEVELS":Str),1),(("NUMBER_HEADS":Str),2),(("NUMBER_CALLS":Str),3),(("TRUTH_HEADS":Str),4),(("SET_SIGNS":Str),7),(("TURNED":Str),8)]
noncomputable def faL:List (Nat × Nat):=[(1,116),(2,123),(3,137),(4,144),(5,151),(6,156),(8,166),(9,171),(13,197),(14,202),(15,225),(16,232),(17,239),(18,246),(19,253),(21,267),(22,274),(23,281),(24,288),(26,300),(27,305),(29,319),(30,324),(32,338),(33,345),(37,371),(39,385),(40,392),(41,399),(42,406),(52,486),(53,493),(54,500),(55,507),(56,512),(57,519),(58,526),(61,545),(63,559),(64,566),(65,573),(69,601),(72,622),(74,636),(75,650),(76,655),(77,662),(78,669),(79,676),(80,683),(81,690),(82,697),(83,702),(84,707),(85,712),(86,717),(87,722),(88,727),(89,732)]
noncomputable def caL:List Nat:=[205,470,639]
noncomputable def fa(i:Nat):Nat:=(faL.lookup i).getD 1
noncomputable def ca(i:Nat):Nat:=caL.getD i 1
noncomputable def nms(i:Nat):List (Str × Nat):=(nmL.lookup i).getD []
end P2
end Mine.Internal
namespace Mine.Internal
open PySem PySem.W PyProof.Rows PySem.Calls
section
variable{O:KeyOrd}{key:Nat→O.α}{N:Nat}
noncomputable def KP(key:Nat→O.α)(p:Array Nat)(k:Nat):O.α:=key (p.getD k 0)
theorem lS{xs ys:Array Nat}{i j:Nat}(h:xs[i]?=ys[j]?):KP key xs i=KP key ys j:=by delta KP; exact rwS (Array.getD_eq_getD_getElem?) (rwS (Array.getD_eq_getD_getElem?) (rwS h rfl))
noncomputable def POk(N:Nat)(p:Array Nat):Prop:=p.Perm (List.toArray (List.range N))
noncomputable def Up(key:Nat→O.α)(p:Array Nat)(k:Nat):Prop:=∀i,i+1<k→O.klt (KP key p i) (KP key p (i+1))
noncomputable def Dn(key:Nat→O.α)(p:Array Nat)(k:Nat):Prop:=∀i,i+1<k→O.klt (KP key p (i+1)) (KP key p i)
variable{cmp:Nat→Nat→(Bool→Shared→Prop)→Shared→Prop}{s:Shared}{p:Array Nat}
structure CmpOk(O:KeyOrd)(key:Nat→O.α)(N:Nat)(cmp:Nat→Nat→(Bool→Shared→Prop)→Shared→Prop)(s:Shared):Prop where
 c:∀i j C,i<N→j<N→C (O.blt (key i) (key j)) s→cmp i j C s
 d:∀i j,i<N→j<N→key i=key j→i=j
theorem POk.size(h:POk N p):p.size=N:=h.size_eq.trans (by exact rwS List.size_toArray (rwS List.length_range rfl))
theorem POk.get(h:POk N p){k:Nat}(hk:k<N):∃h:k<p.toList.length,p.getD k 0=p.toList[k]:=by
 have hs:k<p.size:=by refine rwS h.size ?_; exact hk
 exact⟨by refine rwS Array.length_toList ?_; exact hs,by refine rwS (Array.getD_eq_getD_getElem?) (rwS (Array.getElem?_eq_getElem hs) ?_); rfl⟩
theorem POk.lt(h:POk N p){k:Nat}(hk:k<N):p.getD k 0<N:=by
 obtain⟨h1,e⟩:=h.get hk
 refine rwS e ?_
 exact List.mem_range.mp ((Array.perm_iff_toList_perm.mp h).mem_iff.mp (List.getElem_mem h1))
theorem POk.inj(h:POk N p){i j:Nat}(hi:i<N)(hj:j<N)(e:p.getD i 0=p.getD j 0):i=j:=by
 obtain⟨h1,e1⟩:=h.get hi
 obtain⟨h2,e2⟩:=h.get hj
 exact(List.getElem_inj ((Array.perm_iff_toList_perm.mp h).nodup_iff.mpr List.nodup_range)).mp (e1.symm.trans (e.trans e2))
theorem Up.lt{k:Nat}(h:Up key p k):∀{j i:Nat},i<j→j<k→O.klt (KP key p i) (KP key p j)
 | j+1,i,hij,hj=>(Nat.lt_or_eq_of_le (Nat.le_of_lt_succ hij)).elim (fun q=>O.trans _ _ _ (h.lt q (Nat.lt_of_succ_lt hj)) (h j hj)) fun q=>q▸h i (q▸hj)
theorem POk.cut(h:POk N p)(hc:CmpOk O key N cmp s){n:Nat}(hn:n+1<N)(h1:O.blt (KP key p (n+1)) (KP key p n)=false):O.klt (KP key p n) (KP key p (n+1)):=by
 cases e:O.blt (KP key p n) (KP key p (n+1)) with
 | true=>exact e
 | false=>exact absurd (h.inj hn (Nat.lt_of_succ_lt hn) (hc.d _ _ (h.lt hn) (h.lt (Nat.lt_of_succ_lt hn)) (O.total _ _ h1 e))) (Nat.succ_ne_self n)
theorem zB(hc:CmpOk O key N cmp s)(hp:POk N p){nrem:Nat}(hn:nrem≤N){Q:Nat→Shared→Prop}:∀(f n:Nat),(n+1)+f=nrem→Up key p (n+1) →
  (∀m,n≤m→m<nrem→Up key p (m+1)→(m+1=nrem∨O.klt (KP key p (m+1)) (KP key p m))→Q (m+1) s)→(kas_asc p f (n+1)).kasWp cmp Q s
 | 0,n,h2,hs,q=>q n (Nat.le_refl _) (Nat.lt_of_succ_le (Nat.le_of_eq h2)) hs (.inl h2)
 | f+1,n,h2,hs,q=>by
  have hlt:n+1<nrem:=Nat.lt_of_lt_of_le (Nat.lt_add_of_pos_right (Nat.succ_pos f)) (Nat.le_of_eq h2)
  have hN:=Nat.lt_of_lt_of_le hlt hn
  refine hc.c _ _ _ (hp.lt hN) (hp.lt (Nat.lt_of_succ_lt hN)) ?_
  show KasT.kasWp cmp (if O.blt (KP key p (n+1)) (KP key p n)=true then .ret (n+1) else kas_asc p f (n+1+1)) Q s
  cases hl:O.blt (KP key p (n+1)) (KP key p n) with
  | true=>exact q n (Nat.le_refl _) (Nat.lt_of_succ_lt hlt) hs (.inr hl)
  | false=>exact zB hc hp hn f (n+1) (by rw[← h2,Nat.add_assoc (n+1),Nat.add_comm 1 f]) (fun i hi=>(Nat.lt_or_eq_of_le (Nat.le_of_lt_succ hi)).elim (hs i) fun e=>Nat.succ.inj e▸hp.cut hc (Nat.succ.inj e▸hN) (Nat.succ.inj e▸hl)) fun m a=>q m (Nat.le_of_succ_le a)
theorem aAs(hc:CmpOk O key N cmp s)(hp:POk N p){nrem:Nat}(hn:nrem≤N){Q:Array Nat × Nat × Nat→Shared→Prop}:∀(f n:Nat),(n+1)+f=nrem→Dn key p (n+1) →
  (∀m,m<nrem→Dn key p (m+1)→Q (p,m+1,0) s)→(kas_desc f p (n+1) 0).kasWp cmp Q s
 | 0,n,h2,hs,q=>q n (Nat.lt_of_succ_le (Nat.le_of_eq h2)) hs
 | f+1,n,h2,hs,q=>by
  have hlt:n+1<nrem:=Nat.lt_of_lt_of_le (Nat.lt_add_of_pos_right (Nat.succ_pos f)) (Nat.le_of_eq h2)
  have hN:=Nat.lt_of_lt_of_le hlt hn
  refine hc.c _ _ _ (hp.lt hN) (hp.lt (Nat.lt_of_succ_lt hN)) ?_
  show KasT.kasWp cmp (if O.blt (KP key p (n+1)) (KP key p n)=true then kas_desc f p (n+1+1) 0 else .ask (p.getD n 0) (p.getD (n+1) 0) fun d=>if d=true then .ret (p,n+1,0) else kas_desc f p (n+1+1) 1) Q s
  cases hl:O.blt (KP key p (n+1)) (KP key p n) with
  | true=>exact aAs hc hp hn f (n+1) (by rw[← h2,Nat.add_assoc (n+1),Nat.add_comm 1 f]) (fun i hi=>(Nat.lt_or_eq_of_le (Nat.le_of_lt_succ hi)).elim (hs i) fun e=>Nat.succ.inj e▸hl) q
  | false =>
   refine hc.c _ _ _ (hp.lt (Nat.lt_of_succ_lt hN)) (hp.lt hN) ?_
   show KasT.kasWp cmp (if O.blt (KP key p n) (KP key p (n+1))=true then .ret (p,n+1,0) else kas_desc f p (n+1+1) 1) Q s
   refine rwS (show O.blt (KP key p n) (KP key p (n+1))=true from hp.cut hc hN hl) ?_
   exact q n (Nat.lt_of_succ_lt hlt) hs
theorem Dn.rev(hp:POk N p){n:Nat}(hn:n≤N)(hs:Dn key p n):Up key (kas_rev p 0 n) n:=fun i hi=>by
 have e:∀k,k<n→KP key (kas_rev p 0 n) k=KP key p (n - 1 - k):=fun k hk=>lS (by
  have e:(kas_rev p 0 n)[k]?=_:=getElem?_mirror_all (i:=0) (by refine rwS hp.size ?_; exact hn) k
  rw[e,if_pos ⟨Nat.zero_le _,hk⟩,Nat.zero_add])
 have lt:i<n - 1:=Nat.lt_sub_of_add_lt hi
 have e2:n - 1 - i=n - 1 - (i+1)+1:=(Nat.succ_pred_eq_of_pos (Nat.sub_pos_of_lt lt)).symm
 refine rwS (e i (Nat.lt_of_succ_lt hi)) (rwS (e (i+1) hi) (rwS e2 ?_))
 exact hs _ (e2▸Nat.lt_of_le_of_lt (Nat.sub_le _ _) (Nat.sub_lt (Nat.lt_of_le_of_lt (Nat.zero_le _) hi) Nat.one_pos))
theorem aFe{Q:Nat × Array Nat→Shared→Prop}(hp:POk (N+1) p)(hc:CmpOk O key (N+1) cmp s)(q:∀m p',POk (N+1) p'→m≤N→Up key p' (m+1)→Q (m+1,p') s):(kas_count (N+1) p).kasWp cmp Q s:=by
 delta kas_count
 rw[KasT.kasWp_bind]
 refine zB hc hp (Nat.le_refl _) N 0 (Nat.add_comm 1 N) (fun i hi=>absurd hi (Nat.not_lt.mpr (Nat.le_add_left 1 i))) fun n _ hn2 hsn hor=>?_
 by_cases hnn:n=N
 ·refine rwS (if_pos (beq_iff_eq.mpr (congrArg (· + 1) hnn))) ?_
  exact q n p hp (Nat.le_of_lt_succ hn2) hsn
 ·refine rwS (if_neg fun e=>hnn (Nat.succ.inj (beq_iff_eq.mp e))) ?_
  have hlt:O.klt (KP key p (n+1)) (KP key p n):=hor.resolve_left fun e=>hnn (Nat.succ.inj e)
  cases n with
  | succ n =>
   refine rwS (if_pos (Nat.succ_lt_succ (Nat.succ_pos n))) ?_
   refine hc.c _ _ _ (hp.lt (Nat.succ_pos N)) (hp.lt hn2) ?_
   show KasT.kasWp cmp (if O.blt (KP key p 0) (KP key p (n+1))=true then .ret (n+1+1,p) else _) Q s
   refine rwS (if_pos (show O.blt (KP key p 0) (KP key p (n+1))=true from hsn.lt (Nat.succ_pos n) (Nat.lt_succ_self _))) ?_
   exact q (n+1) p hp (Nat.le_of_lt_succ hn2) hsn
  | zero =>
   refine rwS (if_neg (Nat.lt_irrefl 1)) ?_
   have h2:1<N+1:=Nat.succ_lt_succ (Nat.pos_of_ne_zero fun e=>hnn e.symm)
   delta kas_descPart
   rw[KasT.kasWp_bind]
   refine aAs hc hp (Nat.le_refl _) _ 1 (Nat.add_sub_of_le h2) (fun i hi=>by
    cases i with
    | zero=>exact hlt
    | succ i=>exact absurd hi (Nat.not_lt.mpr (Nat.le_add_left 2 i))) fun m hm hd=>?_
   show ((if 0 > 0 then _ else kas_tail3 (m+1) (N+1) p).kasWp cmp Q s)
   refine rwS (if_neg (Nat.lt_irrefl 0)) ?_
   delta kas_tail3
   rw[KasT.kasWp_bind]
   have hr:POk (N+1) (kas_rev p 0 (m+1)):=(mirror_perm p 0 (m+1) _).trans hp
   exact zB hc hr (Nat.le_refl _) _ m (Nat.add_sub_of_le hm) (hd.rev hp hm) fun k _ a2 a3 _=>q k _ hr (Nat.le_of_lt_succ a2) a3
theorem qS(hc:CmpOk O key N cmp s)(hp:POk N p){k:Nat}(hk:k<N)(hs:Up key p k){Q:Nat→Shared→Prop}(q:∀l,l≤k→(∀i,i<l→O.klt (KP key p i) (KP key p k))→(∀i,l≤i→i<k→O.klt (KP key p k) (KP key p i))→Q l s) :
  ∀(f l r:Nat),l≤r→r≤k→r≤l+f→(∀i,i<l→O.klt (KP key p i) (KP key p k))→(∀i,r≤i→i<k→O.klt (KP key p k) (KP key p i))→(kas_place p k f l r).kasWp cmp Q s
 | 0,l,r,h1,h2,h3,hlo,hhi=>q l (Nat.le_trans h1 h2) hlo fun i a b=>hhi i (Nat.le_trans h3 a) b
 | f+1,l,r,h1,h2,h3,hlo,hhi=>by
  unfold kas_place
  by_cases hge:l ≥ r
  ·refine rwS (if_pos hge) ?_
   exact q l (Nat.le_trans h1 h2) hlo fun i a b=>hhi i (Nat.le_trans hge a) b
  ·refine rwS (if_neg hge) ?_
   have m1:l≤(l+r) / 2:=(Nat.le_div_iff_mul_le Nat.two_pos).mpr (by rw[Nat.mul_two]; exact Nat.add_le_add_left h1 l)
   have m2:(l+r) / 2<r:=Nat.div_lt_of_lt_mul (by rw[Nat.two_mul]; exact Nat.add_lt_add_right (Nat.not_le.mp hge) r)
   have mk:=Nat.lt_of_lt_of_le m2 h2
   have h4:(l+r) / 2≤l+f:=Nat.le_of_lt_succ (Nat.lt_of_lt_of_le m2 h3)
   revert m1 m2 mk h4
   generalize (l+r) / 2=m
   intro m1 m2 mk h4
   refine hc.c _ _ _ (hp.lt hk) (hp.lt (Nat.lt_trans mk hk)) ?_
   show KasT.kasWp cmp (if O.blt (KP key p k) (KP key p m)=true then kas_place p k f l m else kas_place p k f (m+1) r) Q s
   cases hl:O.blt (KP key p k) (KP key p m) with
   | true=>exact qS hc hp hk hs q f l m m1 (Nat.le_of_lt mk) h4 hlo fun i a b=>(Nat.lt_or_eq_of_le a).elim (fun a=>O.trans _ _ _ hl (hs.lt a b)) fun e=>e▸hl
   | false =>
    have hmk:O.klt (KP key p m) (KP key p k):=by
     cases e:O.blt (KP key p m) (KP key p k) with
     | true=>exact e
     | false=>exact absurd (hp.inj hk (Nat.lt_trans mk hk) (hc.d _ _ (hp.lt hk) (hp.lt (Nat.lt_trans mk hk)) (O.total _ _ hl e))) (Nat.ne_of_gt mk)
    exact qS hc hp hk hs q f (m+1) r m2 h2 (Nat.le_trans h3 (by rw[Nat.add_assoc m,Nat.add_comm 1 f]; exact Nat.add_le_add_right m1 (f+1))) (fun i a=>(Nat.lt_or_eq_of_le (Nat.le_of_lt_succ a)).elim (fun a=>O.trans _ _ _ (hs.lt a mk) hmk) fun e=>e▸hmk) hhi
theorem sB{xs:Array Nat}{src l:Nat}(hs:src<xs.size)(hl:l≤src)(k:Nat) :
  KP key (bubble xs src (src - l)) k=if k=l then KP key xs src else if l<k∧k≤src then KP key xs (k - 1) else KP key xs k:=by
 have e:=getElem?_bubble hs (src - l) (Nat.sub_le _ _) k
 rw[Nat.sub_sub_self hl]at e
 by_cases h1:k=l
 ·rw[if_pos h1]at e ⊢; exact lS e
 ·rw[if_neg h1]at e ⊢
  by_cases h2:l<k∧k≤src
  ·rw[if_pos h2]at e ⊢; exact lS e
  ·rw[if_neg h2]at e ⊢; exact lS e
theorem aAg(hc:CmpOk O key N cmp s){Q:Array Nat→Shared→Prop}:∀(f k:Nat) (p:Array Nat),POk N p→k+f=N→Up key p k→(∀p',POk N p'→Up key p' N→Q p' s)→(kas_bin f p k).kasWp cmp Q s
 | 0,k,p,hp,h2,hs,q=>q p hp (h2▸hs)
 | f+1,k,p,hp,h2,hs,q=>by
  refine rwS (KasT.kasWp_bind ..) ?_
  have hk:k<N:=Nat.lt_of_lt_of_le (Nat.lt_add_of_pos_right (Nat.succ_pos f)) (Nat.le_of_eq h2)
  refine qS hc hp hk hs (fun l hlk hlo hhi=>?_) k 0 k (Nat.zero_le _) (Nat.le_refl _) (Nat.le_add_left _ _) (fun i hi=>absurd hi (Nat.not_lt_zero i)) fun i a b=>absurd b (Nat.not_lt.mpr a)
  refine aAg hc f (k+1) _ ((bubble_perm p k (k - l)).trans hp) (by rw[← h2,Nat.add_assoc,Nat.add_comm 1 f]) (fun i hi=>?_) q
  have hks:k<p.size:=by refine rwS hp.size ?_; exact hk
  rw[sB hks hlk,sB hks hlk]
  have hi:=Nat.le_of_lt_succ hi
  rcases Nat.lt_trichotomy i l with h | h | h
  ·refine rwS (if_neg (Nat.ne_of_lt h)) (rwS (if_neg fun e=>absurd e.1 (Nat.not_lt.mpr (Nat.le_of_lt h))) ?_)
   by_cases e:i+1=l
   ·refine rwS (if_pos e) ?_; exact hlo i h
   ·refine rwS (if_neg e) (rwS (if_neg fun w=>absurd h (Nat.not_lt.mpr (Nat.le_of_lt_succ w.1))) ?_)
    exact hs i (Nat.lt_of_lt_of_le (Nat.lt_of_le_of_ne h e) hlk)
  ·subst h
   refine rwS (if_pos rfl) (rwS (if_neg (Nat.succ_ne_self i)) (rwS (if_pos ⟨Nat.lt_succ_self i,hi⟩) ?_))
   exact hhi i (Nat.le_refl _) hi
  ·refine rwS (if_neg (Nat.ne_of_gt h)) (rwS (if_pos ⟨h,Nat.le_of_lt hi⟩) (rwS (if_neg (Nat.ne_of_gt (Nat.lt_succ_of_lt h))) (rwS (if_pos ⟨Nat.lt_succ_of_lt h,hi⟩) ?_)))
   cases i with
   | zero=>exact absurd h (Nat.not_lt_zero l)
   | succ i=>exact hs i hi
theorem aLq(hc:CmpOk O key (N+1) cmp s){Q:Array Nat→Shared→Prop}(q:∀p',POk (N+1) p'→Up key p' (N+1)→Q p' s):(kas_sort (N+1)).kasWp cmp Q s:=by
 delta kas_sort
 rw[KasT.kasWp_bind]
 refine aFe (N:=N) (Array.Perm.refl _) hc fun m p' a1 a3 a4=>?_
 show (if m+1<N+1 then kas_bin (N+1 - max (m+1) 1) p' (max (m+1) 1) else .ret p').kasWp cmp Q s
 refine rwS (Nat.max_eq_left (Nat.le_add_left 1 m)) ?_
 by_cases hm:m+1<N+1
 ·refine rwS (if_pos hm) ?_
  exact aAg hc _ _ p' a1 (Nat.add_sub_of_le (Nat.le_of_lt hm)) a4 q
 ·refine rwS (if_neg hm) ?_
  exact q p' a1 fun i hi=>a4 i (Nat.lt_of_lt_of_le hi (Nat.not_lt.mp hm))
end
noncomputable def rlt:List Int→List Int→Bool
 | [],[]=>false
 | [],_::_=>true
 | _::_,[]=>false
 | a::r,b::t=>if a=b then rlt r t else decide (a<b)
noncomputable def yH:KeyOrd:=⟨Nat,fun a b=>decide (a<b),fun a=>decide_eq_false (Nat.lt_irrefl a),fun a b c h1 h2=>decide_eq_true (Nat.lt_trans (of_decide_eq_true h1) (of_decide_eq_true h2)),
 fun a b c h=>(Nat.lt_or_ge a b).imp (fun h=>decide_eq_true h) fun q=>decide_eq_true (Nat.lt_of_le_of_lt q (of_decide_eq_true h)),fun a b h1 h2=>Nat.le_antisymm (Nat.not_lt.mp (of_decide_eq_false h2)) (Nat.not_lt.mp (of_decide_eq_false h1))⟩
noncomputable def rix(k:List Int):Nat:=bX.idxOf k
theorem aRi:(bX.all fun a=>bX.all fun b=>rlt a b==decide (rix a<rix b))=true:=by decide +kernel
theorem aMx:bX.Pairwise fun a b=>rix a<rix b:=by decide +kernel
theorem aMj{a b:List Int}(ha:a∈bX)(h:rix a=rix b):a=b:=by
 have l:rix a<bX.length:=List.idxOf_lt_length_iff.mpr ha
 refine rwT (List.getElem_idxOf l) ?_
 have l2:rix b<bX.length:=h▸l
 refine rwT (List.getElem_idxOf l2) ?_
 exact getElem_congr rfl h _
theorem rQ:∀{l:List V} {k:List Int},jQ l (k.map .int)=true→l=k.map .int
 | [],[],_=>rfl
 | [],_::_,h=>absurd h Bool.false_ne_true
 | _::_,[],h=>absurd h Bool.false_ne_true
 | v::l,i::k,h=>by
  rw[rQ (Bool.and_eq_true_iff.mp (show (V.beq v (.int i)&&jQ l (k.map .int))=true from h)).2,List.map_cons,show v=.int i by
   have h1:=(Bool.and_eq_true_iff.mp (show (V.beq v (.int i)&&jQ l (k.map .int))=true from h)).1
   cases v <;> first | exact congrArg V.int (of_decide_eq_true h1) | exact absurd h1 Bool.false_ne_true]
theorem aBu{r:V}{k:List Int}(h:V.beq r (jY k)=true):r=jY k:=by
 cases r <;> first | exact congrArg V.tup (rQ h) | exact absurd h Bool.false_ne_true
theorem wV:∀k:List Int,jQ (k.map .int) (k.map .int)=true
 | []=>rfl
 | i::k=>Bool.and_eq_true_iff.mpr ⟨decide_eq_true rfl,wV k⟩
theorem iS{r:V}(h:iH r=true):∃k∈bX,r=jY k:=by
 refine e12 (List.any_eq_true.mp h) fun x hx e=>?_
 refine e12 (List.mem_map.mp hx) fun k hk e_2=>?_; subst e_2
 exact⟨k,hk,aBu e⟩
theorem vD:∀{a b:List Int},a.map V.int=b.map V.int→a=b
 | [],[],_=>rfl
 | [],_::_,h=>nomatch h
 | _::_,[],h=>nomatch h
 | a::r,b::t,h=>by
  have h1:a=b:=by cases (List.cons.inj h).1; rfl
  exact rwS h1 (rwS (vD (List.cons.inj h).2) rfl)
theorem aEs{a b:List Int}(h:jY a=jY b):a=b:=vD (by
 have h:V.tup _=V.tup _:=h
 cases a <;> cases b <;> (injection h))
theorem sE{l:List V}{k:List Int}(hk:k∈bX):jY k∈iY l ↔ jY k∈l:=by
 delta iY
 rw[List.mem_filter,List.any_eq_true]
 exact⟨fun h=>h.2.elim fun x w=>aBu w.2▸w.1,fun h=>⟨List.mem_map.mpr ⟨k,hk,rfl⟩,jY k,h,wV k⟩⟩
noncomputable def rI(v:V):List Int:=match v with
 | .tup l=>l.map fun | .int i=>i | _=>0
 | _=>[]
noncomputable def mM(v:V):Nat:=rix (rI v)
theorem gU(k:List Int):rI (jY k)=k:=by
 show (k.map V.int).map _=k
 refine rwS List.map_map ?_
 exact List.map_id k
theorem wL(k:List Int):mM (jY k)=rix k:=congrArg rix (gU k)
theorem wQ(l:List V):(iY l).Pairwise fun a b=>mM a<mM b :=
 List.Pairwise.filter _ (List.pairwise_map.mpr (aMx.imp fun {a b} h=>by rw[wL,wL]; exact h))
theorem xC{k:List V}(h:k.Pairwise fun a b=>mM a<mM b):k.Nodup:=List.Pairwise.imp (fun {a b} (q:mM a<mM b) (e:a=b)=>Nat.ne_of_lt q (congrArg mM e)) h
theorem aCz{l:List V}(hl:l.all iH=true)(x:V):x∈l ↔ x∈iY l :=
 ⟨fun h=>(iS (List.all_eq_true.mp hl x h)).elim fun q w=>by rw[w.2]at h ⊢; exact(sE w.1).mpr h,fun h=>(List.mem_map.mp (List.mem_filter.mp h).1).elim fun q w=>by rw[← w.2]at h ⊢; exact(sE w.1).mp h⟩
section
variable{D:Wd}{N:Nx}{prog:Program}{w:World}{A:Around}{E:PV→Shared→Prop}{s:Shared}
theorem aEx{Q:Bool→Shared→Prop}:∀{k e:List Int} {vs ws:List PV} (i:Nat),RVs D N (k.map .int) vs→RVs D N (e.map .int) ws→Q (rlt k e) s→KatLex prog w A true (decide (vs.length<ws.length)) Q (vs.zip ws) i s:=by
 intro k
 induction k with
 | nil =>
  intro e vs ws i r1 r2 q
  obtain rfl:=(r1:vs=[])
  cases e with
  | nil=>obtain rfl:=(r2:ws=[]); exact kat_nil q
  | cons b e =>
   refine e22 r2 fun v t e_2 _=>?_; subst e_2
   exact kat_nil (by refine rwS (show decide (([]:List PV).length<(v::t).length)=true from decide_eq_true (Nat.succ_pos _)) ?_; exact q)
 | cons a k ih =>
  intro e vs ws i r1 r2 q
  cases e with
  | nil =>
   obtain rfl:=(r2:ws=[])
   refine e22 r1 fun v t e_2 _=>?_; subst e_2
   exact kat_nil (by refine rwS (show decide ((v::t).length<([]:List PV).length)=false from decide_eq_false (Nat.not_lt_zero _)) ?_; exact q)
  | cons b e =>
   obtain⟨_,vs,rfl,⟨t1,rfl⟩,r1⟩:=r1
   obtain⟨_,ws,rfl,⟨t2,rfl⟩,r2⟩:=r2
   refine rwS List.zip_cons_cons ?_
   refine kat_cons (wpAny_eqBool_int ?_)
   have q:Q (if a=b then rlt k e else decide (a<b)) s:=q
   by_cases h:a=b
   ·subst h
    rw[if_pos rfl]at q
    rw[beq_self_eq_true]
    have w:=ih (i+1) r1 r2 q
    rw[show decide (vs.length<ws.length)=decide ((PySem.Value.int a t1::vs).length<(PySem.Value.int a t2::ws).length) from decide_eq_decide.mpr Nat.succ_lt_succ_iff.symm]at w
    exact kat_yes w
   ·rw[if_neg h]at q
    refine rwS (show (a==b)=false from beq_eq_false_iff_ne.mpr h) ?_
    refine kat_no ?_
    cases i with
    | zero=>exact oneLt_int q
    | succ i=>exact kat_one _ _ (lt_int q)
noncomputable def RowAt(D:Wd)(N:Nx)(h:Heap)(v:PV)(k:List Int):Prop:=∃a arr n,v=.ref a∧h.get? a=some { cls:=.type "tuple",dict:=none,data:=.seq arr n,slots:=#[] }∧RVs D N (k.map .int) arr.toList∧k∈bX
theorem RowAt.mono{h h':Heap}{v:PV}{k:List Int}(x:RowAt D N h v k)(hk:∀a o,v=.ref a→h.get? a=some o→h'.get? a=some o):RowAt D N h' v k:=x.elim fun a q=>q.elim fun arr q=>q.elim fun n q=>⟨a,arr,n,q.1,hk a _ q.1 q.2.1,q.2.2⟩
theorem aGe{vs:List PV}{key:Nat→List Int}(hr:∀i v,vs[i]?=some v→RowAt D N s.heap v (key i))(hd:∀i j,i<vs.length→j<vs.length→rix (key i)=rix (key j)→i=j):CmpOk yH (fun i=>rix (key i)) vs.length (kas_ask prog w A (tuples' true) vs) s:=by
 refine⟨fun i j C hi hj q=>?_,hd⟩
 refine e34 (hr i vs[i] (List.getElem?_eq_getElem hi)) fun a arr k1 ea t1 r1 m1=>?_
 refine e34 (hr j vs[j] (List.getElem?_eq_getElem hj)) fun b brr k2 eb t2 r2 m2=>?_
 delta kas_ask
 refine rwS (show vs.getD i Value.none=vs[i] by rw[List.getD_eq_getElem?_getD,List.getElem?_eq_getElem hi]; rfl) (rwS (show vs.getD j Value.none=vs[j] by rw[List.getD_eq_getElem?_getD,List.getElem?_eq_getElem hj]; rfl) (rwS ea (rwS eb ?_)))
 refine kat_lt t1 rfl t2 rfl ?_
 have w:=aEx (prog:=prog) (w:=w) (A:=A) (s:=s) (Q:=C) 0 r1 r2 (by
  refine rwS (eq_of_beq (List.all_eq_true.mp (List.all_eq_true.mp aRi _ m1) _ m2)) ?_; exact q)
 rw[Array.length_toList,Array.length_toList]at w
 exact w
theorem aDs{vs:List PV}{key:Nat→List Int}(hr:∀i v,vs[i]?=some v→RowAt D N s.heap v (key i))(h2:1≤vs.length){Q:SortKind→Shared→Prop}(q:Q (tuples' true) s):wpAny (model prog w) A (keyKind' vs.toArray) Q E s:=by
 have fs:∀(l:List PV),(∀v∈l,∃k,RowAt D N s.heap v k)→∃f:List PV,KatTups s.heap l f∧f.length=l.length∧∀v∈f,∃n t,v=.int n t:=by
  intro l
  induction l with
  | nil=>exact fun _=>⟨[],KatTups.nil,rfl,fun _ h=>(fK h)⟩
  | cons v l ih =>
   intro h
   refine nnG fun nG=>?_; refine e13 (ih fun v hv=>h v (List.mem_cons_of_mem _ hv)) fun f t hl hi=>?_
   obtain⟨k,a,⟨xs⟩,kk,rfl,ta,r,m⟩:=h v (List.mem_cons_self ..)
   refine nG ?_; cases k with
   | nil=>exact absurd m (by decide)
   | cons n k =>
    refine nnG fun nG=>?_; obtain⟨_,xs',e,⟨t',rfl⟩,r⟩:=r
    have e:xs=_:=e
    subst e
    refine nG ?_; exact⟨.int n t'::f,KatTups.cons ta rfl rfl rfl t,congrArg (· + 1) hl,fun z hz=>(List.mem_cons.mp hz).elim (fun e=>⟨n,t',e⟩) (hi z)⟩
 refine e13 (fs vs fun v hv=>(List.getElem?_of_mem hv).elim fun i hi=>⟨_,hr i v hi⟩) fun f t hl hi=>?_
 exact kat_kind t (by refine rwS hl ?_; exact h2) (T:=.type "int") (fun v hv=>(hi v hv).elim fun n w=>w.elim fun t e=>e▸.now) (by decide) q
end
section
variable{D:Wd}{N:Nx}{prog:Program}{w:World}{A:Around}{E:PV→Shared→Prop}{s:Shared}
noncomputable def aKg(vs:List PV)(p:Array Nat):List PV:=p.toList.map fun i=>vs.getD i Value.none
theorem aNu{vs:List PV}:List.toArray (aKg vs (List.toArray (List.range vs.length)))=(pairsOf vs).map (·.2):=by
 apply Array.toList_inj.mp
 rw[Array.toList_map,pairsOf_toList]
 show (List.range vs.length).map (fun i=>vs.getD i Value.none)=_
 refine List.ext_getElem (by simp) fun i h1 h2=>?_
 rw[List.length_map,List.length_range]at h1
 simp[h1]
theorem aDc{a:Addr}{vs:List PV}{n:Nat}{key:Nat→List Int}{P:PySem.Fin→Shared→Prop}(ho:s.heap.get? a=some (seqObj "list" vs.toArray n))(hr:∀i v,vs[i]?=some v→RowAt D N s.heap v (key i))(hd:∀i j,i<vs.length→j<vs.length→rix (key i)=rix (key j)→i=j)(h64:vs.length<64)
  (h:∀p:Array Nat,POk vs.length p→Up (O:=yH) (fun i=>rix (key i)) p vs.length→P (.done (.ret .none)) { s with heap:=sortedHeap s.heap a vs (List.toArray (aKg vs p)) }) :
  wpAny (model prog w) A (Builtin.«list.sort» ⟨[.ref a],[]⟩) P E s:=by
 rw[list_sort_plain]
 have ha:a<s.heap.objs.size:=Heap.lt_size ho
 have hz:∀{n:Nat},n=vs.length→n≤sizeLine:=fun e=>by refine rwS sizeLine_eq (rwS e ?_); exact Nat.le_trans (Nat.le_of_lt h64) (by decide)
 refine wpAny_bind (listItems_at ho rfl ?_)
 refine wpAny_bind (listUpdate_at ho rfl ?_ (hz (List.size_toArray ..)) (Nat.zero_le _))
 obtain⟨e1,ho1⟩:∃e1,(s.heap.update a (Obj.mapSeq fun _=>#[])).get? a=some (seqObj "list" #[] e1):=⟨_,get?_update_seq ho (fun _=>#[])⟩
 refine wpAny_bind (seqEpoch_at ho1 rfl ?_)
 refine wpAny_bind (wpAny_newTuple ?_ (hz rfl))
 refine wpAny_bind (wpAny_newList ?_ (Nat.zero_le _))
 refine wpAny_holding ?_
 have ho6:(((s.heap.update a (Obj.mapSeq fun _=>#[])).push (seqObj "tuple" vs.toArray 0)).push (seqObj "list" #[] 0)).get? a=some (seqObj "list" #[] e1):=Heap.get?_push_of_some _ (Heap.get?_push_of_some _ ho1)
 show wpAny (model prog w) A _ P E { s with heap:=((s.heap.update a (Obj.mapSeq fun _=>#[])).push (seqObj "tuple" vs.toArray 0)).push (seqObj "list" #[] 0) }
 dsimp only
 have hsz:vs.toArray.size=vs.length:=List.size_toArray ..
 by_cases h2:vs.toArray.size<2
 ·refine rwS (if_pos h2) (rwS (if_pos h2) ?_)
  refine wpAny_bind (wpAny_pure ?_)
  rw[StateT.run_pure]
  refine wpAny_bind (wpAny_pure ?_)
  dsimp only
  refine wpAny_bind (seqEpoch_at ho6 rfl ?_)
  refine wpAny_bind (listUpdate_at ho6 rfl ?_ (hsz2:=by refine rwS Array.size_map ?_; exact Nat.le_succ_of_le (hz (pairsOf_size vs))))
  simp only[bne_self_eq_false,Bool.false_eq_true,if_false]
  refine wpAny_pure ?_
  have w:=h (List.toArray (List.range vs.length)) (Array.Perm.refl _) fun i hi=>absurd (Nat.lt_of_lt_of_le hi (Nat.le_of_lt_succ (hsz▸h2))) (Nat.not_lt.mpr (Nat.le_add_left 1 i))
  rw[aNu]at w
  exact w
 ·refine rwS (if_neg h2) (rwS (if_neg h2) ?_)
  have h2:2≤vs.length:=hsz▸Nat.not_lt.mp h2
  have hr2:∀i v,vs[i]?=some v→RowAt D N (((s.heap.update a (Obj.mapSeq fun _=>#[])).push (seqObj "tuple" vs.toArray 0)).push (seqObj "list" #[] 0)) v (key i):=fun i v hv=>(hr i v hv).mono fun b o eb eo=>by
   have nb:b≠a:=fun e=>by
    subst e
    refine e33 (hr i v hv) fun b' arr n' e2 t _=>?_
    cases eb.symm.trans e2
    exact absurd (Value.type.inj (show PySem.Value.type "list"=.type "tuple" from (congrArg Obj.cls (Option.some.inj (ho.symm.trans t))))) (by decide)
   exact Heap.get?_push_of_some _ (Heap.get?_push_of_some _ (by refine rwS (Heap.get?_update_ne _ _ _ _ nb) ?_; exact eo))
  refine wpAny_bind (aDs hr2 (Nat.le_of_lt h2) ?_)
  have srt:(kas_sort vs.length).kasWp (kas_ask prog w A (tuples' true) vs) (fun p s'=>s'={ s with heap:=((s.heap.update a (Obj.mapSeq fun _=>#[])).push (seqObj "tuple" vs.toArray 0)).push (seqObj "list" #[] 0) }∧POk vs.length p∧Up (O:=yH) (fun i=>rix (key i)) p vs.length) { s with heap:=((s.heap.update a (Obj.mapSeq fun _=>#[])).push (seqObj "tuple" vs.toArray 0)).push (seqObj "list" #[] 0) }:=by
   have w:=aGe (prog:=prog) (w:=w) (A:=A) (s:={ s with heap:=((s.heap.update a (Obj.mapSeq fun _=>#[])).push (seqObj "tuple" vs.toArray 0)).push (seqObj "list" #[] 0) }) hr2 hd
   revert w h2
   generalize vs.length=n
   intro h2 w
   cases n with
   | zero=>exact absurd h2 (Nat.not_succ_le_zero 1)
   | succ n=>exact aLq w fun p' a1 a2=>⟨rfl,a1,a2⟩
  refine wpAny_bind (wpAny_mono (kat_run (E:=E) (ks:=vs) (Q:=fun st' s'=>s'={ s with heap:=((s.heap.update a (Obj.mapSeq fun _=>#[])).push (seqObj "tuple" vs.toArray 0)).push (seqObj "list" #[] 0) }∧∃p:Array Nat,POk vs.length p∧Up (O:=yH) (fun i=>rix (key i)) p vs.length∧arrOf st'=p.map (kas_item (vs.toArray.zip vs.toArray))∧failedOf st'=none)
   rfl h2 h64 (fun p st' s' a1 a2 a3 a4=>⟨a4.1,p,a4.2.1,a4.2.2,a2,a3⟩) srt) ?_ fun _ _ e=>e)
  rintro ⟨⟨⟩,st'⟩ s' ⟨rfl,p,hp,hs,har,hf⟩
  dsimp only
  refine wpAny_bind (seqEpoch_at ho6 rfl ?_)
  refine wpAny_bind (listUpdate_at ho6 rfl ?_ (hsz2:=by rw[(kat_snds (ks:=vs) (vs:=vs) rfl har),List.size_toArray,List.length_map,Array.length_toList]; exact Nat.le_succ_of_le (hz hp.size)))
  refine rwS hf (rwS ((kat_snds (ks:=vs) (vs:=vs) rfl har)) ?_)
  simp only[bne_self_eq_false,Bool.false_eq_true,if_false]
  exact wpAny_pure (h p hp hs)
end
section
variable{B:Bd}{G:Ev}{N:Nx}{u:Nat}{Q E:PV→Shared→Prop}
theorem iA{α:Type}{l:List α}{i:Nat}{d:α}(h:i<l.length):l.getD i d=l[i]:=by refine rwS (List.getD_eq_getElem?_getD) (rwS (List.getElem?_eq_getElem h) ?_); rfl
theorem aHy{d:V}{v:PV}(hd:iH d=true)(r:Val B N d v):RowAt B.D N N.s.heap v (rI d):=by
 refine e12 (iS hd) fun k hk e_2=>?_; subst e_2
 obtain⟨a,arr,rfl,wa,⟨n,t⟩,rs⟩:=r
 exact⟨a,arr,n,rfl,t,by rw[gU]; exact rs,by rw[gU]; exact hk⟩
theorem aKf{l:List V}{vs:List PV}(hl:l.all iH=true)(rs:Vals B N l vs):∀i v,vs[i]?=some v→RowAt B.D N N.s.heap v (rI (l.getD i .none)):=fun i v e=>by
 have hi:i<l.length:=(aV rs).symm▸(List.getElem?_eq_some_iff.mp e).1
 refine nnG fun nG=>?_; refine e12 (eF rs (List.getElem?_eq_getElem hi)) fun w e1 r=>?_
 cases e.symm.trans e1
 refine nG ?_; refine rwS (iA hi) ?_
 exact aHy (List.all_eq_true.mp hl _ (List.getElem_mem hi)) r
theorem vS{l:List V}{vs:List PV}(rs:Vals B N l vs):∀(p:List Nat),(∀i∈p,i<l.length)→Vals B N (p.map fun i=>l.getD i .none) (p.map fun i=>vs.getD i Value.none)
 | [],_=>rfl
 | i::p,hp=>by
  have hi:=hp i (List.mem_cons_self ..)
  refine e12 (eF rs (List.getElem?_eq_getElem hi)) fun w e1 r=>?_
  refine⟨_,_,rfl,?_,vS rs p fun j hj=>hp j (List.mem_cons_of_mem _ hj)⟩
  show RV B.D N (l.getD i V.none) (vs.getD i Value.none)
  refine rwS (iA hi) (rwS (List.getD_eq_getElem?_getD) (rwS e1 ?_))
  exact r
theorem POk.mem{n i:Nat}{p:Array Nat}(hp:POk n p):i∈p.toList→i<n:=fun h=>List.mem_range.mp ((Array.perm_iff_toList_perm.mp hp).mem_iff.mp h)
theorem aCg{l:List V}{p:Array Nat}(hp:POk l.length p):(p.toList.map fun i=>l.getD i V.none).Perm l:=by
 refine((Array.perm_iff_toList_perm.mp hp).map fun i=>l.getD i V.none).trans (List.Perm.of_eq ?_)
 refine List.ext_getElem ((List.length_map ..).trans List.length_range) fun i h1 h2=>?_
 rw[List.getElem_map,← iA h2 (d:=V.none)]
 exact congrArg (l.getD · V.none) (List.getElem_range ..)
theorem aAf{l:List V}{p:Array Nat}(hp:POk l.length p)(hs:Up (O:=yH) (fun i=>rix (rI (l.getD i .none))) p l.length):(p.toList.map fun i=>l.getD i V.none).Pairwise fun a b=>mM a<mM b:=by
 rw[List.pairwise_iff_getElem]
 intro i j hi hj hij
 rw[List.length_map,Array.length_toList,hp.size]at hi hj
 have h:yH.blt _ _=true:=hs.lt hij hj
 have e:∀{k:Nat} (hk:k<l.length) (h:k<(p.toList.map fun i=>l.getD i V.none).length),mM ((p.toList.map fun i=>l.getD i V.none)[k])=KP (O:=yH) (fun i=>rix (rI (l.getD i .none))) p k:=fun hk h=>by
  rw[List.getElem_map]
  exact congrArg (fun i=>rix (rI (l.getD i .none))) (hp.get hk).2.symm
 rw[e hi,e hj]
 exact of_decide_eq_true (p:=(_:Nat)<(_:Nat)) h
theorem aCe:hM B u (.builtin "sorted") .sorted:=fun G N ds vs Q E K rm e sm rs z=>False.elim e
end
noncomputable def aHz(m:Nat)(p:SetTable.Probe):SetTable.Probe :=
 if p.more > 0 then { p with j:=p.j+1,more:=p.more - 1 } else
 { p with j:=(SetTable.leap m p.i p.perturb).1,more:=SetTable.runEnd m (SetTable.leap m p.i p.perturb).1 - (SetTable.leap m p.i p.perturb).1,i:=(SetTable.leap m p.i p.perturb).1,perturb:=(SetTable.leap m p.i p.perturb).2 }
noncomputable def dS(m:Nat)(h:Int):Nat→Nat × Nat
 | 0=>(SetTable.bits h % (m+1),SetTable.bits h)
 | t+1=>SetTable.leap m (dS m h t).1 (dS m h t).2
noncomputable def xU(m:Nat)(q:Nat × Nat)(w:Nat):SetTable.Probe:=⟨q.1+w,SetTable.runEnd m q.1 - q.1 - w,q.1,q.2,none⟩
noncomputable def pr(m:Nat)(h:Int):Nat→SetTable.Probe
 | 0=>xU m (dS m h 0) 0
 | k+1=>aHz m (pr m h k)
theorem mO(m i:Nat):(SetTable.runEnd m i=i+9∧i+9≤m)∨SetTable.runEnd m i=i:=by
 delta SetTable.runEnd
 by_cases h:i+9≤m
 ·exact .inl ⟨if_pos h,h⟩
 ·exact .inr (if_neg h)
theorem aTx(m i:Nat):i≤SetTable.runEnd m i:=(mO m i).elim (fun h=>h.1▸Nat.le_add_right i 9) fun h=>Nat.le_of_eq h.symm
theorem aQq{m i:Nat}(hi:i≤m):SetTable.runEnd m i≤m:=(mO m i).elim (fun h=>Nat.le_trans (Nat.le_of_eq h.1) h.2) fun h=>Nat.le_trans (Nat.le_of_eq h) hi
theorem aYw(m i:Nat):SetTable.runEnd m i - i≤9:=(mO m i).elim (fun h=>by rw[h.1,Nat.add_sub_cancel_left]; exact Nat.le_refl 9) fun h=>by rw[h,Nat.sub_self]; exact Nat.zero_le 9
section
variable{m:Nat}{h:Int}{r:Nat}
theorem aOz{q:Nat × Nat}(e:pr m h r=xU m q 0):∀w,w≤SetTable.runEnd m q.1 - q.1→pr m h (r+w)=xU m q w
 | 0,_=>e
 | w+1,hw=>by
  show aHz m (pr m h (r+w))=_
  refine rwS (aOz e w (Nat.le_of_succ_le hw)) ?_
  exact if_pos (Nat.sub_pos_of_lt hw)
theorem bBc{q:Nat × Nat}(e:pr m h r=xU m q 0):pr m h (r+(SetTable.runEnd m q.1 - q.1)+1)=xU m (SetTable.leap m q.1 q.2) 0:=by
 show aHz m (pr m h (r+_))=_
 refine rwS (aOz e _ (Nat.le_refl _)) ?_
 exact if_neg (show ¬ SetTable.runEnd m q.1 - q.1 - (SetTable.runEnd m q.1 - q.1) > 0 by rw[Nat.sub_self]; exact Nat.lt_irrefl 0)
theorem aAv(m:Nat)(h:Int):∀t,∃r,r≤10*t∧pr m h r=xU m (dS m h t) 0
 | 0=>⟨0,Nat.le_refl _,rfl⟩
 | t+1=>(aAv m h t).elim fun r w=>⟨_,Nat.succ_le_succ (Nat.add_le_add w.1 (aYw m _)),bBc w.2⟩
theorem aKc(m:Nat)(h:Int):∀t,(dS m h t).1≤m
 | 0=>Nat.le_of_lt_succ (Nat.mod_lt _ (Nat.succ_pos _))
 | t+1=>Nat.le_of_lt_succ (Nat.mod_lt _ (Nat.succ_pos _))
theorem aFc(m:Nat)(h:Int):∀k,∃t w,w≤SetTable.runEnd m (dS m h t).1 - (dS m h t).1∧pr m h k=xU m (dS m h t) w
 | 0=>⟨0,0,Nat.zero_le _,rfl⟩
 | k+1=>by
  refine e22 (aFc m h k) fun t w hw e=>?_
  show ∃t' w',_∧aHz m (pr m h k)=_
  refine rwS e ?_
  rcases Nat.lt_or_eq_of_le hw with hl | he
  ·exact⟨t,w+1,hl,if_pos (Nat.sub_pos_of_lt hl)⟩
  ·exact⟨t+1,0,Nat.zero_le _,if_neg (show ¬ SetTable.runEnd m _ - _ - w > 0 by rw[he,Nat.sub_self]; exact Nat.lt_irrefl 0)⟩
theorem aXs(k:Nat):(pr m h k).j≤m:=by
 refine e22 (aFc m h k) fun t w hw e=>?_
 refine rwS e ?_
 exact Nat.le_trans (Nat.add_le_add_left hw _) (Nat.le_trans (Nat.le_of_eq (Nat.add_sub_cancel' (aTx m _))) (aQq (aKc m h t)))
theorem aGu(k:Nat):(pr m h k).dummy=none:=by
 refine e22 (aFc m h k) fun t w hw e=>?_
 refine rwS e ?_; rfl
noncomputable def orb(m:Nat):Nat→Nat × Nat→Nat→Nat
 | 0,_,acc=>acc
 | f+1,q,acc=>orb m f (SetTable.leap m q.1 q.2) (acc ||| 1 <<< q.1)
theorem aBk{j:Nat}:∀(f t acc:Nat),(orb m f (dS m h t) acc).testBit j=true→acc.testBit j=true∨∃d,d<t+f∧(dS m h d).1=j
 | 0,t,acc,e=>.inl e
 | f+1,t,acc,e=>by
  rcases aBk f (t+1) _ e with h1 | ⟨d,h1,h2⟩
  ·rw[Nat.testBit_or]at h1
   refine(Bool.or_eq_true_iff.mp h1).imp id fun h1=>⟨t,Nat.lt_add_of_pos_right (Nat.succ_pos f),?_⟩
   rw[Nat.testBit_shiftLeft]at h1
   exact Nat.le_antisymm (of_decide_eq_true (Bool.and_eq_true_iff.mp h1).1) (Nat.le_of_sub_eq_zero (Nat.testBit_one_eq_true_iff_self_eq_zero.mp (Bool.and_eq_true_iff.mp h1).2))
  ·exact .inr ⟨d,Nat.lt_of_lt_of_le h1 (Nat.le_of_eq (by rw[Nat.add_assoc,Nat.add_comm 1 f])),h2⟩
noncomputable def aKh(m:Nat)(h:Int):Bool:=orb m (SetTable.turns m) (dS m h 0) 0==2 ^ (m+1) - 1
theorem aXl{j:Nat}(f:aKh m h=true)(hj:j≤m):∃t,t<SetTable.turns m∧(dS m h t).1=j:=by
 have w:(orb m (SetTable.turns m) (dS m h 0) 0).testBit j=true:=by
  rw[eq_of_beq f,Nat.testBit_two_pow_sub_one]
  exact decide_eq_true (Nat.lt_succ_of_le hj)
 rcases aBk _ _ _ w with h3 | ⟨d,h3,h4⟩
 ·rw[Nat.zero_testBit]at h3; exact nob h3
 ·exact⟨d,Nat.zero_add (SetTable.turns m)▸h3,h4⟩
theorem aPr{P:Nat→Prop}(n:Nat):P n→∃K,K≤n∧P K∧∀k,k<K→¬ P k:=n.strongRecOn fun n ih p =>
 (Classical.em (∃k,k<n∧P k)).elim (fun ⟨k,hk,q⟩=>(ih k hk q).elim fun K w=>⟨K,Nat.le_trans w.1 (Nat.le_of_lt hk),w.2⟩) fun no=>⟨n,Nat.le_refl _,p,fun k hk q=>no ⟨k,hk,q⟩⟩
theorem zG{S:List Nat}(f:aKh m h=true){j:Nat}(hj:j≤m)(hf:j ∉ S):∃K,K<10*SetTable.turns m∧(pr m h K).j ∉ S∧∀k,k<K→(pr m h k).j∈S:=by
 refine nnG fun nG=>?_; refine e12 (aXl f hj) fun t ht e=>?_
 refine e12 (aAv m h t) fun r hr er=>?_
 refine e13 (aPr (P:=fun r=>(pr m h r).j ∉ S) r (by show (pr m h r).j ∉ S; refine rwS er ?_; show (dS m h t).1+0 ∉ S; refine rwS e ?_; exact hf)) fun K hK h1 h2=>?_
 refine nG ?_; exact⟨K,Nat.lt_of_le_of_lt (Nat.le_trans hK hr) (Nat.mul_lt_mul_of_pos_left ht (by decide)),h1,fun k hk=>Classical.not_not.mp (h2 k hk)⟩
end
noncomputable def rH(k:List Int):Int:=reduceHash (Builtin.Tuple.tupleHashOf (k.map hashInt))
noncomputable def aHm:List Nat:=[7]
theorem aDr:(bX.all fun k=>aHm.all fun m=>aKh m (rH k))=true:=by decide +kernel
theorem aHs{k:List Int}{m:Nat}(hk:k∈bX)(hm:m∈aHm):aKh m (rH k)=true:=List.all_eq_true.mp (List.all_eq_true.mp aDr _ hk) _ hm
section
variable{P:List Nat}{j:Nat}
theorem qH(hp:P.Pairwise (· < ·)){i k a b:Nat}(hik:i<k)(ha:P[i]?=some a)(hb:P[k]?=some b):a<b:=by
 obtain⟨h1,rfl⟩:=List.getElem?_eq_some_iff.mp ha
 obtain⟨h2,rfl⟩:=List.getElem?_eq_some_iff.mp hb
 exact List.pairwise_iff_getElem.mp hp _ _ h1 h2 hik
theorem aTv{lo hi:Nat}(h:lo<hi):lo≤(lo+hi) / 2∧(lo+hi) / 2<hi :=
 ⟨(Nat.le_div_iff_mul_le (by decide)).mpr (by rw[Nat.mul_comm,Nat.two_mul]; exact Nat.add_le_add_left (Nat.le_of_lt h) _),Nat.div_lt_of_lt_mul (by rw[Nat.two_mul]; exact Nat.add_lt_add_right h _)⟩
noncomputable def Cut(P:List Nat)(j r:Nat):Prop:=r≤P.length∧(∀i v,i<r→P[i]?=some v→v<j)∧∀i v,r≤i→P[i]?=some v→j≤v
theorem pO(hp:P.Pairwise (· < ·)):∀(f lo hi:Nat),hi≤P.length→lo≤hi→hi≤lo+f→(∀i v,i<lo→P[i]?=some v→v<j)→(∀i v,hi≤i→P[i]?=some v→j≤v)→Cut P j (SetTable.below.go P.toArray j f lo hi)
 | 0,lo,hi,h1,h2,h3,h4,h5=>⟨Nat.le_trans h2 h1,h4,fun i v q=>h5 i v (Nat.le_trans h3 q)⟩
 | f+1,lo,hi,h1,h2,h3,h4,h5=>by
  by_cases hlt:lo<hi
  ·show Cut P j (if lo<hi then _ else lo)
   refine rwS (if_pos hlt) ?_
   have hm:=aTv hlt
   show Cut P j (if P.toArray.getD ((lo+hi) / 2) j<j then _ else _)
   generalize (lo+hi) / 2=m at hm
   have hl:=Nat.lt_of_lt_of_le hm.2 h1
   have e:P[m]?=some P[m]:=List.getElem?_eq_getElem hl
   have e2:P.toArray.getD m j=P[m]:=by refine rwS (Array.getD_eq_getD_getElem?) (rwS (List.getElem?_toArray) (rwS e ?_)); rfl
   refine rwS e2 ?_
   by_cases hc:P[m]<j
   ·refine rwS (if_pos hc) ?_
    exact pO hp f _ hi h1 hm.2 (Nat.le_trans h3 (by rw[Nat.add_comm f,← Nat.add_assoc]; exact Nat.add_le_add_right (Nat.succ_le_succ hm.1) f)) (fun i v q w=>(Nat.lt_or_eq_of_le (Nat.le_of_lt_succ q)).elim (fun q=>Nat.lt_trans (qH hp q w e) hc) fun q=>by subst q; cases w.symm.trans e; exact hc) h5
   ·refine rwS (if_neg hc) ?_
    exact pO hp f lo _ (Nat.le_of_lt hl) hm.1 (Nat.le_of_lt_succ (Nat.lt_of_lt_of_le hm.2 h3)) h4 fun i v q w=>(Nat.lt_or_eq_of_le q).elim (fun q=>Nat.le_trans (Nat.not_lt.mp hc) (Nat.le_of_lt (qH hp q e w))) fun q=>by subst q; cases w.symm.trans e; exact Nat.not_lt.mp hc
  ·show Cut P j (if lo<hi then _ else lo)
   refine rwS (if_neg hlt) ?_
   exact⟨Nat.le_trans h2 h1,h4,fun i v q=>h5 i v (Nat.le_trans (Nat.not_lt.mp hlt) q)⟩
theorem qU(hp:P.Pairwise (· < ·))(j:Nat):Cut P j (SetTable.below P.toArray j) :=
 pO hp P.toArray.size 0 P.toArray.size (Nat.le_refl _) (Nat.zero_le _) (Nat.le_add_left ..) (fun i v q=>absurd q (Nat.not_lt_zero _)) fun i v q w=>absurd (List.getElem?_eq_some_iff.mp w).1 (Nat.not_lt.mpr q)
theorem Cut.uniq{r k:Nat}(h:Cut P j r)(hk:k≤P.length)(h1:∀v,r<k→P[r]?=some v→v<j)(h2:∀v,k<r→P[k]?=some v→j≤v):r=k:=by
 rcases Nat.lt_trichotomy r k with q | q | q
 ·have e:=List.getElem?_eq_getElem (Nat.lt_of_lt_of_le q hk)
  exact absurd (h1 _ q e) (Nat.not_lt.mpr (h.2.2 _ _ (Nat.le_refl _) e))
 ·exact q
 ·have e:=List.getElem?_eq_getElem (Nat.lt_of_lt_of_le q h.1)
  exact absurd (h.2.1 _ _ q e) (Nat.not_lt.mpr (h2 _ q e))
theorem aHl(hp:P.Pairwise (· < ·)){i:Nat}(e:P[i]?=some j):SetTable.below P.toArray j=i :=
 (qU hp j).uniq (Nat.le_of_lt (List.getElem?_eq_some_iff.mp e).1) (fun v q w=>qH hp q w e) fun v q w=>by cases w.symm.trans e; exact Nat.le_refl _
variable{t:SetTable}
theorem aCi(hP:t.place=P.toArray)(hp:P.Pairwise (· < ·)){i:Nat}(e:P[i]?=some j):t.slot j=.live i:=by
 delta SetTable.slot
 dsimp only
 refine rwS hP (rwS (aHl hp e) (rwS (List.getElem?_toArray) (rwS e ?_)))
 exact if_pos (beq_self_eq_true _)
theorem zK(hP:t.place=P.toArray)(hd:t.dummies=#[])(h:j ∉ P):t.slot j=.empty:=by
 delta SetTable.slot
 dsimp only
 refine rwS hP (rwS hd (rwS (List.getElem?_toArray) ?_))
 exact(if_neg fun q=>h (List.mem_of_getElem? (eq_of_beq q))).trans (if_neg (by exact Bool.false_ne_true))
end
theorem aMe:(bX.map rH).Nodup:=by decide +kernel
theorem aSx{a b:List Int}(ha:a∈bX)(hb:b∈bX)(e:rH a=rH b):a=b:=by
 refine e1 (List.getElem?_of_mem ha) fun i hi=>?_
 refine e1 (List.getElem?_of_mem hb) fun k hk=>?_
 obtain⟨h1,rfl⟩:=List.getElem?_eq_some_iff.mp hi
 obtain⟨h2,rfl⟩:=List.getElem?_eq_some_iff.mp hk
 have e:(bX.map rH)[i]'(by rw[List.length_map]; exact h1)=(bX.map rH)[k]'(by rw[List.length_map]; exact h2):=by rw[List.getElem_map,List.getElem_map]; exact e
 exact getElem_congr rfl ((List.getElem_inj aMe).mp e) _
noncomputable abbrev En:=Nat × List Int × Addr
noncomputable def dO(L:List En):Array (Int × PV):=List.toArray (L.map fun e=>(rH e.2.1,.ref e.2.2))
noncomputable def fR(L:List En):List Nat:=L.map (·.1)
structure Tq(prog:Program)(w:World)(h:Heap)(t:SetTable)(L:List En):Prop where
 mask:t.mask∈aHm
 place:t.place=(fR L).toArray
 dum:t.dummies=#[]
 plain:t.plain=true
 led:t.led=!(w.params.followText "set-order")
 rise:(fR L).Pairwise (· < ·)
 le:∀j∈fR L,j≤t.mask
 tup:∀e∈L,e.2.1∈bX∧IsTupleKey (intKind prog w) h e.2.1 e.2.2
 nd:(L.map (·.2.1)).Nodup
 reach:∀e∈L,∃r,(pr t.mask (rH e.2.1) r).j=e.1∧∀r',r' < r→(pr t.mask (rH e.2.1) r').j∈fR L
structure Tb(prog:Program)(w:World)(h:Heap)(t:SetTable)(L:List En):Prop where
 q:Tq prog w h t L
 room:L.length*5<t.mask*3
section
variable{prog:Program}{w:World}{h:Heap}{t:SetTable}{L:List En}
theorem tB:(fR L).length=L.length:=List.length_map ..
theorem jI:(dO L).size=L.length:=List.size_toArray.trans (List.length_map ..)
theorem aHk{i:Nat}{e:En}(he:L[i]?=some e):(fR L)[i]?=some e.1:=by delta fR; refine rwS (List.getElem?_map) (rwS he ?_); rfl
theorem aGf{i:Nat}{e:En}(he:L[i]?=some e):(dO L)[i]?=some (rH e.2.1,.ref e.2.2):=by delta dO; refine rwS (List.getElem?_toArray) (rwS (List.getElem?_map) (rwS he ?_)); rfl
theorem Tq.at(T:Tq prog w h t L){i:Nat}{e:En}(he:L[i]?=some e):t.slot e.1=.live i:=aCi T.place T.rise (aHk he)
theorem Tq.gave(T:Tq prog w h t L):t.gaveWay=false:=by
 delta SetTable.gaveWay
 have m:=T.mask
 generalize t.mask=k at m
 obtain rfl:=List.mem_singleton.mp m; rfl
theorem Tq.key_uniq(T:Tq prog w h t L){i k:Nat}{a b:En}(ha:L[i]?=some a)(hb:L[k]?=some b)(e:a.2.1=b.2.1):i=k:=by
 obtain⟨h1,rfl⟩:=List.getElem?_eq_some_iff.mp ha
 obtain⟨h2,rfl⟩:=List.getElem?_eq_some_iff.mp hb
 have e:(L.map (·.2.1))[i]'(by rw[List.length_map]; exact h1)=(L.map (·.2.1))[k]'(by rw[List.length_map]; exact h2):=by rw[List.getElem_map,List.getElem_map]; exact e
 exact(List.getElem_inj T.nd).mp e
theorem uH{hashAt:Nat→Int}{hx:Int}{met:SetTable.Met}{n:Nat}(hs:∀k,k<n→∃i,t.slot (pr t.mask hx k).j=.live i∧hashAt i≠hx)(fin:∀f,SetTable.probe.go t hashAt hx (f+1) (pr t.mask hx n)=some met):∀f k,k≤n→n<k+f→SetTable.probe.go t hashAt hx f (pr t.mask hx k)=some met
 | 0,k,h1,h2=>absurd h1 (Nat.not_le.mpr h2)
 | f+1,k,h1,h2=>by
  rcases Nat.lt_or_eq_of_le h1 with hl | rfl
  ·refine e12 (hs k hl) fun i e1 e2=>?_
   unfold SetTable.probe.go
   refine rwS e1 ?_
   dsimp only
   refine rwS (if_neg (fun q=>e2 (eq_of_beq q))) ?_
   exact uH hs fin f (k+1) hl (by rw[Nat.add_assoc,Nat.add_comm 1]; exact h2)
  ·exact fin f
end
section
variable{prog:Program}{w:World}{h:Heap}{t:SetTable}{L:List En}{key:List Int}
theorem wH{m:Nat}{S:List Nat}(hl:S.length≤m):∃j,j≤m∧j ∉ S:=Classical.byContradiction fun no=>by
 have w:=List.Nodup.length_le_of_subset (List.nodup_range (n:=m+1)) (l₂:=S) fun j hj=>Classical.byContradiction fun q=>no ⟨j,Nat.le_of_lt_succ (List.mem_range.mp hj),q⟩
 rw[List.length_range]at w
 exact absurd (Nat.le_trans w hl) (Nat.not_succ_le_self m)
structure Spot(t:SetTable)(L:List En)(key:List Int)(K:Nat):Prop where
 b:K<10*SetTable.turns t.mask
 f:(pr t.mask (rH key) K).j ∉ fR L
 u:∀k,k<K→(pr t.mask (rH key) k).j∈fR L
theorem Tb.spot(T:Tb prog w h t L)(hk:key∈bX):∃K,Spot t L key K:=by
 have r:L.length≤t.mask:=Nat.le_of_mul_le_mul_right (Nat.le_of_lt (Nat.lt_of_lt_of_le T.room (Nat.mul_le_mul_left _ (by decide)))) (show 0<5 by decide)
 refine e12 (wH (m:=t.mask) (S:=fR L) (by refine rwS tB ?_; exact r)) fun j hj hn=>?_
 exact(zG (aHs hk T.q.mask) hj hn).elim fun K w=>⟨K,w.1,w.2.1,w.2.2⟩
theorem aSr{j:Nat}(hj:j∈fR L):∃(i:Nat) (e:En),L[i]?=some e∧e.1=j:=(List.mem_map.mp hj).elim fun e q=>(List.getElem?_of_mem q.1).elim fun i qi=>⟨i,e,qi,q.2⟩
theorem aGk(T:Tq prog w h t L)(hk:key∈bX){hashAt:Nat→Int}(hA:∀i e,L[i]?=some e→hashAt i=rH e.2.1){K:Nat}(at':Spot t L key K) :
  (∃i e j n,L[i]?=some e∧e.2.1=key∧t.probe hashAt (rH key) (pr t.mask (rH key) 0)=some (.candidate j i n))∨((∀e∈L,e.2.1≠key)∧t.probe hashAt (rH key) (pr t.mask (rH key) 0)=some (.empty (pr t.mask (rH key) K).j none)):=by
 have live:∀{n:Nat},n≤K→(∀k,k<n→∀(i:Nat) (e:En),L[i]?=some e→e.1=(pr t.mask (rH key) k).j→e.2.1≠key)→∀k,k<n→∃i,t.slot (pr t.mask (rH key) k).j=.live i∧hashAt i≠rH key:=fun {n} hn no k hk'=>by
  refine e22 (aSr (at'.u k (Nat.lt_of_lt_of_le hk' hn))) fun i e hi ej=>?_
  exact⟨i,ej▸T.at hi,fun q=>no k hk' i e hi ej (aSx (T.tup e (List.mem_of_getElem? hi)).1 hk ((hA i e hi).symm.trans q))⟩
 by_cases ex:∃e∈L,e.2.1=key
 ·refine nnG fun nG=>?_; refine e12 ex fun e he ek=>?_
  refine e1 (List.getElem?_of_mem he) fun i hi=>?_
  refine e12 (T.reach e he) fun r0 e0 q0=>?_
  refine nG ?_; rw[ek]at e0 q0
  have r0K:r0<K:=(Nat.lt_trichotomy r0 K).elim id fun q=>absurd (q.elim (fun q=>by refine rwT q (rwS e0 ?_); exact List.mem_map.mpr ⟨e,he,rfl⟩) (q0 K)) at'.f
  refine e13 (aPr (P:=fun r=>(pr t.mask (rH key) r).j=e.1) r0 e0) fun r h1 h2 h3=>?_
  refine .inl ⟨i,e,(pr t.mask (rH key) r).j,aHz t.mask (pr t.mask (rH key) r),hi,ek,uH (n:=r) (live (Nat.le_of_lt (Nat.lt_of_le_of_lt h1 r0K)) fun k hk' i' e' hi' ej q=>?_) (fun f=>?_) _ 0 (Nat.zero_le _) (by rw[Nat.zero_add]; exact Nat.lt_trans (Nat.lt_of_le_of_lt h1 r0K) at'.b)⟩
  ·have:=T.key_uniq hi' hi (q.trans ek.symm)
   subst this
   cases hi'.symm.trans hi
   exact h3 k hk' ej.symm
  ·unfold SetTable.probe.go
   refine rwS (show t.slot (pr t.mask (rH key) r).j=.live i by rw[h2]; exact T.at hi) ?_
   exact if_pos (by refine rwS (hA i e hi) (rwS ek ?_); exact beq_self_eq_true _)
 ·have no:∀e∈L,e.2.1≠key:=fun e he q=>ex ⟨e,he,q⟩
  refine .inr ⟨no,uH (n:=K) (live (Nat.le_refl _) fun k _ i e hi _=>no e (List.mem_of_getElem? hi)) (fun f=>?_) _ 0 (Nat.zero_le _) (by rw[Nat.zero_add]; exact at'.b)⟩
  unfold SetTable.probe.go
  rw[zK T.place T.dum at'.f,aGu]
variable{A:Around}{E:PV→Shared→Prop}{s:Shared}
theorem qC{α:Type}{l:List α}{f:α→Option Bool × PUnit→Sem (ForInStep (Option Bool × PUnit))}{C:α→Prop}{Q:Option Bool × PUnit→Shared→Prop}(hl:∀v∈l,C v)
  (hf:∀v,C v→∀Q':ForInStep (Option Bool × PUnit)→Shared→Prop,Q' (.yield (none,())) s→wpAny (model prog w) A (f v (none,())) Q' E s) (q:Q (none,()) s):wpAny (model prog w) A (forIn l (none,()) f) Q E s :=
 wpAny_forIn_list _ (fun rest r s'=>r=(none,())∧s'=s∧∀v∈rest,C v) _ (fun v rest r s' ⟨hr,hs,hall⟩=>by subst hr; subst hs; exact hf v (hall v List.mem_cons_self) _ ⟨rfl,rfl,fun u hu=>hall u (List.mem_cons_of_mem _ hu)⟩) (fun r s' ⟨hr,hs,_⟩=>by subst hr; subst hs; exact q) _ _ ⟨rfl,rfl,hl⟩
set_option smartUnfolding false in
theorem rT{ks:List Int}{a:Addr}{Q:Bool→Shared→Prop}(hk:IsTupleKey (intKind prog w) s.heap ks a)(q:Q false s):wpAny (model prog w) A (ofAClassStatement 8 (.ref a)) Q E s:=by
 refine e34 hk fun o items n ho _ hd hi=>?_
 show wpAny _ _ (typeOf (.ref a) >>= _) _ _ _
 refine wpAny_bind (wpAny_typeOf hk.typeIs ?_)
 dsimp only
 refine rwS (if_pos (by decide)) ?_
 refine wpAny_bind (wpAny_pure (wpAny_bind (wpAny_seqItems ho hd (wpAny_bind ?_))))
 refine rwT Array.forIn_toList ?_
 refine qC (C:=fun v=>carriedByValue v=true) hi.byValue (fun v hc Q' q'=>?_) (wpAny_pure q)
 have hc:ofAClassStatement 7 v=pure false:=by cases v <;> first | exact absurd hc Bool.false_ne_true | rfl
 exact wpAny_bind (show wpAny (model prog w) A (ofAClassStatement 7 v) _ E s from hc▸wpAny_pure (wpAny_pure q'))
end
section
variable{prog:Program}{w:World}{t:SetTable}{L:List En}{key:List Int}{A:Around}{E:PV→Shared→Prop}{s:Shared}
theorem aMk{x:Addr}{vs:List PV}{Q:Bool→Shared→Prop}(hx:IsTupleKey (intKind prog w) s.heap key x)(hv:∀v∈vs,∃a k,v=.ref a∧IsTupleKey (intKind prog w) s.heap k a)(q:Q false s):wpAny (model prog w) A (searchCouldBeSeen (.ref x) vs) Q E s:=by
 delta searchCouldBeSeen
 refine wpAny_bind (qC hv (fun v hc Q' q'=>?_) (wpAny_pure q))
 refine e22 hc fun a k e_2 hk=>?_; subst e_2
 dsimp only
 split
 ·exact wpAny_pure q'
 ·refine wpAny_bind (wpAny_eqIsQuiet_tuple hx ?_)
  refine wpAny_bind (wpAny_eqIsQuiet_tuple hk ?_)
  refine wpAny_bind (rT hx ?_)
  refine wpAny_bind (rT hk ?_)
  exact wpAny_pure q'
theorem fits(T:Tb prog w s.heap t L):t.fits (dO L).size=true:=by
 have h1:=T.room
 delta SetTable.fits SetTable.fill
 refine rwS T.q.dum (rwS T.q.place (rwS jI (rwS List.size_toArray (rwS tB ?_))))
 simp
 (first | lia | omega)
theorem aCk{a x:Addr}{ep f K:Nat}{o:Obj}{Q:SetFound→Shared→Prop}(hu:A.units<cLine)(ho:s.heap.get? a=some o)(hd:o.data=.set (dO L) ep t)(T:Tb prog w s.heap t L)(hk:key∈bX)(hx:IsTupleKey (intKind prog w) s.heap key x)(at':Spot t L key K)
  (h1:(∃e∈L,e.2.1=key)→Q (.there none) s) (h2:(∀e∈L,e.2.1≠key)→Q (.free (pr t.mask (rH key) K).j false) s):wpAny (model prog w) A (setSearchFrom a (.ref x) (rH key) true (f+1) none) Q E s:=by
 refine wpAny_bind (wpAny_setState_of ho hd (fits T) ?_)
 dsimp only
 refine rwS T.q.gave ?_
 rcases aGk T.q hk (hashAt:=fun i=>((dO L)[i]?.map (·.1)).getD 0) (fun i e he=>by refine rwS (aGf he) ?_; rfl) at' with ⟨i,e,j,n,hi,ek,g⟩ | ⟨no,g⟩
 ·have hm:=List.mem_of_getElem? hi
  have rest:wpAny (model prog w) A (do
     let some (_,y):=(dO L)[i]? | unsupported "internal:set-entry"
     let equal ← holding [y] (eqBool y (.ref x))
     let (es',_,t') ← setState a
     if true&&equal then return .there none
     let some same:=t'.sameMemory t.moves t.mask | unsupported "set.changed-during-lookup:is-the-new-block-at-the-old-address"
     let rB ← match (if same then t'.slot j else .empty) with
      | .live i'=>match es'[i']? with
       | some (_,y')=>do pure (if ← isSame y' y then some i' else none)
       | none=>pure none
      | _=>pure none
     match rB with
     | none=>rule "set.search.anew"; setSearchFrom a (.ref x) (rH key) true f none
     | some i'=>if equal then return .there (some i') else setSearchFrom a (.ref x) (rH key) true f (some n)) Q E s:=by
   refine rwS (aGf hi) ?_
   refine wpAny_bind (wpAny_holding (wpAny_eqBool_tuple hu (T.q.tup e hm).2 hx ?_))
   refine wpAny_bind (wpAny_setState_of ho hd (fits T) ?_)
   refine rwS (decide_eq_true ek) ?_
   exact wpAny_pure (h1 ⟨e,hm,ek⟩)
  erw [g]
  dsimp only
  cases hled:t.led with
  | true=>exact rest
  | false =>
   refine wpAny_bind (aMk hx (fun v hv=>?_) rest)
   refine e12 (List.mem_map.mp hv) fun p hp e_2=>?_; subst e_2
   refine e12 (List.mem_map.mp (Array.mem_toList_iff.mpr (Array.mem_filter.mp (Array.mem_toList_iff.mp hp)).1)) fun e' he' e_2=>?_; subst e_2
   exact⟨_,_,rfl,(T.q.tup e' he').2⟩
 ·erw [g]
  exact wpAny_pure (h2 no)
end
theorem mW{α:Type}(l:List α)(p:Nat)(x:α):SetTable.insertAt (List.toArray l) p x=List.toArray (l.take p++x::l.drop p):=by
 delta SetTable.insertAt
 apply Array.toList_inj.mp
 refine rwS Array.toList_append (rwS Array.toList_push (rwS Array.toList_extract (rwS Array.toList_extract ?_)))
 show l.take p++[x]++(l.drop p).take (l.length - p)=_
 rw[List.take_of_length_le (i:=l.length - p) (by rw[List.length_drop]; exact Nat.le_refl _),List.append_assoc]; rfl
section
variable{prog:Program}{w:World}{t:SetTable}{L:List En}{key:List Int}{h:Heap}
noncomputable def pQ(L:List En)(p:Nat)(e:En):List En:=L.take p++e::L.drop p
theorem gT{p:Nat}{e:En}:(pQ L p e).Perm (e::L):=List.perm_middle.trans (by rw[List.take_append_drop])
theorem qW{α:Type}{f:En→α}{p:Nat}{e:En}:(pQ L p e).map f=(L.map f).take p++f e::(L.map f).drop p:=by
 delta pQ; exact rwS List.map_append (rwS List.map_cons (rwS List.map_take (rwS List.map_drop rfl)))
theorem aUz{p:Nat}{e:En}:SetTable.insertAt (dO L) p (rH e.2.1,.ref e.2.2)=dO (pQ L p e):=(mW ..).trans (congrArg List.toArray qW.symm)
theorem aUk{p:Nat}{e:En}:SetTable.insertAt (fR L).toArray p e.1=(fR (pQ L p e)).toArray:=(mW ..).trans (congrArg List.toArray qW.symm)
theorem aEn{P:List Nat}{j p:Nat}(hp:P.Pairwise (· < ·))(c:Cut P j p)(hj:j ∉ P):(P.take p++j::P.drop p).Pairwise (· < ·):=by
 have tk:∀a∈P.take p,a<j:=fun a ha=>by
  refine e1 (List.getElem?_of_mem ha) fun i hi=>?_
  rw[List.getElem?_take]at hi
  split at hi
  ·rename_i q; exact c.2.1 i a q hi
  ·exact nos hi
 have dr:∀a∈P.drop p,j<a:=fun a ha=>by
  refine e1 (List.getElem?_of_mem ha) fun i hi=>?_
  rw[List.getElem?_drop]at hi
  exact Nat.lt_of_le_of_ne (c.2.2 _ a (Nat.le_add_right p i) hi) fun e=>hj (e▸List.mem_of_getElem? hi)
 exact List.pairwise_append.mpr ⟨hp.take,List.pairwise_cons.mpr ⟨dr,hp.drop⟩,fun a ha b hb=>(List.mem_cons.mp hb).elim (fun e=>e▸tk a ha) fun q=>Nat.lt_trans (tk a ha) (dr b q)⟩
theorem aSw{x:Addr}{K:Nat}(T:Tq prog w h t L)(hk:key∈bX)(hx:IsTupleKey (intKind prog w) h key x)(at':Spot t L key K)(hn:∀e∈L,e.2.1≠key) :
  ∃p,t.put (pr t.mask (rH key) K).j=({ t with place:=(fR (pQ L p ((pr t.mask (rH key) K).j,key,x))).toArray },p)∧Tq prog w h { t with place:=(fR (pQ L p ((pr t.mask (rH key) K).j,key,x))).toArray } (pQ L p ((pr t.mask (rH key) K).j,key,x)):=by
 generalize hj:(pr t.mask (rH key) K).j=j
 have nj:j ∉ fR L:=hj▸at'.f
 have mem:∀{p:Nat} (e':En),e'∈pQ L p (j,key,x)→e'=(j,key,x)∨e'∈L:=fun e' q=>List.mem_cons.mp (gT.mem_iff.mp q)
 have mpl:∀{p i:Nat},i∈fR L→i∈fR (pQ L p (j,key,x)):=fun {p i} q=>(gT.map (·.1)).mem_iff.mpr (List.mem_cons_of_mem _ q)
 refine⟨SetTable.below t.place j,?_,T.mask,rfl,T.dum,T.plain,T.led,?_,fun i hi=>?_,fun e he=>?_,(gT.map (·.2.1)).nodup_iff.mpr (List.nodup_cons.mpr ⟨fun hm=>?_,T.nd⟩),fun e he=>?_⟩
 ·delta SetTable.put
  refine rwS T.dum (rwT aUk (rwT T.place ?_))
  rfl
 ·delta fR
  refine rwS qW (rwS T.place ?_)
  exact aEn T.rise (qU T.rise j) nj
 ·exact(List.mem_cons.mp ((gT.map (·.1)).mem_iff.mp hi)).elim (fun e=>by refine rwS e (rwT hj ?_); exact aXs K) (T.le i)
 ·exact(mem e he).elim (fun q=>q▸⟨hk,hx⟩) (T.tup e)
 ·exact(List.mem_map.mp hm).elim fun e q=>hn e q.1 q.2
 ·rcases mem e he with rfl | he
  ·exact⟨K,hj,fun r q=>mpl (at'.u r q)⟩
  ·exact(T.reach e he).elim fun r q=>⟨r,q.1,fun r' a=>mpl (q.2 r' a)⟩
end
section
variable{prog:Program}{w:World}{t:SetTable}{L:List En}{key:List Int}{A:Around}{E:PV→Shared→Prop}{s:Shared}
noncomputable def SetAt(prog:Program)(w:World)(h:Heap)(a:Addr)(L:List En):Prop:=∃o ep t,h.get? a=some o∧o.ExactSet∧o.data=.set (dO L) ep t∧Tb prog w h t L
theorem Tq.len{h:Heap}(T:Tq prog w h t L):L.length≤3:=by
 have q:=List.Nodup.length_le_of_subset T.nd (l₂:=bX) fun k hk=>(List.mem_map.mp hk).elim fun e q=>q.2▸(T.tup e q.1).1
 rw[List.length_map]at q
 exact q
theorem oM{h h':Heap}{a x:Addr}(hx:IsTupleKey (intKind prog w) h key x)(k:∀b o,b≠a→h.get? b=some o→h'.get? b=some o)(na:x≠a):IsTupleKey (intKind prog w) h' key x :=
 hx.elim fun o q=>q.elim fun items q=>q.elim fun n q=>⟨o,items,n,k _ _ na q.1,q.2⟩
theorem aGi{h:Heap}{a x:Addr}{o:Obj}(hx:IsTupleKey (intKind prog w) h key x)(ho:h.get? a=some o)(he:o.ExactSet):x≠a:=fun e=>by
 subst e
 refine e33 hx fun o' items n ho' hc _=>?_
 cases ho.symm.trans ho'
 exact absurd (Value.type.inj (he.1.symm.trans hc)) (by decide)
theorem aDe{a:Addr}{o:Obj}{es:Array (Int × PV)}{ep:Nat}{t' t2:SetTable}{Q:Unit→Shared→Prop}(ho:s.heap.get? a=some o)(hx:o.ExactSet)(hd:o.data=.set es ep t')(T:Tq prog w s.heap t2 L)
  (q:∀h',Heap.SameBut a s.heap h'→h'.get? a=some { o with data:=.set (dO L) (ep+1) t2 }→Tq prog w h' t2 L→Q () { s with heap:=h' }):wpAny (model prog w) A (storeSet a (dO L) t2) Q E s:=by
 refine wpAny_storeSet_of ho hd (q _ (Heap.SameBut.update s.heap a (Obj.putSet (dO L) t2)) ?_ { T with tup:=fun e he=>⟨(T.tup e he).1,oM (T.tup e he).2 (fun b o n e=>(Heap.SameBut.update s.heap a (Obj.putSet (dO L) t2)).extBut b o n e) (aGi (T.tup e he).2 ho hx)⟩ }) (by refine rwS jI (rwS sizeLine_eq ?_); exact Nat.le_trans T.len (by decide))
 have e:=Heap.get?_update_self (Obj.putSet (dO L) t2) ho (by refine rwS (putSet_of _ _ hd) ?_; rfl)
 rw[putSet_of _ _ hd]at e
 exact e
theorem Tq.fill{h:Heap}(T:Tq prog w h t L):t.fill=L.length:=by
 delta SetTable.fill; refine rwS T.dum (rwS T.place (rwS List.size_toArray (rwS tB ?_))); rfl
theorem Tq.few{h:Heap}(T:Tq prog w h t L):t.tooFull=false:=by
 delta SetTable.tooFull
 refine rwS T.fill (rwS (List.mem_singleton.mp T.mask) ?_)
 exact decide_eq_false (Nat.not_le.mpr (Nat.lt_of_le_of_lt (Nat.mul_le_mul_right 5 T.len) (by decide)))
end
section
variable{prog:Program}{w:World}{t:SetTable}{L:List En}{key:List Int}{A:Around}{E:PV→Shared→Prop}{s:Shared}
theorem aGx{ks:List Int}{vs:List PV}(h:ItemsAre (intKind prog w) ks vs):∀v∈vs,∃k t,v=.int k t:=by
 induction h with
 | nil=>exact fun _ h=>(fK h)
 | cons h1 _ ih =>
  refine e1 (Value.isInt_shape h1) fun t e_1=>?_; subst e_1
  exact fun v hv=>(List.mem_cons.mp hv).elim (fun e=>⟨_,t,e⟩) (ih v)
theorem aCy{a:Addr}{Q:Bool→Shared→Prop}(hk:IsTupleKey (intKind prog w) s.heap key a)(q:Q true s):wpAny (model prog w) A (hashByValue 8 (.ref a)) Q E s:=by
 refine e34 hk fun o items n ho _ hd hi=>?_
 unfold hashByValue
 refine wpAny_bind (wpAny_specialOf hk.typeIs F.slot_tuple_hash.lookup ?_)
 dsimp only
 refine wpAny_bind (wpAny_seqItems ho hd (wpAny_bind ?_))
 refine rwT Array.forIn_toList ?_
 refine qC (aGx hi) (fun v hc Q' q'=>?_) (wpAny_pure q)
 refine e21 hc fun k t e_2=>?_; subst e_2
 refine rwS (show hashByValue 7 (.int k t)=pure true from rfl) ?_
 exact wpAny_bind (wpAny_pure (wpAny_pure q'))
theorem aRn{a x:Addr}{Q:Bool→Shared→Prop}(hu:A.units<cLine)(S:SetAt prog w s.heap a L)(hk:key∈bX)(hx:IsTupleKey (intKind prog w) s.heap key x)
  (yes:(∃e∈L,e.2.1=key)→Q false s) (no:(∀e∈L,e.2.1≠key)→∀h' L',Heap.SameBut a s.heap h'→SetAt prog w h' a L'→(L'.map (·.2)).Perm ((key,x)::L.map (·.2))→Q true { s with heap:=h' }) :
  wpAny (model prog w) A (setAddHashed a (.ref x) (rH key)) Q E s:=by
 refine nnG fun nG=>?_; refine e34 S fun o ep t ho hex hd T=>?_
 refine e1 (T.spot hk) fun K at'=>?_
 refine nG ?_; unfold setAddHashed setAddHashedIn
 refine wpAny_holding (wpAny_bind (wpAny_setState_of ho hd (fits T) ?_))
 dsimp only
 refine rwS (show byScan (.ref x) (dO L)=false from rfl) ?_
 delta setSearch
 refine wpAny_bind (aCk hu ho hd T hk hx at' (fun h=>wpAny_pure (yes h)) fun hn=>?_)
 refine wpAny_bind (wpAny_setState_of ho hd (fits T) ?_)
 refine e12 (aSw T.q hk hx at' hn) fun p ep2 Q2=>?_
 dsimp only
 refine rwS ep2 ?_
 dsimp only
 refine rwS (if_pos T.q.plain) ?_
 refine wpAny_bind (aCy hx ?_)
 have hes:=aUz (L:=L) (p:=p) (e:=((pr t.mask (rH key) K).j,key,x))
 dsimp only at hes ⊢
 refine rwS hes ?_
 have perm:=gT (L:=L) (p:=p) (e:=((pr t.mask (rH key) K).j,key,x))
 generalize pQ L p ((pr t.mask (rH key) K).j,key,x)=L2 at *
 have hlen:L2.length=L.length+1:=perm.length_eq
 refine wpAny_bind (aDe (t2:={ t with place:=(fR L2).toArray }) ho hex hd Q2 fun h' sb hg T'=>?_)
 rw[if_pos (show true=true from rfl)]
 refine rwS T'.few ?_
 exact wpAny_pure (no hn h' L2 sb ⟨_,_,_,hg,hex,rfl,T',by refine rwS (List.mem_singleton.mp T'.mask) ?_; exact Nat.lt_of_le_of_lt (Nat.mul_le_mul_right 5 T'.len) (by decide)⟩ (perm.map (·.2)))
end
theorem oZ{α:Type}:∀{l:List α} {i:Nat} (h:i<l.length),(l[i]::l.eraseIdx i).Perm l
 | x::l,0,_=>.refl _
 | x::l,i+1,h=>(List.Perm.swap ..).trans ((oZ (Nat.lt_of_succ_lt_succ h)).cons x)
theorem aBw{α:Type}{next:Nat→Nat}:∀(f k:Nat) (left:List α) (out:Array α),left.length=f→(pickOrder.go next f k left out).toList.Perm (out.toList++left)
 | 0,k,left,out,h=>by
  obtain rfl:=List.length_eq_zero_iff.mp h
  show out.toList.Perm _
  rw[List.append_nil]
 | f+1,k,left,out,h=>by
  have hlt:next k % left.length<left.length:=Nat.mod_lt _ (h▸Nat.succ_pos f)
  have e:pickOrder.go next (f+1) k left out=pickOrder.go next f (k+1) (left.eraseIdx (next k % left.length)) (out.push left[next k % left.length]):=by
   show (match left[next k % left.length]? with | some x=>pickOrder.go next f (k+1) (left.eraseIdx (next k % left.length)) (out.push x) | none=>out)=_
   exact rwS (List.getElem?_eq_getElem hlt) rfl
  refine rwS e ?_
  refine(aBw f (k+1) _ _ (by refine rwS (List.length_eraseIdx_of_lt hlt) (rwS h ?_); rfl)).trans ?_
  rw[Array.toList_push,List.append_assoc]
  exact List.Perm.append_left _ (oZ hlt)
section
variable{prog:Program}{w:World}{t:SetTable}{L:List En}{A:Around}{E:PV→Shared→Prop}{s:Shared}{h₀:Heap}
noncomputable def iF(w:World)(S ep:Nat)(L:List En):Array (Int × PV):=if w.params.followText "set-order"=true then pickOrder (w.params.setOrder S ep) (dO L) else dO L
theorem vO{S ep:Nat}:(iF w S ep L).toList.Perm (dO L).toList:=by
 delta iF
 split
 ·exact aBw _ _ _ _ (Array.length_toList ..)
 ·exact .refl _
theorem lU{S ep:Nat}:(iF w S ep L).size=L.length:=(vO (w:=w) (L:=L) (S:=S) (ep:=ep)).length_eq.trans jI
noncomputable def jE(L:List En):Nat→Nat
 | 0=>0
 | k+1=>(L.getD k (0,[],0)).1+1
theorem tA(T:Tb prog w h₀ t L)(s:Shared):t.fits (dO L).size=true:=fits (s:={ s with heap:=h₀ }) T
theorem aJl(T:Tb prog w h₀ t L){k:Nat}(hk:k≤L.length):SetTable.below t.place (jE L k)=k:=by
 refine rwS T.q.place ?_
 have r:=T.q.rise
 have pk:∀{k:Nat},k<L.length→(fR L)[k]?=some (L.getD k (0,[],0)).1:=fun h=>by refine rwS (iA h) ?_; exact aHk (List.getElem?_eq_getElem h)
 have lt:∀i v,i<k→(fR L)[i]?=some v→v<jE L k:=fun i v hi e=>by
  cases k with
  | zero=>exact absurd hi (Nat.not_lt_zero _)
  | succ k=>exact Nat.lt_succ_of_le ((Nat.lt_or_eq_of_le (Nat.le_of_lt_succ hi)).elim (fun q=>Nat.le_of_lt (qH r q e (pk hk))) fun q=>by subst q; cases e.symm.trans (pk hk); exact Nat.le_refl _)
 refine(qU r _).uniq (by refine rwS tB ?_; exact hk) (lt _) fun v hr e=>?_
 cases k with
 | zero=>exact Nat.zero_le _
 | succ k=>exact qH r (Nat.lt_succ_self k) (pk hk) e
theorem aNe{S slot k ep:Nat}{o:Obj}{Q:Option (PV × Nat)→Shared→Prop}(ho:s.heap.get? S=some o)(hd:o.data=.set (dO L) ep t)(T:Tb prog w h₀ t L)(hk:k≤L.length)(hsl:w.params.followText "set-order"=false→slot=jE L k)
  (q0:k=L.length→Q none s) (q1:∀x n,(iF w S ep L)[k]?=some x→(w.params.followText "set-order"=false→n=jE L (k+1))→Q (some (x.2,n)) s):wpAny (model prog w) A (setNext S slot k ep) Q E s:=by
 delta setNext
 refine wpAny_bind (wpAny_setState_of ho hd (tA T s) ?_)
 dsimp only
 delta setsByText
 refine wpAny_bind (wpAny_bind (wpAny_askSetting (wpAny_pure ?_)))
 have fin:∀{n:Nat} (r:Option (PV × Nat)),r=((iF w S ep L)[k]?).map (fun e=>(e.2,n))→(k<L.length→w.params.followText "set-order"=false→n=jE L (k+1))→Q r s:=fun {n} r hr hn=>by
  rcases Nat.lt_or_eq_of_le hk with hl | he
  ·have e:(iF w S ep L)[k]?=some _:=Array.getElem?_eq_getElem (by refine rwS lU ?_; exact hl)
   refine rwS hr (rwS e ?_)
   exact q1 _ _ e (hn hl)
  ·refine rwS hr (rwS (Array.getElem?_eq_none (Nat.le_of_eq (lU.trans he.symm))) ?_)
   exact q0 he
 cases hb:w.params.followText "set-order" with
 | true =>
  refine rwS (show (model prog w).w.params.followText "set-order"=true from hb) (rwS (if_pos rfl) (rwS (if_neg (by rw[bne_self_eq_false]; exact Bool.false_ne_true)) ?_))
  delta setWalk
  refine wpAny_bind (wpAny_bind (wpAny_setState_of ho hd (tA T s) ?_))
  dsimp only
  delta setsByText
  refine wpAny_bind (wpAny_bind (wpAny_askSetting (wpAny_pure ?_)))
  refine rwS (show (model prog w).w.params.followText "set-order"=true from hb) (rwS (if_pos rfl) ?_)
  refine wpAny_bind (wpAny_askSetting (wpAny_pure ?_))
  exact wpAny_pure (fin _ (by delta iF; refine rwS (if_pos hb) ?_; rfl) fun _ h=>absurd (hb.symm.trans h) Bool.noConfusion)
 | false =>
  refine rwS (show (model prog w).w.params.followText "set-order"=false from hb) (rwS (if_neg Bool.false_ne_true) ?_)
  show wpAny (model prog w) A (if (!t.plain&&decide ((dO L).size > 1))=true then _ else ((if (!t.led && !(dO L).isEmpty)=true then unsupported "set:maker-not-led" else pure ()) >>= fun _=>_)) _ _ s
  refine rwS T.q.plain (rwS T.q.led (rwS hb (rwS (hsl hb) ?_)))
  refine wpAny_bind (wpAny_pure (wpAny_pure ?_))
  refine rwS (aJl T hk) ?_
  refine fin (n:=(L.getD k (0,[],0)).1+1) _ ?_ fun _ _=>rfl
  delta iF
  refine rwS (if_neg (by rw[hb]; exact Bool.false_ne_true)) (rwS T.q.place (rwS (List.getElem?_toArray (xs:=fR L)) ?_))
  rcases Nat.lt_or_eq_of_le hk with hl | he
  ·refine rwS (aGf (List.getElem?_eq_getElem hl)) (rwS (aHk (List.getElem?_eq_getElem hl)) (rwS (iA hl) ?_)); rfl
  ·refine rwS (Array.getElem?_eq_none (Nat.le_of_eq (jI.trans he.symm))) ?_; rfl
end
theorem fE:Slot "set_iterator" "__next__" "set_iterator.__next__" :=
 .of (owner:="set_iterator") (n:="__next__") (by rw[typeLookup_type,builtinLookup_eq_fast]; kernel_rfl) (by decide +kernel) (by decide +kernel) (by decide +kernel)
  (by first | exact .inl (by decide +kernel) | exact .inr (by decide +kernel)) (by rw[isSubtype_type]; kernel_rfl)
theorem rO:entryFor table "set_iterator.__next__"=some Builtin.«set_iterator.__next__»:=entryFor_of_tree (by kernel_rfl)
theorem uZ(a:PV):argsOk "set_iterator.__next__" ⟨[a],[]⟩:=by delta argsOk; kernel_rfl
theorem uV:entryFor table "set.__iter__"=some Builtin.«frozenset.__iter__» :=
 entryFor_alias (id':="frozenset.__iter__") (by kernel_rfl) rfl (by decide +kernel) (by kernel_rfl)
theorem lW:Slot "set_iterator" "__iter__" "set_iterator.__iter__" :=
 .of (owner:="set_iterator") (n:="__iter__") (by rw[typeLookup_type,builtinLookup_eq_fast]; kernel_rfl) (by decide +kernel) (by decide +kernel) (by decide +kernel)
  (by first | exact .inl (by decide +kernel) | exact .inr (by decide +kernel)) (by rw[isSubtype_type]; kernel_rfl)
theorem uO(a:PV):argsOk "set_iterator.__iter__" ⟨[a],[]⟩:=by delta argsOk; kernel_rfl
theorem rJ:entryFor table "set_iterator.__iter__"=some Builtin.«dict_keyiterator.__iter__» :=
 entryFor_alias (id':="dict_keyiterator.__iter__") (by kernel_rfl) (by first | rfl | decide +kernel | (unfold String.splitOn; simp +decide [String.splitOnAux])) (by decide +kernel) (by kernel_rfl)
section
variable{prog:Program}{w:World}{t:SetTable}{L:List En}{A:Around}{E:PV→Shared→Prop}{s:Shared}{h₀:Heap}
noncomputable def vF(h:Heap)(I S slot k n ep:Nat):Prop:=h.get? I=some { cls:=.type "set_iterator",dict:=none,data:=.fields #[rawInt slot,rawInt k,.ref S,rawInt n,rawInt ep],slots:=#[] }
theorem wW{I S:Addr}{o:Obj}{ep slot k:Nat}{Q:Option PV→Shared→Prop}(hh:A.handled=none)(ho:s.heap.get? S=some o)(hd:o.data=.set (dO L) ep t)(T:Tb prog w h₀ t L)(it:vF s.heap I S slot k L.length ep)(hk:k≤L.length)
  (hsl:w.params.followText "set-order"=false→slot=jE L k) (q0:k=L.length→∀h',Heap.ExtBut I s.heap h'→Q none { s with heap:=h' })
  (q1:∀h' slot' x,Heap.SameBut I s.heap h'→vF h' I S slot' (k+1) L.length ep→(w.params.followText "set-order"=false→slot'=jE L (k+1))→(iF w S ep L)[k]?=some x→Q (some x.2) { s with heap:=h' }):wpAny (model prog w) A (pyNext (.ref I)) Q E s:=by
 have hT:s.TypeIs (.ref I) "set_iterator":=⟨_,it,rfl⟩
 delta pyNext
 refine wpAny_bind (wpAny_attempt (wpAny_callSpecial?_slot (name:=Str.ofString "__next__") hT fE
  (wpAny_call_entry fE hT rO ?_ (uZ _))))
 delta Builtin.«set_iterator.__next__»
 refine wpAny_bind (m:=slotArgs "__next__" 0 _) (wpAny_pure ?_)
 refine wpAny_bind ?_
 delta fieldsOf
 refine wpAny_bind (wpAny_load it (wpAny_pure ?_))
 show wpAny _ _ (setEntries S >>= _) _ _ _
 refine wpAny_bind (wpAny_setEntries_of ho hd (tA T s) ?_)
 refine rwS (if_neg (by rw[jI,bne_self_eq_false]; exact Bool.false_ne_true)) ?_
 show wpAny _ _ (setNext S (Int.toNat slot) (Int.toNat k) (Int.toNat ep) >>= _) _ _ _
 rw[Int.toNat_natCast,Int.toNat_natCast,Int.toNat_natCast]
 refine wpAny_bind (aNe ho hd T hk hsl (fun hk=>?_) fun x n h1 h2=>?_)
 ·refine wpAny_bind (wpAny_setField_rec it (Nat.lt_of_lt_of_le (by decide) (Nat.le_refl 5)) fun h1' g1 sb1=>?_)
  refine wpAny_bind ?_
  simp only[newExc,newTuple]
  refine wpAny_bind (wpAny_newObj_type ?_ (by size_fits))
  refine wpAny_bind (m:=firstArgMember _ _) (wpAny_of_eq (a:=Value.none) (by first | rfl | (simp only[firstArgMember]; rfl)) ?_)
  refine wpAny_newObj_type ?_ (by size_fits)
  simp only[raiseNew]
  refine wpAny_bind (wpAny_handled ?_)
  refine rwS (show A.in1.handled=none from hh) ?_
  refine wpAny_bind (wpAny_pure (wpAny_throw ?_))
  refine wpAny_bind (wpAny_isInstance (T:="StopIteration") (b:=true) ⟨_,Heap.get?_push_size _ rfl,rfl⟩ isSubtype_stop ?_)
  exact wpAny_pure (q0 hk _ ((sb1.extBut.push _).push _))
 ·refine wpAny_bind (wpAny_setField_rec it (Nat.lt_of_lt_of_le (by decide) (Nat.le_refl 5)) fun h1' g1 sb1=>?_)
  refine wpAny_bind (wpAny_setField_rec (s:={ s with heap:=h1' }) g1 (by simp) fun h2' g2 sb2=>?_)
  exact wpAny_pure ⟨_,rfl,wpAny_pure (q1 h2' n x (sb1.trans sb2) g2 h2 h1)⟩
theorem aDd{I S:Addr}{o:Obj}{ep:Nat}(hh:A.handled=none)(hne:S≠I)(hd:o.data=.set (dO L) ep t)(T:Tb prog w h₀ t L) :
  Walks prog w A I [I,S] [I] L.length (fun i v=>∃x,(iF w S ep L)[i]?=some x∧v=x.2) (fun i h=>∃slot,vF h I S slot i L.length ep∧(w.params.followText "set-order"=false→slot=jE L i)∧h.get? S=some o) where
 sub:=fun b hb=>List.mem_singleton.mp hb▸List.mem_cons_self
 frame:=fun i h h' ⟨slot,it,h1,h2⟩ hk=>⟨slot,hk I (List.mem_cons_self ..) _ it,h1,hk S (List.mem_cons_of_mem _ (List.mem_cons_self ..)) _ h2⟩
 item:=fun i s Q E hi ⟨slot,it,h1,h2⟩ hQ=>wW hh h2 hd T it (Nat.le_of_lt hi) h1 (fun e=>absurd hi (Nat.not_lt.mpr (Nat.le_of_eq e.symm))) fun h' slot' x sb it' h3 h4=>hQ x.2 h' s.toks ⟨x,h4,rfl⟩ ⟨slot',it',h3,sb.extBut S o hne h2⟩ fun b o hb e=>sb.extBut b o (fun q=>hb (List.mem_singleton.mpr q)) e
 done:=fun s Q E ⟨slot,it,h1,h2⟩ hQ=>wW hh h2 hd T it (Nat.le_refl _) h1 (fun _ h' eb=>hQ h' s.toks fun b o hb e=>eb b o (fun q=>hb (List.mem_singleton.mpr q)) e) fun h' slot' x _ _ _ h4=>absurd (Array.getElem?_eq_some_iff.mp h4).1 (Nat.not_lt.mpr (Nat.le_of_eq lU))
 self:=fun i s Q E ⟨slot,it,_,_⟩ hQ=>by
  have hT:s.TypeIs (.ref I) "set_iterator":=⟨_,it,rfl⟩
  refine wpAny_pyIter_slot hT lW (wpAny_call_entry lW hT rJ ?_ (uO _))
  show wpAny _ _ (ret (.ref I)) _ _ s
  exact wpAny_pure ⟨_,rfl,"set_iterator",_,hT,fE.lookup,hQ⟩
end
section
variable{prog:Program}{w:World}{t:SetTable}{L:List En}{A:Around}{E:PV→Shared→Prop}{s:Shared}{h₀:Heap}
noncomputable def siO(S n ep:Nat):Obj:={ cls:=.type "set_iterator",data:=.fields #[rawInt (0:Nat),rawInt (0:Nat),.ref S,rawInt n,rawInt ep] }
theorem aFv{S:Addr}{o:Obj}{ep:Nat}{Q:PV→Shared→Prop}(ho:s.heap.get? S=some o)(hex:o.ExactSet)(hd:o.data=.set (dO L) ep t)(T:Tb prog w h₀ t L)
  (q:vF (s.heap.push (siO S L.length ep)) s.heap.objs.size S 0 0 L.length ep→Q (.ref s.heap.objs.size) { s with heap:=s.heap.push (siO S L.length ep) }) :
  wpAny (model prog w) A (pyIter (.ref S)) Q E s:=by
 have hT:s.TypeIs (.ref S) "set":=⟨o,ho,hex.1⟩
 have g:vF (s.heap.push (siO S L.length ep)) s.heap.objs.size S 0 0 L.length ep:=Heap.get?_push_size _ rfl
 refine wpAny_pyIter_slot hT F.slot_set_iter (wpAny_call_entry F.slot_set_iter hT uV ?_ (F.args_set_iter_1 _))
 delta Builtin.«frozenset.__iter__» Builtin.Frozenset.slot0 slotArgs
 simp only[List.isEmpty_nil,Bool.not_true,Bool.false_eq_true,↓reduceIte,bind_assoc,List.length_nil,bne_self_eq_false]
 delta Builtin.Frozenset.addrOf Builtin.Frozenset.sizeOf
 refine wpAny_bind (wpAny_pure ?_)
 dsimp only
 refine wpAny_bind (wpAny_pure ?_)
 refine wpAny_bind (wpAny_bind (wpAny_setEntries_of ho hd (tA T s) (wpAny_pure ?_)))
 delta setDrawn setsByText
 refine wpAny_bind (wpAny_bind (wpAny_setState_of ho hd (tA T s) ?_))
 dsimp only
 refine wpAny_bind (wpAny_bind (wpAny_askSetting (wpAny_pure ?_)))
 refine wpAny_pure ?_
 have nf:∀b:Bool,¬ (b&&(!t.plain&&decide ((dO L).size > 1)))=true:=fun b=>by refine rwS T.q.plain ?_; cases b <;> exact Bool.false_ne_true
 refine rwS (if_neg (by exact nf _)) ?_
 refine wpAny_bind (wpAny_pure ?_)
 refine wpAny_bind (wpAny_setEpoch_of ho hd (tA T s) ?_)
 refine wpAny_bind (wpAny_newObj_type ?_)
 refine rwS jI ?_
 exact wpAny_pure ⟨_,rfl,"set_iterator",_,⟨_,g,rfl⟩,fE.lookup,q g⟩
theorem aDu{S ep:Nat}{acc:Array PV}(h:ItemsOf (fun i v=>∃x,(iF w S ep L)[i]?=some x∧v=x.2) acc L.length):acc.toList.Perm (L.map fun e=>Value.ref e.2.2):=by
 have e:acc.toList=(iF w S ep L).toList.map (·.2):=List.ext_getElem ((h.1.trans lU.symm).trans (List.length_map ..).symm) fun i h1 h2=>by
  refine e12 (h.2 i acc[i] (Array.getElem?_eq_getElem h1)) fun x hx hv=>?_
  rw[List.getElem_map]
  exact hv.trans (congrArg (·.2) (Array.getElem?_eq_some_iff.mp hx).2.symm)
 refine rwS e ?_
 refine(vO.map (·.2)).trans (List.Perm.of_eq ?_)
 delta dO
 exact List.map_map
theorem aDw{a:Addr}{n:Nat}{Q:Unit→Shared→Prop}(ho:s.heap.get? a=some (seqObj "list" #[] n))(q:∀h' n',Heap.SameBut a s.heap h'→h'.get? a=some (seqObj "list" #[] n')→Q () { s with heap:=h' }):wpAny (model prog w) A (Builtin.List.listTouch (.ref a)) Q E s:=by
 delta Builtin.List.listTouch
 refine wpAny_bind (listUpdate_at ho rfl ?_ (Nat.zero_le _) (by simp))
 refine listUpdate_at (s:={ s with heap:=s.heap.update a (Obj.mapSeq fun x=>x.push Value.none) }) (get?_update_seq ho (fun x=>x.push Value.none)) rfl ?_ (by refine rwS sizeLine_eq ?_; simp) (by simp)
 exact q _ _ ((Heap.SameBut.update ..).trans (Heap.SameBut.update ..)) (get?_update_seq (get?_update_seq ho (fun x=>x.push Value.none)) (fun x=>x.pop))
theorem xD{S:Addr}{o:Obj}{ep:Nat}{Q:List PV→Shared→Prop}(hh:A.handled=none)(ho:s.heap.get? S=some o)(hex:o.ExactSet)(hd:o.data=.set (dO L) ep t)(T:Tb prog w h₀ t L)
  (q:∀h' tk (acc:List PV),(∀b o,s.heap.get? b=some o→h'.get? b=some o)→acc.Perm (L.map fun e=>Value.ref e.2.2)→Q acc { s with heap:=h',toks:=tk }):wpAny (model prog w) A (collect (.ref S)) Q E s:=by
 have hlt:S<s.heap.objs.size:=Heap.lt_size ho
 delta collect
 refine wpAny_bind (wpAny_runValue (codeAny_builtin F.entry_proto_collect ?_))
 refine rwS (Around.under_plainId F.plain_proto_collect _) ?_
 show wpAny _ A.in1 (newList [] >>= fun l=>again (.builtin "list.__iadd__" ⟨[l,.ref S],[]⟩)) _ _ s
 refine wpAny_bind (wpAny_newObj_type ?_)
 refine wpAny_pure ⟨plainId_quiet F.plain_list_iadd _,codeAny_builtin F.entry_list_iadd ?_⟩
 refine rwS (Around.under_plainId F.plain_list_iadd _) ?_
 have hS₁:(s.heap.push (seqObj "list" #[] 0)).get? s.heap.objs.size=some (seqObj "list" #[] 0):=Heap.get?_push_size _ rfl
 have ho1:(s.heap.push (seqObj "list" #[] 0)).get? S=some o:=Heap.get?_push_of_some _ ho
 show wpAny _ A.in1 (Builtin.List.listExtendWith (.ref s.heap.objs.size) (.ref S) (.ref s.heap.objs.size)) _ _ { s with heap:=s.heap.push (seqObj "list" #[] 0) }
 delta Builtin.List.listExtendWith
 refine wpAny_bind (wpAny_typeOf (T:="set") ⟨_,ho1,hex.1⟩ ?_)
 refine rwS (if_neg (by rw[show Builtin.List.listSameRef (.ref s.heap.objs.size) (.ref S)=false by simp[Builtin.List.listSameRef]; exact Nat.ne_of_gt hlt]; decide)) ?_
 refine wpAny_bind (aFv ho1 hex hd T fun it=>?_)
 generalize hI:({ s with heap:=s.heap.push (seqObj "list" #[] 0) }:Shared).heap.objs.size=I at it ⊢
 have hI:I=s.heap.objs.size+1:=hI.symm.trans (Heap.size_push ..)
 have ho2:((s.heap.push (seqObj "list" #[] 0)).push (siO S L.length ep)).get? S=some o:=Heap.get?_push_of_some _ ho1
 refine wpAny_bind (wpAny_holding ?_)
 delta Builtin.List.listLengthHint
 refine wpAny_bind (wpAny_specialOf (T:="set") ⟨_,ho2,hex.1⟩ F.slot_set_len.lookup ?_)
 (generalize hid:("set.__len__":String)=id0; (fail_if_success (clear hid id0)); wp_delta; refine rwS (show splitId id0=some ("set","__len__") from by subst hid; decide +kernel) ?_; subst hid)
 refine wpAny_bind (wpAny_isInstance (T:="set") (b:=true) ⟨_,ho2,hex.1⟩ (by rw[isSubtype_type]; kernel_rfl) ?_)
 show wpAny _ A.in1 (typeOf (.ref S) >>= _) _ _ _
 refine wpAny_bind (wpAny_typeOf (T:="set") ⟨_,ho2,hex.1⟩ ?_)
 refine wpAny_pure ?_
 refine rwS (if_pos (by decide)) ?_
 refine wpAny_bind (wpAny_rule ?_)
 have nS:S≠I:=hI▸Nat.ne_of_lt (Nat.lt_succ_of_lt hlt)
 refine wpAny_bind (aDw (n:=0) (Heap.get?_push_of_some _ hS₁) fun h2 n2 sb2 hS₂=>?_)
 have out:∀{b:Nat},b≠I→b≠S→b ∉ [I,S]:=fun h1 h2 hm=>(List.mem_cons.mp hm).elim h1 fun h=>h2 (List.mem_singleton.mp h)
 refine wpAny_pure ⟨plainId_quiet F.plain_extend_loop _,codeAny_extend_loopS ((aDd (A:=A.in1) (I:=I) hh nS hd T).toS) (by refine rwS sizeLine_eq ?_; exact Nat.le_trans T.q.len (by decide)) s.heap.objs.size (out (hI▸Nat.ne_of_lt (Nat.lt_succ_self _)) (Nat.ne_of_gt hlt)) _ L.length 0 _ #[] n2 rfl (Nat.zero_le _) ⟨0,sb2.extBut _ _ (hI▸Nat.ne_of_gt (Nat.lt_succ_self _)) it,fun _=>rfl,sb2.extBut _ _ (Nat.ne_of_lt hlt) ho2⟩ hS₂ (ItemsOf.nil _) fun s' acc' c' hm hS' hacc=>?_⟩
 show wpAny _ A (load s.heap.objs.size >>= _) _ _ s'
 refine wpAny_bind (wpAny_load hS' ?_)
 obtain⟨m1,m2,m3,m4,m5⟩:=hm
 obtain⟨hp,gs,dr,tk,os⟩:=s'
 dsimp only at m2 m3 m4
 subst m2; subst m3; subst m4
 refine wpAny_pure (q hp tk acc'.toList (fun b ob e=>m1 b ob ?_ (sb2.extBut b ob (Nat.ne_of_lt (Heap.lt_size e)) (Heap.get?_push_of_some _ (Heap.get?_push_of_some _ e)))) (aDu hacc))
 simp only[List.mem_cons,List.not_mem_nil,or_false,not_or]
 exact⟨Nat.ne_of_lt (Heap.lt_size e),hI▸Nat.ne_of_lt (Nat.lt_succ_of_lt (Heap.lt_size e))⟩
end
section
variable{prog:Program}{w:World}{t:SetTable}{L:List En}{A:Around}{E:PV→Shared→Prop}{s:Shared}{h₀:Heap}
noncomputable def yB(prog:Program)(w:World)(h:Heap)(items:Array PV)(ks:List (List Int × Addr)):Prop:=items.toList=ks.map (fun e=>Value.ref e.2)∧∀e∈ks,e.1∈bX∧IsTupleKey (intKind prog w) h e.1 e.2
theorem SetAt.keep{h h':Heap}{S:Addr}(x:SetAt prog w h S L)(k:∀b o,h.get? b=some o→b=S∨(∃e∈L,e.2.2=b)→h'.get? b=some o):SetAt prog w h' S L:=by
 refine e34 x fun o ep t ho hex hd T=>?_
 refine⟨o,ep,t,k S o ho (.inl rfl),hex,hd,{ T.q with tup:=fun e he=>⟨(T.q.tup e he).1,?_⟩ },T.room⟩
 refine e32 ((T.q.tup e he).2) fun oo items n ho2 r=>?_
 exact⟨oo,items,n,k _ oo ho2 (.inr ⟨e,he,rfl⟩),r⟩
theorem aCp{S I l:Addr}{items:Array PV}{ks:List (List Int × Addr)}{R:Result→Shared→Prop}(hu:A.units+5<cLine)(hh:A.handled=none)(h1:S≠I)(h2:S≠l)(h3:l≠I)(hksI:∀e∈ks,e.2≠I) :
  ∀(f k:Nat) (L:List En) (s:Shared),ks.length - k=f→k≤ks.length→s.heap.IsListIter I l k→s.heap.IsList l items→yB prog w s.heap items ks→SetAt prog w s.heap S L→(∀e∈L,e.2∈ks)→(∀e∈ks.take k,∃e'∈L,e'.2.1=e.1) →
   (∀h' tk L',(∀b o,b≠S→b≠I→s.heap.get? b=some o→h'.get? b=some o)→SetAt prog w h' S L'→(∀e∈L',e.2∈ks)→(∀e∈ks,∃e'∈L',e'.2.1=e.1)→R (.ok (.ret .none)) { s with heap:=h',toks:=tk }) →
   codeAny (model prog w) A (.builtin "set.update.loop" ⟨[.ref S,.ref I],[]⟩) R s:=by
 intro f
 induction f with
 | zero =>
  intro k L s hf hk it il ra sa hL hT q
  have hke:k=ks.length:=Nat.le_antisymm hk (Nat.le_of_sub_eq_zero hf)
  subst hke
  refine codeAny_builtin F.entry_set_update_loop ?_
  refine rwS (Around.under_plainId F.plain_set_update_loop _) ?_
  show wpAny _ A.in1 (pyNext (.ref I) >>= _) _ _ s
  have hsz:items.size=ks.length:=by have:=congrArg List.length ra.1; simpa using this
  refine wpAny_bind (wpAny_pyNext_list_end hh it il (Array.getElem?_eq_none (Nat.le_of_eq hsz)) fun h' eb=>?_)
  show wpAny _ A.in1 (ret Value.none) _ _ _
  refine wpAny_pure (q h' s.toks L (fun b o _ n2 e=>eb b o n2 e) (sa.keep fun b o eo hb=>eb b o ?_ eo) hL (by rw[List.take_length]at hT; exact hT))
  rcases hb with rfl | ⟨e,he,rfl⟩
  ·exact h1
  ·exact hksI _ (hL e he)
 | succ f ih =>
  intro k L s hf hk it il ra sa hL hT q
  have hlt:k<ks.length:=Nat.lt_of_sub_eq_succ hf
  have hf1:ks.length - (k+1)=f:=by rw[Nat.sub_succ,hf]; rfl
  refine codeAny_builtin F.entry_set_update_loop ?_
  refine rwS (Around.under_plainId F.plain_set_update_loop _) ?_
  show wpAny _ A.in1 (pyNext (.ref I) >>= _) _ _ s
  have hv:items[k]?=some (.ref ks[k].2):=by
   refine rwT (Array.getElem?_toList) (rwS ra.1 (rwS (List.getElem?_map) (rwS (List.getElem?_eq_getElem hlt) ?_))); rfl
  refine wpAny_bind (wpAny_pyNext_list_item it il hv fun h1' it' sb=>?_)
  have hmem:ks[k]∈ks:=List.getElem_mem hlt
  have htu:IsTupleKey (intKind prog w) h1' ks[k].1 ks[k].2:=oM (ra.2 _ hmem).2 (fun b o n e=>sb.extBut b o n e) (hksI _ hmem)
  have sa1:SetAt prog w h1' S L:=sa.keep fun b o eo hb=>sb.extBut b o (by
   rcases hb with rfl | ⟨e,he,rfl⟩
   ·exact h1
   ·exact hksI _ (hL e he)) eo
  have il1:h1'.IsList l items:=il.extBut sb.extBut h3
  have ra1:yB prog w h1' items ks:=⟨ra.1,fun e he=>⟨(ra.2 e he).1,oM (ra.2 e he).2 (fun b o n e=>sb.extBut b o n e) (hksI e he)⟩⟩
  have take:∀L':List En,(∀e∈ks.take k,∃e'∈L',e'.2.1=e.1)→(∃e'∈L',e'.2.1=ks[k].1)→∀e∈ks.take (k+1),∃e'∈L',e'.2.1=e.1:=fun L' a b e he=>by
   rw[List.take_add_one,List.getElem?_eq_getElem hlt]at he
   rcases List.mem_append.mp he with he | he
   ·exact a e he
   ·simp at he; subst he; exact b
  show wpAny _ A.in1 (holding [Value.ref ks[k].2] (setAdd S (.ref ks[k].2)) >>= _) _ _ _
  refine wpAny_bind (wpAny_holding ?_)
  delta setAdd
  refine wpAny_holding ?_
  refine wpAny_bind (wpAny_pyHash_tuple (Nat.lt_of_le_of_lt (Nat.add_le_add_left (by decide:1≤5) _) hu) htu ?_)
  refine aRn (key:=ks[k].1) (Nat.lt_of_le_of_lt (Nat.add_le_add_left (by decide:1≤5) _) hu) (s:={ s with heap:=h1',toks:=s.toks+(ks[k].1.length+1) }) sa1 (ra.2 _ hmem).1 htu (fun hex=>?_) (fun hn h2' L' sb2 sa2 hp=>?_)
  ·exact wpAny_pure ⟨plainId_quiet F.plain_set_update_loop _,ih (k+1) L _ hf1 hlt it' il1 ra1 sa1 hL (take L hT hex) fun h' tk L' kp sa' a b=>q h' tk L' (fun b o n1 n2 e=>kp b o n1 n2 (sb.extBut b o n2 e)) sa' a b⟩
  ·have mem:∀e2:List Int × Addr,e2∈L'.map (·.2) ↔ e2=(ks[k].1,ks[k].2)∨e2∈L.map (·.2):=fun e2=>by rw[hp.mem_iff,List.mem_cons]
   have nS:∀e∈ks,e.2≠S:=fun e he ee=>by
    refine e34 sa1 fun o ep t ho hex _ _=>?_
    exact aGi (ra1.2 e he).2 ho hex ee
   refine wpAny_pure ⟨plainId_quiet F.plain_set_update_loop _,ih (k+1) L' _ hf1 hlt ?_ (il1.extBut sb2.extBut h2.symm) ⟨ra.1,fun e he=>⟨(ra1.2 e he).1,oM (ra1.2 e he).2 (fun b o n e=>sb2.extBut b o n e) (nS e he)⟩⟩ sa2 (fun e he=>?_) (take L' (fun e he=>?_) ?_) fun h' tk L2 kp sa' a b=>q h' tk L2 (fun b o n1 n2 e=>kp b o n1 n2 (sb2.extBut b o n1 (sb.extBut b o n2 e))) sa' a b⟩
   ·refine e12 it' fun o ho r=>?_
    exact⟨o,sb2.extBut _ _ h1.symm ho,r⟩
   ·rcases (mem e.2).mp (List.mem_map.mpr ⟨e,he,rfl⟩) with e2 | e2
    ·refine rwS e2 ?_; exact hmem
    ·refine e12 (List.mem_map.mp e2) fun e' he' ee=>?_
     refine rwT ee ?_; exact hL e' he'
   ·refine nnG fun nG=>?_; refine e12 (hT e he) fun e' he' ee=>?_
    refine e12 (List.mem_map.mp ((mem e'.2).mpr (.inr (List.mem_map.mpr ⟨e',he',rfl⟩)))) fun e3 he3 ee3=>?_
    refine nG ?_; exact⟨e3,he3,by refine rwS ee3 ?_; exact ee⟩
   ·refine e12 (List.mem_map.mp ((mem (ks[k].1,ks[k].2)).mpr (.inl rfl))) fun e3 he3 ee3=>?_
    exact⟨e3,he3,by exact rwS ee3 rfl⟩
end
section
variable{prog:Program}{w:World}{A:Around}{E:PV→Shared→Prop}{s:Shared}
theorem aCs(a:PV){Q₁:PV→Shared→Prop}
  (h:∀led:Bool,led=!(w.params.followText "set-order")→Q₁ (.ref s.heap.objs.size) { s with heap:=s.heap.push { cls:=.type "set",dict:=none,data:=.set #[] 0 (.fresh 0 0 led) } }) :
  codeAny (model prog w) A (.call (.builtin "set.__new__") ⟨[.type "set",a],[]⟩) (wants Q₁ E) s:=by
 refine codeAny_of_tree ?_
 show wpAny _ A.in1 (do checkBuiltinCall "set.__new__" ⟨[.type "set",a],[]⟩; again (.builtin "set.__new__" ⟨[.type "set",a],[]⟩)) _ _ s
 refine wpAny_bind (wpAny_of_eq (F.newCall_set_1 a) (wpAny_pure ⟨plainId_quiet F.plain_set_new _,codeAny_builtin F.entry_set_new ?_⟩))
 refine rwS (Around.under_plainId F.plain_set_new _) ?_
 delta Builtin.«set.__new__» Builtin.Frozenset.newClass
 have hsub:=sub_set_self
 obtain⟨hp,g,d,tk,os⟩:=s
 dsimp only
 wp_walk
 refine wpAny_askSetting (wpAny_pure ?_)
 dsimp only
 simp only[newObj]
 refine wpAny_bind (wpAny_alloc (wpAny_pure ?_))
 exact wpAny_pure (h _ rfl)
noncomputable def fsO(led:Bool):Obj:={ cls:=.type "set",dict:=none,data:=.set #[] 0 (.fresh 0 0 led) }
noncomputable def itO(l:Addr):Obj:={ cls:=.type "list_iterator",data:=.fields #[.ref l,.int 0 0] }
theorem aFk{S l:Addr}{items:Array PV}{led:Bool}{P:Shared→Prop}{Qf:Fin→Shared→Prop}(hS:s.heap.get? S=some (fsO led))(hl:s.heap.IsList l items)
  (qr:∀s',P s'→Qf (.done (.ret .none)) s') (lp:codeAny (model prog w) A (.builtin "set.update.loop" ⟨[.ref S,.ref s.heap.objs.size],[]⟩) (wants (fun r s₂=>r=.none∧P s₂) E) { s with heap:=s.heap.push (itO l) }) :
  wpAny (model prog w) A (Builtin.«set.__init__» ⟨[.ref S,.ref l],[]⟩) Qf E s:=by
 have hT:Shared.TypeIs s (.ref S) "set":=⟨_,hS,rfl⟩
 refine nnG fun nG=>?_; obtain⟨ol,hol,hcl,nl,hdl⟩:=hl
 refine nG ?_; have hT2:Shared.TypeIs s (.ref l) "list":=⟨ol,hol,hcl⟩
 have hl1:s.heap.IsList l items:=⟨_,hol,hcl,nl,hdl⟩
 have hsls:=F.sub_list_set
 have hslf:=F.sub_list_frozenset
 have hne:(Value.type "list" == Value.type "dict")=false:=by decide
 delta Builtin.«set.__init__» noKeywords Builtin.Frozenset.updateFrom
 generalize hPI:pyIter=PI
 wp_walk
 subst hPI
 refine wpAny_pyIter_list hl1 ?_
 refine wpAny_bind (wpAny_runValue ?_)
 refine codeAny_mono lp fun r s₂ hr=>?_
 cases r with
 | error e=>exact hr
 | ok fl =>
  cases fl with
  | ret r =>
   show wpAny _ _ _ _ _ _
   refine wpAny_pure ?_
   show wpAny _ _ (ret Value.none) _ _ _
   exact wpAny_pure (qr _ hr.2)
  | _=>exact hr.elim
theorem uP{l:Addr}{items:Array PV}{P:Heap→Prop}{Q:PV→Shared→Prop}(hl:s.heap.IsList l items)
  (lp:∀(led:Bool) (hp:Heap),led=(!(w.params.followText "set-order"))→hp.objs.size=s.heap.objs.size+1+1→hp.get? s.heap.objs.size=some (fsO led)→Itr "list_iterator" hp (s.heap.objs.size+1) l 0→(∀b o,s.heap.get? b=some o→hp.get? b=some o) →
   codeAny (model prog w) A.in1.in1 (.builtin "set.update.loop" ⟨[.ref s.heap.objs.size,.ref (s.heap.objs.size+1)],[]⟩) (wants (fun r s₂=>r=.none∧∃h' tk,s₂={ s with heap:=h',toks:=tk }∧P h'∧(∀b o,b<s.heap.objs.size→hp.get? b=some o→h'.get? b=some o)) E) { s with heap:=hp })
  (h:∀(h':Heap) (tk:Nat),P h'→(∀b o,b<s.heap.objs.size→s.heap.get? b=some o→h'.get? b=some o)→Q (.ref s.heap.objs.size) { s with heap:=h',toks:=tk }) :
  wpAny (model prog w) A (call (.type "set") [.ref l]) Q E s:=by
 refine mX F.called_set (F.typeCall_set_1 (.ref l)) (aCs (.ref l) (E:=E) (Q₁:=fun obj s₁=>∃led:Bool,led=(!(w.params.followText "set-order"))∧obj=.ref s.heap.objs.size∧s₁={ s with heap:=s.heap.push (fsO led) }) fun led hled=>⟨led,hled,rfl,rfl⟩) fun obj s₁ hr=>?_
 refine e13 hr fun led hled e_2 e_3=>?_; subst e_2; subst e_3
 have z1:(s.heap.push (fsO led)).objs.size=s.heap.objs.size+1:=Heap.size_push ..
 have hS:(s.heap.push (fsO led)).get? s.heap.objs.size=some (fsO led):=Heap.get?_push_size _ rfl
 have kp:∀b o,s.heap.get? b=some o→(s.heap.push (fsO led)).get? b=some o:=fun b o e=>Heap.get?_push_of_some _ e
 revert z1 hS kp
 generalize s.heap.push (fsO led)=h1
 intro z1 hS kp
 have lp':=lp led (h1.push (itO l)) hled (by rw[Heap.size_push,z1]) (Heap.get?_push_of_some _ hS) (by refine rwT z1 ?_; exact⟨_,Heap.get?_push_size _ rfl,rfl,rfl⟩) fun b o e=>Heap.get?_push_of_some _ (kp b o e)
 rw[← z1]at lp'
 refine⟨⟨_,hS,rfl⟩,codeAny_call_builtin F.called_set.init.plain F.entry_set_init (check_set_init_1 ⟨_,hS,rfl⟩ (aFk hS (hl.at fun o e=>kp _ o e) (fun s' k=>?_) lp'))⟩
 exact⟨rfl,e22 k fun h' tk e q=>e▸h h' tk q.1 fun b o l' eb=>q.2 b o l' (Heap.get?_push_of_some _ (kp b o eb))⟩
end
section
variable{prog:Program}{w:World}{A:Around}{E:PV→Shared→Prop}{s:Shared}
theorem rC{l:Addr}{items:Array PV}{ks:List (List Int × Addr)}{Q:PV→Shared→Prop}
  (hu:A.units+20<cLine) (hh:A.handled=none) (hl:s.heap.IsList l items) (ra:yB prog w s.heap items ks)
  (h:∀(h':Heap) (tk:Nat) L,SetAt prog w h' s.heap.objs.size L→(∀e∈L,e.2∈ks)→(∀e∈ks,∃e'∈L,e'.2.1=e.1) →
   (∀b o,b<s.heap.objs.size→s.heap.get? b=some o→h'.get? b=some o)→Q (.ref s.heap.objs.size) { s with heap:=h',toks:=tk }) :
  wpAny (model prog w) A (call (.type "set") [.ref l]) Q E s:=by
 have hlS:l<s.heap.objs.size:=hl.elim fun o q=>Heap.lt_size q.1
 have klt:∀e∈ks,e.2<s.heap.objs.size:=fun e he=>by
  refine nnG fun nG=>?_; obtain⟨m',o',it',n',ho',r'⟩:=ra.2 e he
  refine nG ?_; exact Heap.lt_size ho'
 refine uP (P:=fun h'=>∃L,SetAt prog w h' s.heap.objs.size L∧(∀e∈L,e.2∈ks)∧∀e∈ks,∃e'∈L,e'.2.1=e.1) hl (fun led hp hled hz hS it kp=>?_) fun h' tk ⟨L,sa,a,b⟩ k=>h h' tk L sa a b k
 refine aCp (S:=s.heap.objs.size) (l:=l) (items:=items) (ks:=ks) (by show A.units+1+1+5<cLine; (first | lia | omega)) (by exact hh) (Nat.ne_of_lt (Nat.lt_succ_self _)) (Nat.ne_of_gt hlS) (Nat.ne_of_lt (Nat.lt_succ_of_lt hlS)) (fun e he=>Nat.ne_of_lt (Nat.lt_succ_of_lt (klt e he)))
  ks.length 0 [] { s with heap:=hp } (by (first | lia | omega)) (Nat.zero_le _) it (hl.at fun o e=>kp _ o e) ⟨ra.1,fun e he=>(ra.2 e he).imp_right fun ⟨o',it',n',ho',r'⟩=>⟨o',it',n',kp _ _ ho',r'⟩⟩ ⟨_,0,.fresh 0 0 led,hS,⟨rfl,rfl,rfl⟩,rfl,⟨⟨List.mem_cons_self ..,rfl,rfl,rfl,hled,.nil,fun _ h=>(fK h),fun _ h=>(fK h),.nil,fun _ h=>(fK h)⟩,(by show 0*5<7*3; decide)⟩⟩ (fun _ h=>(fK h)) (fun _ h=>by simp at h) fun h' tk L kp' sa a b=>?_
 exact⟨rfl,h',tk,rfl,⟨L,sa,a,b⟩,fun b' o hb e=>kp' b' o (Nat.ne_of_lt hb) (Nat.ne_of_lt (Nat.lt_succ_of_lt hb)) e⟩
end
noncomputable abbrev Rw:=List Int × Addr
noncomputable abbrev rwV(e:Rw):V:=jY e.1
noncomputable abbrev rwP(e:Rw):PV:=.ref e.2
section
variable{B:Bd}{G:Ev}{N:Nx}{u:Nat}{c:Ck}{Q E:PV→Shared→Prop}
theorem aDg{α β:Type}{f:α→β}{acc:List β}:∀{l:List α},acc.Perm (l.map f)→∃es:List α,es.Perm l∧acc=es.map f:=by
 induction acc with
 | nil=>exact fun {l} h=>⟨[],by rw[List.map_eq_nil_iff.mp h.symm.eq_nil],rfl⟩
 | cons v acc ih =>
  intro l h
  refine e12 (List.mem_map.mp (h.mem_iff.mp (List.mem_cons_self ..))) fun e he e_2=>?_; subst e_2
  refine e21 (List.append_of_mem he) fun l1 l2 e_2=>?_; subst e_2
  refine e12 (ih (l:=l1++l2) (h.trans ((List.perm_middle (a:=e) (l₁:=l1) (l₂:=l2)).map f)).cons_inv) fun es e1 e2=>?_
  exact⟨e::es,(e1.cons e).trans List.perm_middle.symm,congrArg (f e::·) e2⟩
theorem aVd:∀{l:List V} {vs:List PV},l.all iH=true→Vals B N l vs→∃ks:List Rw,vs=ks.map rwP∧l=ks.map rwV∧∀e∈ks,Val B N (rwV e) (rwP e)∧RowAt B.D N N.s.heap (rwP e) e.1:=by
 intro l
 induction l with
 | nil=>exact fun _ r=>⟨[],r,rfl,fun _ h=>(fK h)⟩
 | cons d l ih =>
  intro vs ha r
  refine e23 r fun v t e_2 r1 r2=>?_; subst e_2
  have ha:=Bool.and_eq_true_iff.mp ha
  refine e13 (ih ha.2 r2) fun ks e_1 e_2 k=>?_; subst e_1; subst e_2
  refine e12 (iS ha.1) fun q hq e_2=>?_; subst e_2
  have w:=aHy ha.1 r1
  rw[gU]at w
  refine nnG fun nG=>?_; obtain⟨a,arr,n,rfl,w⟩:=w
  refine nG ?_; exact⟨(q,a)::ks,rfl,rfl,fun e he=>(List.mem_cons.mp he).elim (fun e1=>by refine rwS e1 ?_; exact⟨r1,a,arr,n,rfl,w⟩) (k e)⟩
theorem wP{ks es:List Rw}(k:∀e∈ks,Val B N (rwV e) (rwP e)∧RowAt B.D N N.s.heap (rwP e) e.1)(h:∀e∈es,e∈ks):Vals B N (es.map rwV) (es.map rwP):=by
 induction es with
 | nil=>exact rfl
 | cons e es ih=>exact⟨_,_,rfl,(k e (h e (List.mem_cons_self ..))).1,ih fun e he=>h e (List.mem_cons_of_mem _ he)⟩
theorem aDv{prog:Program}{w:World}{D:Wd}:∀{k:List Int} {vs:List PV},RVs D N (k.map .int) vs→ItemsAre (intKind prog w) k vs:=by
 intro k
 induction k with
 | nil=>intro vs r; obtain rfl:=(r:vs=[]); exact .nil
 | cons i k ih =>
  intro vs r
  obtain⟨_,t,rfl,⟨tk,rfl⟩,r⟩:=r
  exact .cons (by simp[intKind,Value.isInt]) (ih r)
theorem xZ{L:List En}{S:Addr}(hh:G.A.handled=none)(sm:Sm B.D N){s:Shared}(mo:More N s)(SA:SetAt B.D.prog B.D.w s.heap S L){ks:List Rw}{l:List V}(hl:l.all iH=true)(el:l=ks.map rwV)
  (k:∀e∈ks,Val B N (rwV e) (rwP e)∧RowAt B.D N N.s.heap (rwP e) e.1) (k1:∀e∈L,e.2∈ks) (k2:∀e∈ks,∃e'∈L,e'.2.1=e.1)
  (z:∀Y v,Aft B.D N noA Y→Y.σ=N.σ→Val B Y (.list (iY l)) v→Q v Y.s):wpAny (model B.D.prog B.D.w) G.A (call (.builtin "sorted") [.ref S]) Q E s:=by
 refine e34 SA fun o ep t ho hex hd T=>?_
 refine Calls.call_function_entry kind_sorted plain_sorted entry_sorted (args_sorted1 _) ?_
 delta Builtin.«sorted»
 refine wpAny_bind (m:=checkCount "sorted" 1 1 _) (wpAny_pure ?_)
 refine wpAny_bind (xD hh ho hex hd T fun h1 tk acc kp hp=>?_)
 refine e12 (aDg (f:=rwP) (l:=L.map (·.2)) (acc:=acc) (by refine rwS List.map_map ?_; exact hp)) fun es pe ea=>?_
 subst ea
 have hes:∀e∈es,∃e'∈L,e'.2=e:=fun e he=>List.mem_map.mp (pe.mem_iff.mp he)
 have hek:∀e∈es,e∈ks:=fun e he=>(hes e he).elim fun e' q=>q.2▸k1 e' q.1
 have nd:(es.map rwV).Nodup:=by
  have w:(es.map (·.1)).Nodup:=(pe.map (·.1)).nodup_iff.mpr (by refine rwS List.map_map ?_; exact T.q.nd)
  refine rwS (show es.map rwV=(es.map (·.1)).map jY by rw[List.map_map]; rfl) ?_
  exact List.pairwise_map.mpr (w.imp fun hne e=>hne (aEs e))
 have h30:es.length≤30:=by rw[pe.length_eq,List.length_map]; exact(Nat.le_trans T.q.len (by decide))
 have hlk:(es.map rwP).length=(es.map rwV).length:=by rw[List.length_map,List.length_map]
 have hln:(es.map rwV).length=es.length:=List.length_map ..
 have hz:(es.map rwP).length≤sizeLine:=by refine rwS hlk (rwS hln (rwS sizeLine_eq ?_)); exact Nat.le_trans h30 (by decide)
 have hok:(es.map rwV).all iH=true:=List.all_eq_true.mpr fun x hx=>(List.mem_map.mp hx).elim fun e q=>by
  refine rwT q.2 ?_; exact List.all_eq_true.mp hl _ (by refine rwS el ?_; exact List.mem_map.mpr ⟨e,hek e q.1,rfl⟩)
 have kall:∀b o,N.s.heap.get? b=some o→h1.get? b=some o:=fun b o e=>kp b o (mo.k b o e)
 refine wpAny_bind (wpAny_newList ?_ hz)
 have hoL:(h1.push (seqObj "list" (es.map rwP).toArray 0)).get? h1.objs.size=some (seqObj "list" (es.map rwP).toArray 0):=Heap.get?_push_size _ rfl
 refine wpAny_bind (wpAny_holding (wpAny_call_entry slot_list_sort ⟨_,hoL,rfl⟩ entry_list_sort (aDc (D:=B.D) (N:=N) (key:=fun i=>rI ((es.map rwV).getD i .none)) hoL (fun i v hv=>(aKf hok (wP k hek) i v hv).mono fun b o _ eo=>Heap.get?_push_of_some _ (kall b o eo))
  (fun i j hi hj h=>?_) (hlk.symm▸hln.symm▸Nat.lt_of_le_of_lt h30 (by decide)) fun p hp hs=>⟨_,rfl,?_⟩) (args_list_sort _)))
 ·rw[hlk]at hi hj
  refine e12 (iS (List.all_eq_true.mp hok _ (List.getElem_mem hi))) fun k1 m1 e1=>?_
  refine e12 (iS (List.all_eq_true.mp hok _ (List.getElem_mem hj))) fun k2 m2 e2=>?_
  replace h:rix (rI ((es.map rwV).getD i .none))=rix (rI ((es.map rwV).getD j .none)):=h
  rw[iA hi,iA hj,e1,e2,gU,gU]at h
  exact(List.getElem_inj nd).mp (e1.trans ((congrArg jY (aMj m1 h)).trans e2.symm))
 rw[hlk]at hp hs
 have eq:(p.toList.map fun i=>(es.map rwV).getD i V.none)=iY l:=List.Perm.eq_of_pairwise (le:=fun a b=>mM a<mM b) (fun a b ha hb h1 h2=>absurd (Nat.lt_trans h1 h2) (Nat.lt_irrefl _)) (aAf hp hs) (wQ l)
  ((List.perm_ext_iff_of_nodup (xC (aAf hp hs)) (xC (wQ l))).mpr fun x=>(aCg hp).mem_iff.trans (Iff.trans ⟨fun h=>?_,fun h=>?_⟩ (aCz hl x)))
 ·refine e1 (sortedHeap_at (out:=List.toArray (aKg (es.map rwP) p)) hoL) fun ep2 hD=>?_
  have m2:More N { s with heap:=sortedHeap (h1.push (seqObj "list" (es.map rwP).toArray 0)) h1.objs.size (es.map rwP) (List.toArray (aKg (es.map rwP) p)),toks:=tk }:=⟨fun b o e=>by
   rw[sortedHeap_old (Nat.ne_of_lt (Heap.lt_size (kall b o e))) (by rw[Heap.size_push]; exact Nat.lt_succ_of_lt (Heap.lt_size (kall b o e)))]
   exact Heap.get?_push_of_some _ (kall b o e),mo.g,mo.o⟩
  have nn:¬ N.has h1.objs.size:=fun h=>(Option.isSome_iff_exists.mp h).elim fun o e=>Nat.lt_irrefl _ (Heap.lt_size (kall _ o e))
  have pv:=m2.pv sm nn hD
  have r2:=Vals.on (m2.aft sm) (vS (wP k hek) p.toList fun i hi=>hp.mem hi)
  rw[eq]at r2
  exact wpAny_pure ⟨_,rfl,z ((N.at _).wi h1.objs.size) _ ((m2.aft sm).wi pv nn) rfl (sZ (d:=.list _) (.inr rfl) (lH Le.wi (fun _ e=>e) ⟨_,⟨ep2,hD⟩,r2⟩))⟩
 ·refine e12 (List.mem_map.mp h) fun e he e_2=>?_; subst e_2
  refine rwS el ?_; exact List.mem_map.mpr ⟨e,hek e he,rfl⟩
 ·rw[el]at h
  refine e12 (List.mem_map.mp h) fun e he e_2=>?_; subst e_2
  refine e12 (k2 e he) fun e' he' ee=>?_
  exact List.mem_map.mpr ⟨e'.2,pe.mem_iff.mpr (List.mem_map.mpr ⟨e',he',rfl⟩),by show jY e'.2.1=jY e.1; exact rwS ee rfl⟩
theorem xO{l:List V}{v:PV}(hu:G.A.units+20<cLine)(hh:G.A.handled=none)(sm:Sm B.D N)(hl:l.all iH=true)(rv:Val B N (.list l) v)
  (z:∀Y v,Aft B.D N noA Y→Y.σ=N.σ→Val B Y (.list (iY l)) v→Q v Y.s):Wp B G N (call (.type "set") [v]) (fun v s1=>wpAny (model B.D.prog B.D.w) G.A (call (.builtin "sorted") [v]) Q E s1) E:=by
 refine e24 rv fun a arr e_2 wa il rsl=>?_; subst e_2
 refine e13 (aVd hl rsl) fun ks e1 e2 k=>?_
 refine rC (ks:=ks) hu hh (IsLs.list il) ⟨e1,fun e he=>?_⟩ fun h1 tk L sa k1 k2 kp=>xZ hh sm ⟨fun b o e=>kp b o (Heap.lt_size e) e,rfl,rfl⟩ sa hl e2 k k1 k2 z
 refine nnG fun nG=>?_; refine e34 ((k e he).2) fun b brr n eb hb rb mb=>?_
 cases eb
 refine nG ?_; exact⟨mb,_,brr,n,hb,rfl,rfl,aDv rb⟩
theorem aWl(hu:40≤u):aZq B u .sortedSet "sorted" (.builtin "sorted"):=fun g c x f p1 p2 p3 p4 F B1 B2 hs h3 G N Q E K H q z=>by
 show Wp B G N (do callWith p4 (← eval (.Name "sorted" p1) G.env) [] (backTo p4 (starEach [.Call (.Name "set" p2) [f] [] p3] G.env)) []) Q E
 refine wpAny_bind (wpAny_Name (gP H F B1.k B1.g B1.b (gC (first:=[]) rfl rfl ?_)) B1.d)
 refine rwS (aX rfl) ?_
 refine Calls.spliced_cons (fF F B2 rfl (by refine rwS List.all_cons (rwS hs ?_); rfl) h3 H q fun ds Y vs k a r=>?_)
 refine nnG fun nG=>?_; refine e12 (aIl (show oK (one ds _) _ from k)) fun d e_1 e=>?_; subst e_1
 refine e12 (Vals.one r) fun v e_1 rv=>?_; subst e_1
 refine nG ?_; cases d with
 | list l =>
  refine e02 (bI (show oK (if l.all iH=true∧l.length≤aU then some (V.list (iY l)) else none) _ from e)) fun hc e=>?_
  have hu2:=H.rm.units
  exact wpAny_mono (xO (by (first | lia | omega)) H.rm.hand a.sm hc.1 rv fun Z w a2 e2 r2=>z _ Z w (by refine rwS e2 ?_; exact e) (a.trans a2) r2) (fun v s2 h2=>wpAny_pure h2) fun _ _ h=>h
 | _=>exact False.elim e
end
end Mine.Internal
namespace Mine.Internal
theorem aF{α:Type}{o:Option α}{k:α→Prop}(a:α)(h:o=some a)(hk:k a):oK o k:=by refine rwS h ?_; exact hk
theorem lG{b:Bool}{p q:Prop}(h:b=true)(hp:p):iK b p q:=by refine rwS h ?_; exact hp
theorem kJ{b:Bool}{p q:Prop}(h:b=false)(hp:q):iK b p q:=by refine rwS h ?_; exact hp
theorem cA{b:Bool}{p:Prop}(h:b=true)(hp:p):bK b p:=by refine rwS h ?_; exact hp
theorem fC{l:List V}(h:l.length≤aU):cR l=some l:=if_pos h
theorem lJ{L:List V}(σ:St)(h:L.length≤aU):biE σ .len [.list L]=some (.int L.length):=by
 show (cR L).map (fun l=>V.int l.length)=_
 refine rwS (fC h) ?_; rfl
theorem aPi{L:List V}(σ:St)(h:L.length≤aU):biE σ .len [.tup L]=some (.int L.length):=by
 show (cR L).map (fun l=>V.int l.length)=_
 refine rwS (fC h) ?_; rfl
theorem aOu{l:List V}{k:Nat}{v:V}(h:l[k]?=some v)(hl:l.length≤1000000)(σ:St):gJ σ (.list l) (.int k)=some v:=by
 have hk:=(List.getElem?_eq_some_iff.mp h).1
 have e:idx l.length k=some k:=by delta idx; refine rwS (if_pos (by lia)) (rwS (if_pos (by lia)) ?_); rfl
 show ((some l).bind fun l=>(idx l.length k).bind fun j=>l[j]?)=_
 rw[Option.bind_some,e,Option.bind_some,h]
theorem sX{a b:Int}(σ:St)(ha:a.natAbs≤1000000)(hb:b.natAbs≤1000000):uM σ .mul (.int a) (.int b)=some (.int (a*b)):=by
 show (if _ then _ else _)=_
 exact rwS (if_pos ⟨ha,hb⟩) rfl
theorem aOw{w:Int}(σ:St)(hw:0<w)(x:Int):∃v:Nat,(v:Int)<w∧(v:Int)=x % w∧uM σ .mod (.int x) (.int w)=some (.int (v:Int)) :=
 ⟨(x % w).toNat,by refine rwS (Int.toNat_of_nonneg (Int.emod_nonneg x (by lia))) ?_; exact Int.emod_lt_of_pos x hw,Int.toNat_of_nonneg (Int.emod_nonneg x (by lia)),by
  show (if 0<w then some (V.int (x % w)) else none)=_
  exact rwS (if_pos hw) (rwS (Int.toNat_of_nonneg (Int.emod_nonneg x (by lia))) rfl)⟩
namespace P2
noncomputable abbrev aSk:Nat:=fU [99,101,108,108,115]
noncomputable abbrev aYf:Nat:=fU [115,112,111,116]
noncomputable abbrev aYi:Nat:=fU [108,101,102,116]
noncomputable def aT(L:List V)(k:Nat)(l:Int):SObj:=.dict [(.str aSk,.list L),(.str aYf,.int k),(.str aYi,.int l)]
noncomputable def okL(L:List V):Prop:=L.length≤63∧∀x∈L,∃i,x=V.int i
theorem aN{n f:Nat}{d:FDef}{args:List V}{σ:St}{K:V→St→Prop}(hn:1≤n)(hf:prog.fn f=some d)(hl:args.length=d.params)(h:kSs prog ⟨aE prog (n - 1)⟩ d.body (bH d args) σ (cG K)):aE prog n f args σ K:=by
 obtain⟨n,rfl⟩:∃m,n=m+1:=⟨n - 1,(Nat.sub_add_cancel hn).symm⟩
 exact aF d hf (cA (decide_eq_true hl) h)
theorem up1{d n:Nat}(h:d+1≤n):1≤n:=Nat.le_trans (Nat.le_add_left 1 d) h
theorem dn1{d n:Nat}(h:d+1≤n):d≤n - 1:=Nat.le_sub_one_of_lt h
noncomputable def DrT(T:TabK)(L:List V):Prop:=∀(k:Nat) (l w:Int) (σ:St) (K:V→St→Prop),k≤1000→0<w→(∀v:Nat,(v:Int)<w→K (.int v) (aT L (k+1) l::σ))→T.call 75 [.loc 0,.int w] (aT L k l::σ) K
theorem aSh{T:TabK}{L:List V}{k:Nat}{l w:Int}{σ:St}{K:V→St→Prop}(hL:okL L)(hk:k≤1000)(hw:0<w)(h:∀v:Nat,(v:Int)<w→K (.int v) (aT L (k+1) l::σ)) :
  kSs prog T hH.body (bH hH [.loc 0,.int w]) (aT L k l::σ) (cG K):=by
 have l1:L.length≤1000000:=Nat.le_trans hL.1 (by decide)
 by_cases hlt:k<L.length
 ·refine e1 (hL.2 _ (List.getElem_mem hlt)) fun i hi=>?_
  refine e13 (aOw (aT L (k+1) l::σ) hw i) fun v h1 h2 h3=>?_
  conv=>whnf
  refine aF _ (lJ _ l1) ?_
  conv=>whnf
  refine lG (decide_eq_true (Int.ofNat_le.mpr hlt)) ?_
  conv=>whnf
  refine aF (.int i) (aOu (hi▸List.getElem?_eq_getElem hlt) l1 _) ?_
  conv=>whnf
  exact aF _ h3 (h v h1)
 ·conv=>whnf
  refine aF _ (lJ _ l1) ?_
  conv=>whnf
  refine kJ (decide_eq_false fun q=>hlt (Int.ofNat_le.mp q)) ?_
  conv=>whnf
  refine aF _ (sX _ (by decide) (by lia)) ?_
  conv=>whnf
  refine aF _ (sX _ (by lia) (by lia)) ?_
  conv=>whnf
  refine aF _ (sX _ (by decide) (by lia)) ?_
  conv=>whnf
  refine nnG fun nG=>?_; refine e13 (aOw (aT L (k+1) l::σ) hw ((7*(k:Int)*k+5*k+4) % 97)) fun v h1 h2 h3=>?_
  refine nG ?_; exact aF _ h3 (h v h1)
theorem nE{n:Nat}{L:List V}(hL:okL L)(hn:1≤n):DrT ⟨aE prog n⟩ L:=fun k l w σ K hk hw z=>aN (d:=hH) hn rfl rfl (aSh hL hk hw z)
end P2
theorem ap0{l:List V}{p:List V→Prop}(h:p (l++[])):p l:=(List.append_nil l)▸h
theorem le1{n m:Nat}(h:n+(m+1)≤aU):decide (n≤aU)=true:=decide_eq_true (Nat.le_trans (Nat.le_add_right ..) h)
theorem fY{α:Type}{l k:List α}{n:Nat}{x:α}(p:l <+: k)(h:l[n]?=some x):k[n]?=some x:=p.elim fun t e=>by
 refine rwT e (rwS (List.getElem?_append_left (List.getElem?_eq_some_iff.mp h).1) ?_); exact h
theorem oL{α:Type}{l:List α}{x:α}:(l++[x])[l.length]?=some x:=by rw[List.getElem?_append_right (Nat.le_refl _),Nat.sub_self]; rfl
section
variable{α:Type}{st:St→Bool}{bnd:V→Option aP}{ifs:aP→St→(Bool→St→Prop)→Prop}{body:List V→aP→St→(List V→St→Prop)→Prop}
theorem aPz(g:α→V)(f:α→List V)(I:St→Prop)(c:Nat)(hst:∀σ,I σ→st σ=true)(hc:∀a,(f a).length≤c)(l:List α) :
  ∀(ds:List V) (σ:St) (k:List V→St→Prop),(∀a∈l,∃ρ,bnd (g a)=some ρ∧∀σ ds (kk:List V→St→Prop),I σ→ds.length+c≤aU→(∀σ',I σ'→kk (ds++f a) σ')→ifs ρ σ fun t σ'=>iK t (body ds ρ σ' kk) (kk ds σ')) →
   I σ→ds.length+l.length*c≤aU→(∀σ',I σ'→k (ds++l.flatMap f) σ')→eJ st bnd ifs body (l.map g) ds σ k:=by
 induction l with
 | nil=>exact fun ds σ k H i _ z=>cA (hst _ i) (ap0 (p:=fun l=>k l σ) (z σ i))
 | cons a l ih =>
  intro ds σ k H i b z
  refine e12 (H a (List.mem_cons_self ..)) fun ρ e h=>?_
  have b2:ds.length+c+l.length*c≤aU:=by rw[List.length_cons,Nat.succ_mul,Nat.add_comm (l.length*c),← Nat.add_assoc]at b; exact b
  exact cA (hst _ i) (aF ρ e (h σ ds _ i (Nat.le_trans (Nat.le_add_right ..) b2) fun σ' i'=>ih (ds++f a) σ' k (fun w m=>H w (List.mem_cons_of_mem _ m)) i'
   (by refine rwS List.length_append ?_; exact Nat.le_trans (Nat.add_le_add_right (Nat.add_le_add_left (hc a) _) _) b2) fun σ'' i''=>List.append_assoc ds (f a) _▸z σ'' i''))
theorem iZ(g:α→V)(f:α→List V)(I:St→Prop)(c:Nat){l:List α}{ds:List V}{σ:St}{k:List V→St→Prop}(hb:ds.length+l.length*c≤aU)(i:I σ)(hst:∀σ,I σ→st σ=true)(hc:∀a,(f a).length≤c)
  (H:∀a∈l,∃ρ,bnd (g a)=some ρ∧∀σ ds (kk:List V→St→Prop),I σ→ds.length+c≤aU→(∀σ',I σ'→kk (ds++f a) σ')→ifs ρ σ fun t σ'=>iK t (body ds ρ σ' kk) (kk ds σ'))
  (z:∀σ',I σ'→k (ds++l.flatMap f) σ'):kLoopC st bnd ifs body (l.map g) ds σ k:=by
 delta kLoopC
 exact aPz g f I c hst hc l ds σ k H i hb z
theorem oF{β:Type}{p:α→Bool}{h:α→β}:∀l:List α,(l.flatMap fun a=>cond (p a) [h a] [])=(l.filter p).map h
 | []=>rfl
 | a::l=>by
  refine rwS List.flatMap_cons (rwS (oF l) ?_)
  cases e:p a with
  | true=>refine rwS (List.filter_cons_of_pos e) ?_; rfl
  | false=>refine rwS (List.filter_cons_of_neg (by rw[e]; exact Bool.false_ne_true)) ?_; rfl
theorem kY{h:α→V}:∀l:List α,(l.flatMap fun a=>[h a])=l.map h
 | []=>rfl
 | a::l=>congrArg (h a::·) (kY l)
theorem pC{p:Bool}{v:V}:(cond p [v] []).length≤1:=by cases p <;> first | exact Nat.le_refl 1 | exact Nat.zero_le 1
theorem aKd(g h:α→V)(p:α→Bool)(I:St→Prop){l:List α}{σ:St}{k:List V→St→Prop}(hb:l.length≤aU)(i:I σ)(hst:∀σ,I σ→st σ=true)
  (H:∀a∈l,∃ρ,bnd (g a)=some ρ∧∀σ ds (kk:List V→St→Prop),I σ→ds.length+1≤aU→(∀σ',I σ'→kk (ds++cond (p a) [h a] []) σ')→ifs ρ σ fun t σ'=>iK t (body ds ρ σ' kk) (kk ds σ'))
  (z:∀σ',I σ'→k ((l.filter p).map h) σ'):kLoopC st bnd ifs body (l.map g) [] σ k :=
 iZ g (fun a=>cond (p a) [h a] []) I 1 (by rw[Nat.mul_one]; exact(Nat.zero_add l.length).symm▸hb) i hst (fun _=>pC) H fun σ' i'=>(oF (p:=p) (h:=h) l)▸z σ' i'
theorem aBf(g h:α→V)(I:St→Prop){l:List α}{σ:St}{k:List V→St→Prop}(hb:l.length≤aU)(i:I σ)(hst:∀σ,I σ→st σ=true)
  (H:∀a∈l,∃ρ,bnd (g a)=some ρ∧∀σ ds (kk:List V→St→Prop),I σ→ds.length+1≤aU→(∀σ',I σ'→kk (ds++[h a]) σ')→ifs ρ σ fun t σ'=>iK t (body ds ρ σ' kk) (kk ds σ'))
  (z:∀σ',I σ'→k (l.map h) σ'):kLoopC st bnd ifs body (l.map g) [] σ k :=
 iZ g (fun a=>[h a]) I 1 (by rw[Nat.mul_one]; exact(Nat.zero_add l.length).symm▸hb) i hst (fun _=>Nat.le_refl 1) H fun σ' i'=>(kY (h:=h) l)▸z σ' i'
theorem eM(g h:α→V)(p:α→Bool){l:List α}{σ:St}{k:List V→St→Prop}(hb:l.length≤aU)(hst:st σ=true)
  (H:∀a∈l,∃ρ,bnd (g a)=some ρ∧∀ds (kk:List V→St→Prop),ds.length+1≤aU→kk (ds++cond (p a) [h a] []) σ→ifs ρ σ fun t σ'=>iK t (body ds ρ σ' kk) (kk ds σ')) (z:k ((l.filter p).map h) σ):kLoopC st bnd ifs body (l.map g) [] σ k :=
 aKd g h p (σ=·) hb rfl (fun _ e=>e▸hst) (fun a m=>(H a m).imp fun ρ w=>⟨w.1,fun σ' ds kk e b zz=>by subst e; exact w.2 ds kk b (zz _ rfl)⟩) fun σ' e=>e▸z
theorem cP(g h:α→V){l:List α}{σ:St}{k:List V→St→Prop}(hb:l.length≤aU)(hst:st σ=true)
  (H:∀a∈l,∃ρ,bnd (g a)=some ρ∧∀ds (kk:List V→St→Prop),ds.length+1≤aU→kk (ds++[h a]) σ→ifs ρ σ fun t σ'=>iK t (body ds ρ σ' kk) (kk ds σ')) (z:k (l.map h) σ):kLoopC st bnd ifs body (l.map g) [] σ k :=
 aBf g h (σ=·) hb rfl (fun _ e=>e▸hst) (fun a m=>(H a m).imp fun ρ w=>⟨w.1,fun σ' ds kk e b zz=>by subst e; exact w.2 ds kk b (zz _ rfl)⟩) fun σ' e=>e▸z
end
theorem iU{b:Bool}{ds:List V}{v:V}{σ:St}{kk:List V→St→Prop}{n:Nat}(q:ds.length+(n+1)≤aU)(z:kk (ds++cond b [v] []) σ):iK b (bK (decide (ds.length≤aU)) (kk (ds++[v]) σ)) (kk ds σ):=by
 cases b with
 | true=>exact cA (le1 q) z
 | false=>exact ap0 (p:=fun l=>kk l σ) z
theorem aGt{k:V}{l:List V}(hk:cF 24 k=true)(hl:∀y∈l,cF 24 y=true):zP k l=some (l.any fun y=>V.beq y k) :=
 if_pos (List.all_eq_true.mpr fun y hy=>by delta nU; refine rwS (hl y hy) (rwS hk ?_); rfl)
theorem yR{a b:V}(h1:cF 24 a=true)(h2:cF 24 b=true):nU a b=some (V.beq a b):=by delta nU; refine rwS h1 (rwS h2 ?_); rfl
noncomputable abbrev Env:=List (V × V)
theorem fH{x:V}{b:Nat}(h:V.beq x (.str b)=true):x=.str b:=by
 cases x with
 | str a=>exact congrArg V.str (of_decide_eq_true h)
 | _=>cases h
theorem aAe{a b:Nat}:V.beq (.str a) (.str b)=decide (a=b):=rfl
theorem bT{a b:Nat}{v:V}:∀{d:Env},aK (.str a) (aS (.str b) v d)=if a=b then some v else aK (.str a) d
 | []=>by
  show (if V.beq (.str b) (.str a)=true then some v else none)=_
  refine rwS aAe ?_
  by_cases h:a=b
  ·exact rwS (if_pos h) (rwS (if_pos (decide_eq_true h.symm)) rfl)
  ·refine rwS (if_neg h) (rwS (if_neg (by rw[decide_eq_false (Ne.symm h)]; exact Bool.false_ne_true)) ?_); rfl
 | (x,w)::r=>by
  unfold aS
  by_cases hb:V.beq x (.str b)=true
  ·refine rwS (if_pos hb) (rwS (fH hb) ?_)
   unfold aK
   refine rwS aAe ?_
   by_cases h:a=b
   ·exact rwS (if_pos h) (rwS (if_pos (decide_eq_true h.symm)) rfl)
   ·exact rwS (if_neg h) (rwS (if_neg (by rw[decide_eq_false (Ne.symm h)]; exact Bool.false_ne_true)) (rwS (if_neg (by rw[decide_eq_false (Ne.symm h)]; exact Bool.false_ne_true)) rfl))
  ·refine rwS (if_neg hb) ?_
   unfold aK
   by_cases ha:V.beq x (.str a)=true
   ·refine rwS (if_pos ha) (rwS (if_pos ha) ?_)
    exact rwS (if_neg fun h=>hb (by rw[(fH ha),h]; exact decide_eq_true rfl)) rfl
   ·refine rwS (if_neg ha) (rwS (if_neg ha) ?_); exact(bT (a:=a) (b:=b) (v:=v) (d:=r))
theorem oY{a b:List V}{σ:St}(h:(a++b).length≤aU):uM σ .add (.list a) (.list b)=some (.list (a++b)):=by
 show (cR (a++b)).map V.list=_
 refine rwS (fC h) ?_; rfl
mutual
theorem iC:∀v:V,V.beq v v=true
 | .none=>rfl
 | .bool b=>by show (b==b)=true; exact BEq.rfl
 | .int i=>decide_eq_true rfl
 | .str s=>decide_eq_true rfl
 | .tup l=>jL l
 | .list l=>jL l
 | .dict l=>vA l
 | .loc n=>decide_eq_true rfl
theorem jL:∀l:List V,jQ l l=true
 | []=>rfl
 | v::l=>by show (V.beq v v&&jQ l l)=true; refine rwS (iC v) (rwS (jL l) ?_); rfl
theorem vA:∀l:List (V × V),aGj l l=true
 | []=>rfl
 | (a,b)::l=>by show (V.beq a a&&(V.beq b b&&aGj l l))=true; refine rwS (iC a) (rwS (iC b) (rwS (vA l) ?_)); rfl
end
theorem aBv{n:Nat}{l:List V}{σ:St}(h:σ[n]?=some (.list l)):dZ (some n) l σ=true:=by
 show stO l σ[n]?=true
 refine rwS h ?_; exact jL l
theorem aNc{σ0 σ:St}{j:Nat}{o:SObj}(p:σ0 <+: σ)(h:σ0.length≤j):σ0 <+: σ.set j o:=by
 obtain⟨t,rfl⟩:=p
 refine rwS (List.set_append_right _ _ h) ?_
 exact List.prefix_append ..
theorem qQ{α β:Type}{f:α→List β}{c:Nat}:∀{l:List α},(∀a∈l,(f a).length≤c)→(l.flatMap f).length≤l.length*c
 | [],_=>Nat.zero_le _
 | a::l,h=>by rw[List.flatMap_cons,List.length_append,List.length_cons,Nat.succ_mul,Nat.add_comm]; exact Nat.add_le_add (qQ fun b m=>h b (List.mem_cons_of_mem _ m)) (h a (List.mem_cons_self ..))
section
variable{σ σ':St}{v:V}{l acc news:List V}{j:Nat}
theorem aWa(h:σ[j]?=some (.list acc))(hl:(acc++news).length≤aU):yK .ext (.loc j) (.list news) σ=some (σ.set j (.list (acc++news))):=by
 show rK σ (.list news) j .ext σ[j]?=_
 refine rwS h ?_
 show (cR (acc++news)).map (fun l=>σ.set j (.list l))=_
 refine rwS (fC hl) ?_; rfl
theorem aIk(h:σ[j]?=some (.list acc))(hl:(acc++[v]).length≤aU):yK .app (.loc j) v σ=some (σ.set j (.list (acc++[v]))):=by
 show rK σ v j .app σ[j]?=_
 refine rwS h ?_
 show (cR (acc++[v])).map (fun l=>σ.set j (.list l))=_
 refine rwS (fC hl) ?_; rfl
theorem aLz{o:SObj}(h:j<σ.length):(σ.set j o)[j]?=some o:=List.getElem?_set_self h
theorem aUn{o:SObj}(h:σ[j]?=some o):j<σ.length:=(List.getElem?_eq_some_iff.mp h).1
theorem aTc{a b:List V}(h:(a++b).length≤aU):uM σ .add (.tup a) (.tup b)=some (.tup (a++b)):=by
 show (cR (a++b)).map V.tup=_
 refine rwS (fC h) ?_; rfl
end
end Mine.Internal
namespace Mine.Internal
open PySem
namespace P2
noncomputable abbrev aW:Nat:=903890974183444709486
noncomputable abbrev dT:Nat:=510173609197685
noncomputable abbrev bN:Nat:=4502697214463632837895632474603635
noncomputable def aAk:List Nat:=[aW,dT,bN]
noncomputable def nmV(k:Nat):V:=.tup [.str 1023794727099668889702,.int 0,.str k]
noncomputable def bV(op:Nat)(a b:V):V:=.tup [.str 435406826897519,.int 0,.str op,a,b]
noncomputable def unV(op:Nat)(a:V):V:=.tup [.str 247464047,.int 0,.str op,a]
structure SOk(D:Env):Prop where
 nd:(D.map (·.1)).Nodup
 key:∀p∈D,∃s∈aM,p.1=.str s
 val:∀p∈D,∃q∈aAk,p.2=.str q
section
variable{D:Env}{σ ρ ρ':St}{sc v:V}{s n k q:Nat}{K:V→St→Prop}{T:TabK}{L l:List V}
theorem SOk.nil:SOk []:=⟨List.nodup_nil,(fun p m=>(fK m)),(fun p m=>(fK m))⟩
theorem SOk.kok(h:SOk D):kOk D=true:=List.all_eq_true.mpr fun p m=>(h.key p m).elim fun s w=>List.any_eq_true.mpr ⟨s,w.1,by refine rwS w.2 ?_; exact iC _⟩
theorem SOk.len(h:SOk D):D.length≤3:=by
 have w:=List.Nodup.length_le_of_subset (l₂:=aM.map V.str) h.nd fun a m=>by
  refine e12 (List.mem_map.mp m) fun p hp e_2=>?_; subst e_2
  refine e12 (h.key p hp) fun s hs e=>?_
  refine rwS e ?_; exact List.mem_map.mpr ⟨s,hs,rfl⟩
 rw[List.length_map]at w; exact w
theorem lB{b v:V}:∀{d:Env} {p:V × V},p∈aS b v d→(p.2=v∧(p.1=b∨p.1∈d.map (·.1)))∨p∈d
 | [],p,m=>.inl ((List.mem_cons.mp m).elim (fun e=>by refine rwS e ?_; exact⟨rfl,.inl rfl⟩) fun m=>(fK m))
 | (x,w)::r,p,m=>by
  have m:p∈(if V.beq x b=true then (x,v)::r else (x,w)::aS b v r):=m
  by_cases e:V.beq x b=true
  ·rw[if_pos e]at m
   rcases List.mem_cons.mp m with e | m
   ·refine rwS e ?_; exact .inl ⟨rfl,.inr (List.mem_cons_self ..)⟩
   ·exact .inr (List.mem_cons_of_mem _ m)
  ·rw[if_neg e]at m
   rcases List.mem_cons.mp m with e | m
   ·refine rwS e ?_; exact .inr (List.mem_cons_self ..)
   ·rcases lB m with ⟨h1,h2⟩ | h
    ·exact .inl ⟨h1,h2.imp id fun h=>List.mem_cons_of_mem _ h⟩
    ·exact .inr (List.mem_cons_of_mem _ h)
theorem sN{v:V}:∀{d:Env},(aS (.str k) v d).map (·.1)=d.map (·.1)∨((.str k:V) ∉ d.map (·.1)∧(aS (.str k) v d).map (·.1)=d.map (·.1)++[.str k])
 | []=>.inr ⟨List.not_mem_nil,rfl⟩
 | (x,w)::r=>by
  by_cases e:V.beq x (.str k)=true
  ·exact .inl (by show ((if V.beq x (.str k)=true then (x,v)::r else (x,w)::aS (.str k) v r):Env).map (·.1)=_; refine rwS (if_pos e) ?_; rfl)
  ·have e2:(aS (.str k) v ((x,w)::r))=(x,w)::aS (.str k) v r:=if_neg e
   refine rwS e2 ?_
   rcases sN (v:=v) (d:=r) with h | ⟨h1,h2⟩
   ·exact .inl (congrArg (x::·) h)
   ·exact .inr ⟨fun m=>(List.mem_cons.mp m).elim (fun h=>e (by refine rwS (show x=.str k from h.symm) ?_; exact iC _)) h1,congrArg (x::·) h2⟩
theorem SOk.set(h:SOk D)(hk:k∈aM)(hq:q∈aAk):SOk (aS (.str k) (.str q) D):=by
 have hkey:∀p∈aS (.str k) (.str q) D,∃s∈aM,p.1=.str s:=fun p m=>by
  rcases lB m with ⟨_,e | e⟩ | e
  ·exact⟨k,hk,e⟩
  ·refine e12 (List.mem_map.mp e) fun p' m' e'=>?_
   refine rwT e' ?_; exact h.key p' m'
  ·exact h.key p e
 refine⟨?_,hkey,fun p m=>?_⟩
 ·rcases sN (k:=k) (v:=.str q) (d:=D) with e | ⟨n,e⟩
  ·refine rwS e ?_; exact h.nd
  ·refine rwS e ?_
   refine List.nodup_append.mpr ⟨h.nd,List.nodup_cons.mpr ⟨List.not_mem_nil,List.nodup_nil⟩,fun a ma b mb e=>?_⟩
   rcases List.mem_cons.mp mb with e2 | m
   ·exact n (by refine rwT e2 (rwT e ?_); exact ma)
   ·cases m
 ·rcases lB m with ⟨e,_⟩ | e
  ·exact⟨q,hq,e⟩
  ·exact h.val p e
theorem kQ:∀{d:Env} {v:V},aK (.str k) d=some v→(.str k,v)∈d
 | [],v,h=>(nos h)
 | (x,w)::r,v,h=>by
  have h:(if V.beq x (.str k)=true then some w else aK (.str k) r)=some v:=h
  by_cases e:V.beq x (.str k)=true
  ·rw[if_pos e]at h
   refine rwS (fH e) (rwS (Option.some.inj h) ?_); exact List.mem_cons_self ..
  ·rw[if_neg e]at h; exact List.mem_cons_of_mem _ (kQ h)
theorem SOk.at(h:SOk D)(e:aK (.str k) D=some v):k∈aM∧∃q∈aAk,v=.str q:=by
 refine e12 (h.key _ (kQ e)) fun s hs es=>?_
 exact⟨by cases es; exact hs,h.val _ (kQ e)⟩
noncomputable def ofS(D:Env)(q:Nat):List Nat:=(aM.filter fun n=>(aK (.str n) D).isSome).filter fun n=>V.beq ((aK (.str n) D).getD .none) (.str q)
theorem pK(h:s∈ofS D q):aK (.str s) D=some (.str q):=by
 refine e1 (Option.isSome_iff_exists.mp ((List.mem_filter.mp (List.mem_filter.mp h).1).2)) fun v e=>?_
 have w3:=(List.mem_filter.mp h).2
 rw[e]at w3
 refine rwS e ?_; exact congrArg some (fH w3)
theorem lO:(ofS D q).length≤3:=Nat.le_trans (List.length_filter_le ..) (List.length_filter_le ..)
noncomputable def OsT(T:TabK):Prop:=∀(D:Env) (sc:V) (q:Nat) (σ:St) (K:V→St→Prop),SOk D→q∈aAk→aO σ sc=some D→K (.list ((ofS D q).map .str)) σ→T.call 76 [sc,.str q] σ K
theorem vU(hn:1≤n):OsT ⟨aE prog n⟩:=fun D sc q σ K h hq e hk=>aN (d:=jZ) hn rfl rfl (by
 generalize TabK.mk (aE prog (n - 1))=T
 conv=>whnf
 refine aF (.list (vB D)) (by
  show (aO σ sc).bind _=_
  refine rwS e ?_
  show (if (kOk D&&decide (D.length≤3))=true then some (V.list (vB D)) else none)=_
  refine rwS h.kok (rwS (decide_eq_true h.len) ?_); rfl) ?_
 conv=>whnf
 refine eM (α:=Nat) V.str V.str (fun n=>V.beq ((aK (.str n) D).getD .none) (.str q)) (l:=aM.filter fun n=>(aK (.str n) D).isSome) (Nat.le_trans (List.length_filter_le ..) (by decide)) rfl (fun a m=>⟨_,rfl,fun ds kk b z=>?_⟩) hk
 refine nnG fun nG=>?_; refine e1 (Option.isSome_iff_exists.mp (List.mem_filter.mp m).2) fun v ev=>?_
 obtain⟨_,q',hq',rfl⟩:=h.at ev
 refine nG ?_; rw[ev]at z
 conv=>whnf
 refine aF (.str q') (by show (aO σ sc).bind _=_; refine rwS e ?_; exact ev) ?_
 conv=>whnf
 show iK (V.beq (.str q') (.str q)) _ _
 replace z:kk (ds++cond (V.beq (.str q') (.str q)) [.str a] []) σ:=z
 generalize V.beq (.str q') (.str q)=b' at z ⊢
 cases b' with
 | true=>exact cA (le1 b) z
 | false=>exact ap0 (p:=fun l=>kk l σ) z)
end
theorem n2{v:Nat}(h:(v:Int)<2):v=0∨v=1:=(by decide:∀v<2,v=0∨v=1) v (Int.ofNat_lt.mp h)
theorem n3{v:Nat}(h:(v:Int)<3):v=0∨(v=1∨v=2):=(by decide:∀v<3,v=0∨(v=1∨v=2)) v (Int.ofNat_lt.mp h)
theorem n4{v:Nat}(h:(v:Int)<4):v=0∨(v=1∨(v=2∨v=3)):=(by decide:∀v<4,v=0∨(v=1∨(v=2∨v=3))) v (Int.ofNat_lt.mp h)
theorem n5{v:Nat}(h:(v:Int)<5):v=0∨(v=1∨(v=2∨(v=3∨v=4))):=(by decide:∀v<5,v=0∨(v=1∨(v=2∨(v=3∨v=4)))) v (Int.ofNat_lt.mp h)
theorem n7{v:Nat}(h:(v:Int)<7):v=0∨(v=1∨(v=2∨(v=3∨(v=4∨(v=5∨v=6))))):=(by decide:∀v<7,v=0∨(v=1∨(v=2∨(v=3∨(v=4∨(v=5∨v=6)))))) v (Int.ofNat_lt.mp h)
theorem n10{v:Nat}(h:(v:Int)<10):v=0∨(v=1∨(v=2∨(v=3∨(v=4∨(v=5∨(v=6∨(v=7∨(v=8∨v=9)))))))):=(by decide:∀v<10,v=0∨(v=1∨(v=2∨(v=3∨(v=4∨(v=5∨(v=6∨(v=7∨(v=8∨v=9))))))))) v (Int.ofNat_lt.mp h)
noncomputable def aNf(D:Env)(s:Nat):Prop:=s=67∨(aK (.str s) D=some (.str aW)∨aK (.str s) D=some (.str dT))
noncomputable def nN(D:Env)(nd:V):Prop:=nd=nmV 66∨∃s,aNf D s∧(nd=nmV s∨(nd=bV 47 (nmV s) (nmV 103)∨(nd=bV 46 (nmV 66) (nmV s)∨nd=bV 44 (nmV 66) (nmV s))))
noncomputable def rM(D:Env)(nd:V):Prop:=nd=nmV 66∨(nd=nmV 67∨(nd=bV 46 (nmV 66) (nmV 67)∨∃s,aK (.str s) D=some (.str aW)∧nd=nmV s))
noncomputable def ScV(ρ:St)(sc:V)(D:Env):Prop:=sc=.dict D∨∃i,sc=.loc (i+1)∧ρ[i]?=some (.dict D)
section
variable{D:Env}{o:SObj}{σ ρ ρ':St}{sc v:V}{s n k q:Nat}{K:V→St→Prop}{T:TabK}{L l:List V}
theorem ScV.at(h:ScV ρ sc D):aO (o::ρ) sc=some D:=by
 rcases h with rfl | ⟨i,rfl,e⟩
 ·rfl
 ·show tW ρ[i]?=_
  refine rwS e ?_; rfl
theorem ScV.pre(h:ScV ρ sc D)(p:ρ <+: ρ'):ScV ρ' sc D:=h.imp id fun ⟨i,e,h⟩=>⟨i,e,fY p h⟩
theorem uW{l:List V}{v:V}(hl:l.length≤1000)(σ:St):gJ σ (.list (l++[v])) (.int (-1))=some v:=by
 show ((idx (l++[v]).length (-1)).bind fun j=>(l++[v])[j]?)=_
 have e:idx (l++[v]).length (-1)=some l.length:=by
  refine rwS List.length_append ?_
  delta idx
  show (if _ then _ else _)=_
  simp only[List.length_singleton]
  refine rwS (if_neg (by decide)) ?_
  split <;> rename_i h
  ·exact congrArg some (by lia)
  ·exact absurd h (by lia)
 refine rwS e ?_; exact oL
theorem oJ{l:List V}(h:∀y∈l,cF 23 y=true):cF 24 (.list l)=true:=List.all_eq_true.mpr h
theorem aIu{a b:List V}(h1:∀y∈a,cF 23 y=true)(h2:∀y∈b,cF 23 y=true):wE σ .ne (.list a) (.list b)=some (!V.beq (.list a) (.list b)):=congrArg (Option.map (!·)) (yR (oJ h1) (oJ h2))
theorem aDb{a b:List V}(h1:∀y∈a,cF 23 y=true)(h2:∀y∈b,cF 23 y=true):wE σ .eq (.list a) (.list b)=some (V.beq (.list a) (.list b)):=yR (oJ h1) (oJ h2)
theorem oG:∀k:List Nat,∀y∈k.map V.str,cF 23 y=true:=fun k y m=>(List.mem_map.mp m).elim fun a q=>q.2▸rfl
theorem nI:∀y∈([]:List V),cF 23 y=true:=fun y m=>(fK m)
noncomputable def aSm(T:TabK)(L:List V):Prop:=∀(D:Env) (sc:V) (k:Nat) (l:Int) (ρ:St) (K:V→St→Prop),SOk D→ScV ρ sc D→k+2≤1000→(∀nd k',k≤k'∧k'≤k+2→nN D nd→K nd (aT L k' l::ρ))→T.call 77 [.loc 0,sc] (aT L k l::ρ) K
theorem xN(hL:okL L)(hn:2≤n):aSm ⟨aE prog n⟩ L:=fun D sc k l ρ K h hs hk z=>aN (d:=dY) (up1 hn) rfl rfl (by
 have h75:=nE hL (dn1 hn)
 have h76:=vU (dn1 hn)
 generalize TabK.mk (aE prog (n - 1))=T at h75 h76 ⊢
 have rest:∀(v s k':Nat) (m:List V),(v:Int)<7→aNf D s→(k≤k'∧k'≤k+2)→kSs prog T (dY.body.drop 2) [some (.loc 0),some sc,some (.int v),some (.list m),some (nmV s)] (aT L k' l::ρ) (cG K):=by
  intro v s k' m hv ls hk'
  rcases n7 hv with rfl | rfl | rfl | rfl | rfl | rfl | rfl
  ·exact z _ _ hk' (.inl rfl)
  ·exact z _ _ hk' (.inr ⟨67,.inl rfl,.inl rfl⟩)
  ·exact z _ _ hk' (.inr ⟨s,ls,.inl rfl⟩)
  ·exact z _ _ hk' (.inr ⟨s,ls,.inr (.inl rfl)⟩)
  ·exact z _ _ hk' (.inr ⟨s,ls,.inr (.inl rfl)⟩)
  ·exact z _ _ hk' (.inr ⟨s,ls,.inr (.inr (.inl rfl))⟩)
  ·exact z _ _ hk' (.inr ⟨s,ls,.inr (.inr (.inr rfl))⟩)
 refine rwS (show dY.body=dY.body.take 2++dY.body.drop 2 from rfl) ?_
 generalize dY.body.drop 2=X at rest ⊢
 conv=>whnf
 refine h75 _ _ _ _ _ (by lia) (by decide) fun v hv=>?_
 conv=>whnf
 refine h76 D sc aW _ _ h (by decide) hs.at ?_
 conv=>whnf
 refine h76 D sc dT _ _ h (by decide) hs.at ?_
 conv=>whnf
 have hm:∀x∈(ofS D aW).map V.str++(ofS D dT).map V.str,∃s,aNf D s∧x=.str s:=fun x m=>by
  rcases List.mem_append.mp m with m | m
  ·refine e12 (List.mem_map.mp m) fun s hs e_2=>?_; subst e_2
   exact⟨s,.inr (.inl (pK hs)),rfl⟩
  ·refine e12 (List.mem_map.mp m) fun s hs e_2=>?_; subst e_2
   exact⟨s,.inr (.inr (pK hs)),rfl⟩
 have hl:((ofS D aW).map V.str++(ofS D dT).map V.str).length≤6:=by
  rw[List.length_append,List.length_map,List.length_map]
  exact Nat.add_le_add lO lO
 refine aF _ (oY (Nat.le_trans hl (by decide))) ?_
 generalize (ofS D aW).map V.str++(ofS D dT).map V.str=m at hm hl ⊢
 cases m with
 | nil =>
  conv=>whnf
  exact rest v 67 (k+1) [] hv (.inl rfl) ⟨Nat.le_add_right ..,Nat.le_succ _⟩
 | cons x m =>
  conv=>whnf
  refine aF _ (aIu (fun y m=>(hm y m).elim fun s w=>w.2▸rfl) nI) ?_
  conv=>whnf
  refine aF _ (lJ _ (Nat.le_trans hl (by decide))) ?_
  conv=>whnf
  refine h75 _ _ _ _ _ (by lia) (Int.ofNat_lt.mpr (Nat.succ_pos _)) fun w hw=>?_
  have hw':w<(x::m).length:=Int.ofNat_lt.mp hw
  refine e12 (hm _ (List.getElem_mem hw')) fun s ls e=>?_
  conv=>whnf
  refine aF (.str s) (aOu (e▸List.getElem?_eq_getElem hw') (Nat.le_trans hl (by decide)) _) ?_
  conv=>whnf
  exact rest v s (k+1+1) (x::m) hv ls ⟨by lia,Nat.le_refl _⟩)
noncomputable def bAu(T:TabK)(L:List V):Prop:=∀(D:Env) (sc:V) (k:Nat) (l:Int) (ρ:St) (K:V→St→Prop),SOk D→ScV ρ sc D→k+1≤1000→(∀nd,rM D nd→K nd (aT L (k+1) l::ρ))→T.call 78 [.loc 0,sc] (aT L k l::ρ) K
theorem uA{α:Type}:∀{l:List α},l≠[]→∃a b,l=a++[b]:=fun {l} h=>⟨l.dropLast,l.getLast h,(List.dropLast_concat_getLast h).symm⟩
theorem aVf(hL:okL L)(hn:2≤n):bAu ⟨aE prog n⟩ L:=fun D sc k l ρ K h hs hk z=>aN (d:=kZ) (up1 hn) rfl rfl (by
 have h75:=nE hL (dn1 hn)
 have h76:=vU (dn1 hn)
 generalize TabK.mk (aE prog (n - 1))=T at h75 h76 ⊢
 conv=>whnf
 refine h75 _ _ _ _ _ (by lia) (by decide) fun v hv=>?_
 conv=>whnf
 refine h76 D sc aW _ _ h (by decide) hs.at ?_
 rcases n4 hv with rfl | rfl | rfl | rfl
 ·exact z _ (.inr (.inl rfl))
 ·exact z _ (.inl rfl)
 ·exact z _ (.inr (.inr (.inl rfl)))
 ·have hm:∀x∈ofS D aW,aK (.str x) D=some (.str aW):=fun x m=>pK m
  have hl:=lO (D:=D) (q:=aW)
  generalize ofS D aW=m at hm hl ⊢
  cases m with
  | nil=>exact z _ (.inl rfl)
  | cons x m =>
   conv=>whnf
   refine e21 (uA (l:=x::m) (fun h=>nomatch h)) fun a b e=>?_
   refine aF _ (aIu (oG (x::m)) nI) ?_
   conv=>whnf
   refine aF (.str b) (by
    show gJ _ (.list ((x::m).map V.str)) _=_
    refine rwS e (rwS List.map_append ?_)
    exact uW (by rw[List.length_map]; rw[e,List.length_append]at hl; lia) _) ?_
   exact z _ (.inr (.inr (.inr ⟨b,hm b (by refine rwS e ?_; exact List.mem_append.mpr (.inr (List.mem_cons_self ..))),rfl⟩))))
end
noncomputable def aIm(i:Nat):V:=.tup [.str 488183410196590,.int 0,.int i]
noncomputable def ifV(c a b:V):V:=.tup [.str 222298215,.int 0,c,a,b]
noncomputable def tN(k:Nat)(a b:V):V:=.tup [.str 479387283619957,.int 0,.str k,a,b]
noncomputable def qF(h:V)(l:List V):V:=.tup [.str 435406839480441,.int 0,h,.tup l]
noncomputable def gB(ap:Bool)(ns:List Nat)(mk:Nat)(s:V):V:=.tup [.int 0,.bool ap,.tup (ns.map .str),.str mk,s]
noncomputable def eT(ds:List V)(b:V):V:=.tup [.str 2205081783335414972318482549,.int 0,.str 510173642752110,.tup ds,b]
noncomputable abbrev aDp:Nat:=492581442027622
noncomputable def gE:List Nat:=[1042241519551906840692,2127710420199671437499302004,483785363685485]
noncomputable def kF:List Nat:=[1069911648856593924198,232783984,aDp]
noncomputable def rN:List Nat:=[61,127926334,62,71303230,63]
structure Alg(Nu:Nat→Env→V→Prop)(Tr:Env→V→Prop):Prop where
 num:∀{d D} {i:Nat},i<4→Nu d D (aIm i)
 card:∀{d D s},nN D s→Nu d D (unV 36 s)
 name:∀{d D s},aK (.str s) D=some (.str bN)→Nu d D (nmV s)
 neg:∀{d D a},Nu d D a→Nu (d+1) D (unV 46 a)
 cond:∀{d D c a b},Tr D c→Nu 0 D a→Nu d D b→Nu (d+1) D (ifV c a b)
 letS:∀{d D k s b},SOk D→(k=121∨k=111)→nN D s→Nu d (aS (.str k) (.str dT) D) b→Nu (d+1) D (tN k s b)
 letN:∀{d D k s b},SOk D→(k=121∨k=111)→Nu 0 D s→Nu d (aS (.str k) (.str bN) D) b→Nu (d+1) D (tN k s b)
 call0:∀{d D op a b},op∈gE→Nu d D a→Nu 0 D b→Nu (d+1) D (qF (nmV op) [a,b])
 call1:∀{d D op a b},op∈gE→Nu d D a→Nu 0 D b→Nu (d+1) D (qF (bV 47 a (nmV op)) [b])
 call2:∀{d D op a b},op∈gE→Nu d D a→Nu 0 D b→Nu (d+1) D (qF (qF (nmV op) [a]) [b])
 sum1:∀{d D k s b},SOk D→(k=121∨k=122)→rM D s→Nu d (aS (.str k) (.str aW) D) b→Nu (d+1) D (eT [gB false [k] 0 s] b)
 sum2:∀{d D ap s b},SOk D→rM D s→Nu d (aS (.str 122) (.str aW) (aS (.str 121) (.str aW) D)) b→Nu (d+1) D (eT [gB ap [121,122] 0 s] b)
 sum3:∀{d D k k' s s' b},SOk D→(k=121∨k=122)→(k'=111∨k'=121)→rM D s→rM (aS (.str k) (.str aW) D) s'→Nu d (aS (.str k') (.str aW) (aS (.str k) (.str aW) D)) b→Nu (d+1) D (eT [gB false [k] 0 s,gB false [k'] aDp s'] b)
 un:∀{D w s},w∈kF→nN D s→Tr D (unV w s)
 set2:∀{D op s s'},(op=222298223∨op=62)→nN D s→nN D s'→Tr D (bV op s s')
 cmp:∀{D op a b},op∈rN→Nu 0 D a→Nu 0 D b→Tr D (bV op a b)
theorem rgT{k a k1 b k2:Nat}(h1:k≤k1∧k1≤k+a)(h2:k1≤k2∧k2≤k1+b):k≤k2∧k2≤k+(a+b):=⟨Nat.le_trans h1.1 h2.1,Nat.add_assoc ..▸Nat.le_trans h2.2 (Nat.add_le_add_right h1.2 b)⟩
theorem rgL{k a k1 b:Nat}(h:k≤k1∧k1≤k+a)(e:a≤b):k≤k1∧k1≤k+b:=⟨h.1,Nat.le_trans h.2 (Nat.add_le_add_left e k)⟩
theorem rgB{k a k1 b c:Nat}(h:k≤k1∧k1≤k+a)(hk:k+c≤1000)(e:a+b≤c):k1+b≤1000:=Nat.le_trans (Nat.add_le_add_right h.2 b) (Nat.le_trans (by rw[Nat.add_assoc]; exact Nat.add_le_add_left e k) hk)
theorem rgD{k a k1 c:Nat}(h:k≤k1∧k1≤k+a)(hk:k+c≤1000)(e:a≤c):k1≤1000:=rgB (b:=0) h hk e
theorem rgN{k:Nat}(a:Nat):k≤k+a∧k+a≤k+a:=⟨Nat.le_add_right ..,Nat.le_refl _⟩
theorem nd1{a b d:Nat}(h:a+b≤15):a+(b+12*d)≤3+12*(d+1):=by lia
theorem nd0{a d:Nat}(h:a≤15):a≤3+12*(d+1):=by lia
theorem nx1{a b c x d:Nat}(h:a+b+x≤c):a+(b+12*d)+x≤c+12*d:=by lia
theorem nx0{a c d:Nat}(h:a≤c):a≤c+12*d:=Nat.le_trans h (Nat.le_add_right ..)
noncomputable def NumT(T:TabK)(L:List V)(Nu:Nat→Env→V→Prop)(d:Nat):Prop:=∀(D:Env) (sc:V) (k:Nat) (l:Int) (ρ:St) (K:V→St→Prop),SOk D→ScV ρ sc D→k+(3+12*d)≤1000→(∀nd k' l' ρ',k≤k'∧k'≤k+(3+12*d)→ρ <+: ρ'→Nu d D nd→K nd (aT L k' l'::ρ'))→T.call 82 [.loc 0,sc,.int d] (aT L k l::ρ) K
noncomputable def TrT(T:TabK)(L:List V)(Tr:Env→V→Prop):Prop:=∀(D:Env) (sc:V) (k:Nat) (l:Int) (ρ:St) (K:V→St→Prop),SOk D→ScV ρ sc D→k+8≤1000→(∀nd k' l' ρ',k≤k'∧k'≤k+8→ρ <+: ρ'→Tr D nd→K nd (aT L k' l'::ρ'))→T.call 79 [.loc 0,sc] (aT L k l::ρ) K
section
variable{D:Env}{o:SObj}{σ ρ ρ':St}{sc v:V}{s n k q d:Nat}{K:V→St→Prop}{T:TabK}{L l:List V}{Nu:Nat→Env→V→Prop}{Tr:Env→V→Prop}
theorem aAl(hL:okL L)(A:Alg Nu Tr)(hn:3≤n):NumT ⟨aE prog n⟩ L Nu 0:=fun D sc k l ρ K h hs hk z=>aN (d:=bJ) (up1 hn) rfl rfl (by
 have h75:=nE hL (up1 (dn1 hn))
 have h76:=vU (up1 (dn1 hn))
 have h77:=xN hL (dn1 hn)
 generalize TabK.mk (aE prog (n - 1))=T at h75 h76 h77 ⊢
 have card:∀(k':Nat) (K':V→St→Prop),k'=k+1→(∀nd k'' l' ρ',k≤k''∧k''≤k+(3+12*0)→ρ <+: ρ'→Nu 0 D nd→K' nd (aT L k'' l'::ρ'))→T.call 77 [.loc 0,sc] (aT L k' (l - 1)::ρ) (fun v σ=>K' (unV 36 v) σ):=fun k' K' e z=>by
  subst e
  exact h77 D sc _ _ ρ _ h hs (rgB (rgN 1) hk (by decide)) fun nd k'' hk' hN=>z _ _ _ _ (rgL (rgT (rgN 1) hk') (by decide)) (List.prefix_refl _) (A.card hN)
 conv=>whnf
 refine h75 k (l - 1) 3 ρ _ (rgD (rgN 0) hk (by decide)) (by decide) fun v hv=>?_
 rcases n3 hv with rfl | rfl | rfl
 ·conv=>whnf
  refine h75 (k+1) (l - 1) 4 ρ _ (rgD (rgN 1) hk (by decide)) (by decide) fun v hv=>?_
  exact z _ _ _ _ (rgL (rgN 2) (by decide)) (List.prefix_refl _) (A.num (Int.ofNat_lt.mp hv))
 ·conv=>whnf
  exact card _ K rfl z
 ·conv=>whnf
  refine h76 D sc bN _ _ h (by decide) hs.at ?_
  have hm:∀x∈ofS D bN,aK (.str x) D=some (.str bN):=fun x m=>pK m
  have hl:=lO (D:=D) (q:=bN)
  cases e:ofS D bN with
  | nil =>
   conv=>whnf
   exact card _ K rfl z
  | cons x m =>
   rw[e]at hm hl
   conv=>whnf
   refine aF _ (aDb (oG (x::m)) nI) ?_
   conv=>whnf
   refine h76 D sc bN _ _ h (by decide) hs.at ?_
   refine rwS e ?_
   refine e21 (uA (l:=x::m) (fun h=>nomatch h)) fun a b e=>?_
   conv=>whnf
   refine aF (.str b) (by
    show gJ _ (.list ((x::m).map V.str)) _=_
    refine rwS e (rwS List.map_append ?_)
    exact uW (by rw[List.length_map]; rw[e,List.length_append]at hl; lia) _) ?_
   exact z _ _ _ _ (rgL (rgN 1) (by decide)) (List.prefix_refl _) (A.name (hm b (by refine rwS e ?_; exact List.mem_append.mpr (.inr (List.mem_cons_self ..)))))
)
theorem NumT.sub(h:NumT T L Nu d){k:Nat}{l:Int}{K:V→St→Prop}(hD:SOk D)(hs:ScV ρ sc D)(hk:k+(3+12*d)≤1000)(z:∀nd k' l' ρ',k≤k'∧k'≤k+(3+12*d)→ρ <+: ρ'→Nu d D nd→K nd (aT L k' l'::ρ')):T.call 82 [.loc 0,sc,.int (((d+1:Nat):Int) - 1)] (aT L k l::ρ) K:=by
 refine rwS (show (((d+1:Nat):Int) - 1)=(d:Int) by lia) ?_
 exact h D sc k l ρ K hD hs hk z
theorem bAa(A:Alg Nu Tr)(h75:DrT T L)(h77:aSm T L)(h82:NumT T L Nu 0){k:Nat}{l:Int}(h:SOk D)(hs:ScV ρ sc D)(hk:k+8≤1000)(z:∀nd k' l' ρ',k≤k'∧k'≤k+8→ρ <+: ρ'→Tr D nd→K nd (aT L k' l'::ρ')):kSs prog T fZ.body (bH fZ [.loc 0,sc]) (aT L k l::ρ) (cG K):=by
 conv=>whnf
 refine h75 k l 3 ρ _ (rgD (rgN 0) hk (by decide)) (by decide) fun v hv=>?_
 rcases n3 hv with rfl | rfl | rfl
 ·conv=>whnf
  refine h75 (k+1) l 3 ρ _ (rgD (rgN 1) hk (by decide)) (by decide) fun v hv=>?_
  have un:∀w∈kF,T.call 77 [.loc 0,sc] (aT L (k+1+1) l::ρ) (fun v σ=>K (unV w v) σ):=fun w hw=>h77 D sc _ _ ρ _ h hs (rgB (rgN 2) hk (by decide)) fun nd k'' hk' hN=>z _ _ _ _ (rgL (rgT (rgN 2) hk') (by decide)) (List.prefix_refl ρ) (A.un hw hN)
  rcases n3 hv with rfl | rfl | rfl
  ·exact un _ (by decide)
  ·exact un _ (by decide)
  ·exact un _ (by decide)
 ·conv=>whnf
  refine h75 (k+1) l 2 ρ _ (rgD (rgN 1) hk (by decide)) (by decide) fun v hv=>?_
  have s2:∀op,(op=222298223∨op=62)→T.call 77 [.loc 0,sc] (aT L (k+1+1) l::ρ) (fun a σ=>T.call 77 [.loc 0,sc] σ fun b σ=>K (bV op a b) σ):=fun op ho=>h77 D sc _ _ ρ _ h hs (rgB (rgN 2) hk (by decide)) fun nd k1 hk1 hN=>h77 D sc _ _ ρ _ h hs (rgB (rgT (rgN 2) hk1) hk (by decide)) fun nd' k2 hk2 hN'=>z _ _ _ _ (rgL (rgT (rgT (rgN 2) hk1) hk2) (by decide)) (List.prefix_refl ρ) (A.set2 ho hN hN')
  rcases n2 hv with rfl | rfl
  ·exact s2 _ (.inl rfl)
  ·exact s2 _ (.inr rfl)
 ·conv=>whnf
  refine h75 (k+1) l 5 ρ _ (rgD (rgN 1) hk (by decide)) (by decide) fun v hv=>?_
  have cm:∀op∈rN,T.call 82 [.loc 0,sc,.int 0] (aT L (k+1+1) l::ρ) (fun a σ=>T.call 82 [.loc 0,sc,.int 0] σ fun b σ=>K (bV op a b) σ):=fun op ho=>h82 D sc _ _ ρ _ h hs (rgB (rgN 2) hk (by decide)) fun nd k1 l1 ρ1 hk1 p1 hN=>h82 D sc _ _ ρ1 _ h (hs.pre p1) (rgB (rgT (rgN 2) hk1) hk (by decide)) fun nd' k2 l2 ρ2 hk2 p2 hN'=>z _ _ _ _ (rgL (rgT (rgT (rgN 2) hk1) hk2) (by decide)) (p1.trans p2) (A.cmp ho hN hN')
  rcases n5 hv with rfl | rfl | rfl | rfl | rfl
  ·exact cm _ (by decide)
  ·exact cm _ (by decide)
  ·exact cm _ (by decide)
  ·exact cm _ (by decide)
  ·exact cm _ (by decide)
theorem aYa(hL:okL L)(A:Alg Nu Tr)(hn:4≤n):TrT ⟨aE prog n⟩ L Tr:=fun D sc k l ρ K h hs hk z=>aN (d:=fZ) (up1 hn) rfl rfl (bAa A (nE hL (up1 (dn1 hn))) (xN hL (Nat.le_trans (by decide) (dn1 hn))) (aAl hL A (dn1 hn)) h hs hk z)
end
noncomputable def CaT(T:TabK)(L:List V)(Nu:Nat→Env→V→Prop)(d f c:Nat):Prop:=∀(D:Env) (sc:V) (k:Nat) (l:Int) (ρ:St) (K:V→St→Prop),SOk D→ScV ρ sc D→k+(c+12*d)≤1000→(∀nd k' l' ρ',k≤k'∧k'≤k+(c+12*d)→ρ <+: ρ'→Nu (d+1) D nd→K nd (aT L k' l'::ρ'))→T.call f [.loc 0,sc,.int ((d+1:Nat):Int)] (aT L k l::ρ) K
section
variable{D:Env}{o:SObj}{σ ρ ρ':St}{sc v:V}{s n k q d:Nat}{K:V→St→Prop}{T:TabK}{L l:List V}{Nu:Nat→Env→V→Prop}{Tr:Env→V→Prop}
theorem aPs(a b:Nat){v:Nat}(h:(v:Int)<2):∃k,(k=a∨k=b)∧∀σ,gJ σ (.list [.str a,.str b]) (.int v)=some (.str k):=by
 rcases n2 h with rfl | rfl
 ·exact⟨a,.inl rfl,fun _=>rfl⟩
 ·exact⟨b,.inr rfl,fun _=>rfl⟩
theorem aXv{v:Nat}(h:(v:Int)<3):∃op∈gE,∀σ,gJ σ (.list (gE.map .str)) (.int v)=some (.str op):=by
 rcases n3 h with rfl | rfl | rfl
 ·exact⟨_,List.mem_cons_self ..,fun _=>rfl⟩
 ·exact⟨_,List.mem_cons_of_mem _ (List.mem_cons_self ..),fun _=>rfl⟩
 ·exact⟨_,List.mem_cons_of_mem _ (List.mem_cons_of_mem _ (List.mem_cons_self ..)),fun _=>rfl⟩
theorem aZu(hL:okL L)(A:Alg Nu Tr)(hn:4≤n)(hd:NumT ⟨aE prog (n - 1)⟩ L Nu d):CaT ⟨aE prog n⟩ L Nu d 80 8:=fun D sc k l ρ K h hs hk z=>aN (d:=cZ) (up1 hn) rfl rfl (by
 have h75:=nE hL (up1 (dn1 hn))
 have h82:=aAl hL A (dn1 hn)
 generalize TabK.mk (aE prog (n - 1))=T at hd h75 h82 ⊢
 have go:∀K2:V→V→St→Prop,(∀a b k' l' ρ',k≤k'∧k'≤k+(8+12*d)→ρ <+: ρ'→Nu d D a→Nu 0 D b→K2 a b (aT L k' l'::ρ')) →
   T.call 82 [.loc 0,sc,.int (((d+1:Nat):Int) - 1)] (aT L (k+1+1) l::ρ) (fun a σ=>T.call 82 [.loc 0,sc,.int 0] σ fun b σ=>K2 a b σ):=fun K2 z2 =>
  hd.sub h hs (rgB (rgN 2) hk (nx1 (x:=0) (by decide))) fun a k1 l1 ρ1 hk1 p1 ha=>h82 D sc _ _ ρ1 _ h (hs.pre p1) (rgB (rgT (rgN 2) hk1) hk (nx1 (x:=3) (by decide))) fun b k2 l2 ρ2 hk2 p2 hb=>z2 a b _ _ _ (rgL (rgT (rgT (rgN 2) hk1) hk2) (nx1 (x:=3) (by decide))) (p1.trans p2) ha hb
 have fin:∀op∈gE,∀f:Nat,(f:Int)<3→∀(a b:V) k' l' ρ',k≤k'∧k'≤k+(8+12*d)→ρ <+: ρ'→Nu d D a→Nu 0 D b→kSs prog T (cZ.body.drop 2) [some (.loc 0),some sc,some (.int ((d+1:Nat):Int)),some (nmV op),some (.int f),some a,some b] (aT L k' l'::ρ') (cG K):=by
  intro op ho f hf a b k' l' ρ' hk' p ha hb
  rcases n3 hf with rfl | rfl | rfl
  ·exact z _ _ _ _ hk' p (A.call0 ho ha hb)
  ·exact z _ _ _ _ hk' p (A.call1 ho ha hb)
  ·exact z _ _ _ _ hk' p (A.call2 ho ha hb)
 refine rwS (show cZ.body=cZ.body.take 2++cZ.body.drop 2 from rfl) ?_
 generalize cZ.body.drop 2=X at fin ⊢
 conv=>whnf
 refine h75 k l 3 ρ _ (rgD (rgN 0) hk (Nat.zero_le _)) (by decide) fun v hv=>?_
 refine e12 (aXv hv) fun op ho e1=>?_
 conv=>whnf
 refine aF _ (e1 _) ?_
 conv=>whnf
 refine h75 (k+1) l 3 ρ _ (rgD (rgN 1) hk (nx0 (by decide))) (by decide) fun v hv=>?_
 conv=>whnf
 refine go _ fun a b k' l' ρ' hk' p ha hb=>?_
 exact fin op ho v hv a b k' l' ρ' hk' p ha hb)
theorem aRg{σ0:SObj}:(o::(ρ++[σ0]))[ρ.length+1]?=some σ0:=by
 show (ρ++[σ0])[ρ.length]?=_
 exact oL
theorem aBt{b:Nat}{v:V}(hl:D.length≤aU):lZ (.loc (ρ.length+1)) (.str b) v (o::(ρ++[SObj.dict D]))=some (o::(ρ++[.dict (aS (.str b) v D)])):=by
 show lV (.str b) v (ρ.length+1) (o::(ρ++[SObj.dict D])) (o::(ρ++[SObj.dict D]))[ρ.length+1]?=_
 refine rwS aRg ?_
 show (if (lA (.str b)&&decide (D.length≤aU))=true then some ((o::(ρ++[.dict D])).set (ρ.length+1) (.dict (aS (.str b) v D))) else _)=_
 refine rwS (decide_eq_true hl) ?_
 show some (o::(ρ++[SObj.dict D]).set ρ.length (.dict (aS (.str b) v D)))=_
 rw[List.set_append_right _ _ (Nat.le_refl _),Nat.sub_self]; rfl
theorem ScV.new:ScV (ρ++[SObj.dict D]) (.loc (ρ.length+1)) D:=.inr ⟨_,rfl,oL⟩
theorem xV(hs:ScV ρ sc D)(hl:D.length≤aU):biE (o::ρ) .dict [sc]=some (.dict D):=by
 have e:=hs.at (o:=o)
 rcases hs with rfl | ⟨i,rfl,_⟩
 ·show (if _ then _ else _)=_
  exact rwS (if_pos hl) rfl
 ·show (aO (o::ρ) (.loc (i+1))).bind _=_
  refine rwS e ?_
  show (if _ then _ else _)=_
  exact rwS (if_pos hl) rfl
theorem SOk.cap(h:SOk D):D.length≤aU:=Nat.le_trans h.len (by decide)
theorem SOk.kb(h:SOk D):decide (D.length≤1000)=true:=decide_eq_true (Nat.le_trans h.len (by decide))
noncomputable def bAt(F:aP→St→Prop)(Nu:Nat→Env→V→Prop)(L:List V)(D:Env)(sc:V)(k d:Nat)(ρ:St):Prop:=∀(ds:List V) (D':Env) (sc':V) (ρ1:St) (k1:Nat) (l1:Int) (x5 x6:Option V),SOk D'→ScV ρ1 sc' D'→ρ <+: ρ1→k≤k1∧k1≤k+7→(∀b,Nu d D' b→Nu (d+1) D (eT ds b)) →
 F [some (.loc 0),some sc,some (.int ((d+1:Nat):Int)),some (.tup ds),some sc',x5,x6] (aT L k1 l1::ρ1)
theorem bAl{k:Nat}(h:k=121∨k=122):k∈aM:=by rcases h with rfl | rfl <;> decide
theorem aZz{k:Nat}(h:k=111∨k=121):k∈aM:=by rcases h with rfl | rfl <;> decide
theorem aYj(hL:okL L)(A:Alg Nu Tr)(hn:4≤n)(hd:NumT ⟨aE prog (n - 1)⟩ L Nu d):CaT ⟨aE prog n⟩ L Nu d 81 10:=fun D sc k l ρ K h hs hk z=>aN (d:=dU) (up1 hn) rfl rfl (by
 have h75:=nE hL (up1 (dn1 hn))
 have h76:=vU (up1 (dn1 hn))
 have h78:=aVf hL (Nat.le_trans (by decide) (dn1 hn))
 generalize TabK.mk (aE prog (n - 1))=T at hd h75 h76 h78 ⊢
 have hp:∀X,ρ <+: ρ++[X]:=fun X=>List.prefix_append ..
 have fin:bAt (fun ρ σ=>kSs prog T (dU.body.drop 1) ρ σ (cG K)) Nu L D sc k d ρ:=fun ds D' sc' ρ1 k1 l1 x5 x6 h' hs' p1 hk1 hA=>by
  exact hd.sub h' hs' (rgB hk1 hk (nx1 (x:=0) (by decide))) fun b k2 l2 ρ2 hk2 p2 hb=>z _ _ _ _ (rgL (rgT hk1 hk2) (nx1 (x:=0) (by decide))) (p1.trans p2) (hA b hb)
 refine rwS (show dU.body=dU.body.take 1++dU.body.drop 1 from rfl) ?_
 generalize dU.body.drop 1=X at fin ⊢
 conv=>whnf
 refine h76 D sc aW _ _ h (by decide) hs.at ?_
 cases e:ofS D aW with
 | cons x m =>
  conv=>whnf
  refine aF _ (aIu (oG (x::m)) nI) ?_
  conv=>whnf
  refine h78 D sc _ _ ρ _ h hs (rgB (rgN 0) hk (nx0 (by decide))) fun s hN=>?_
  conv=>whnf
  refine aF _ hs.at ?_
  refine cA h.kb ?_
  exact fin _ _ _ _ _ _ _ _ (h.set (k:=122) (q:=aW) (by decide) (by decide)) .new (hp _) (rgL (rgN 1) (by decide)) fun b hb=>A.sum1 h (.inr rfl) hN hb
 | nil =>
  conv=>whnf
  refine h75 k l 2 ρ _ (rgD (rgN 0) hk (Nat.zero_le _)) (by decide) fun v hv=>?_
  rcases n2 hv with rfl | rfl
  ·conv=>whnf
   refine h75 _ l 2 ρ _ (rgD (rgN 1) hk (nx0 (by decide))) (by decide) fun w hw=>?_
   conv=>whnf
   refine h78 D sc _ _ ρ _ h hs (rgB (rgN 2) hk (nx0 (by decide))) fun s hN=>?_
   conv=>whnf
   refine aF _ hs.at ?_
   refine cA h.kb ?_
   exact fin _ _ _ _ _ _ _ _ ((h.set (k:=121) (q:=aW) (by decide) (by decide)).set (k:=122) (q:=aW) (by decide) (by decide)) .new (hp _) (rgL (rgN 3) (by decide)) fun b hb=>A.sum2 h hN hb
  ·conv=>whnf
   refine h75 _ l 2 ρ _ (rgD (rgN 1) hk (nx0 (by decide))) (by decide) fun v hv=>?_
   refine e12 (aPs 121 122 hv) fun kx hkx e1=>?_
   conv=>whnf
   refine aF _ (e1 _) ?_
   conv=>whnf
   refine h75 _ l 2 ρ _ (rgD (rgN 2) hk (nx0 (by decide))) (by decide) fun v hv=>?_
   refine e12 (aPs 111 121 hv) fun ky hky e2=>?_
   conv=>whnf
   refine aF _ (e2 _) ?_
   conv=>whnf
   refine h78 D sc _ _ ρ _ h hs (rgB (rgN 3) hk (nx0 (by decide))) fun s hN=>?_
   conv=>whnf
   refine aF _ (xV hs h.cap) ?_
   conv=>whnf
   refine aF _ (aBt h.cap) ?_
   conv=>whnf
   have h1:=h.set (q:=aW) (bAl hkx) (by decide)
   refine h75 _ _ 2 _ _ (rgD (rgN 4) hk (nx0 (by decide))) (by decide) fun v hv=>?_
   rcases n2 hv with rfl | rfl
   ·exact fin _ _ _ _ _ _ _ _ h1 .new (hp _) (rgL (rgN 5) (by decide)) fun b hb=>A.sum1 h hkx hN hb
   ·conv=>whnf
    refine h78 _ _ _ _ _ _ h1 .new (rgB (rgN 5) hk (nx0 (by decide))) fun s' hN'=>?_
    conv=>whnf
    refine aF _ (aBt h1.cap) ?_
    exact fin _ _ _ _ _ _ _ _ (h1.set (q:=aW) (aZz hky) (by decide)) .new (hp _) (rgL (rgN 6) (by decide)) fun b hb=>A.sum3 h hkx hky hN hN' hb)
end
section
variable{D:Env}{o:SObj}{σ ρ ρ':St}{sc v:V}{s n k q d:Nat}{K:V→St→Prop}{T:TabK}{L l:List V}{Nu:Nat→Env→V→Prop}{Tr:Env→V→Prop}
theorem bAq(A:Alg Nu Tr)(h75:DrT T L)(h76:OsT T)(h77:aSm T L)(h79:TrT T L Tr)(h80:CaT T L Nu d 80 8)(h81:CaT T L Nu d 81 10)(h0:NumT T L Nu 0)(hd:NumT T L Nu d){k:Nat}{l:Int}(h:SOk D)(hs:ScV ρ sc D)(hk:k+(3+12*(d+1))≤1000)
  (z:∀nd k' l' ρ',k≤k'∧k'≤k+(3+12*(d+1))→ρ <+: ρ'→Nu (d+1) D nd→K nd (aT L k' l'::ρ')):kSs prog T bJ.body (bH bJ [.loc 0,sc,.int ((d+1:Nat):Int)]) (aT L k l::ρ) (cG K):=by
 have p0:=List.prefix_refl ρ
 have rest:∀v:Nat,(v:Int)<10→kSs prog T (bJ.body.drop 2) [some (.loc 0),some sc,some (.int ((d+1:Nat):Int)),some (.int v),none,none,none,none] (aT L (k+1) (l - 1)::ρ) (cG K):=by
  intro v hv
  have card:T.call 77 [.loc 0,sc] (aT L (k+1) (l - 1)::ρ) (fun v σ=>K (unV 36 v) σ) :=
   h77 D sc _ _ ρ _ h hs (rgB (rgN 1) hk (nd0 (by decide))) fun nd k'' hk' hN=>z _ _ _ _ (rgL (rgT (rgN 1) hk') (nd0 (by decide))) p0 (A.card hN)
  have call:T.call 80 [.loc 0,sc,.int ((d+1:Nat):Int)] (aT L (k+1) (l - 1)::ρ) K:=h80 D sc _ _ ρ _ h hs (rgB (rgN 1) hk (nd1 (by decide))) fun nd k1 l1 ρ1 hk1 p1 hN=>z _ _ _ _ (rgL (rgT (rgN 1) hk1) (nd1 (by decide))) p1 hN
  rcases n10 hv with rfl | rfl | rfl | rfl | rfl | rfl | rfl | rfl | rfl | rfl
  ·conv=>whnf
   refine h75 (k+1) (l - 1) 4 ρ _ (rgD (rgN 1) hk (nd0 (by decide))) (by decide) fun v hv=>?_
   exact z _ _ _ _ (rgL (rgN 2) (nd0 (by decide))) p0 (A.num (Int.ofNat_lt.mp hv))
  ·exact card
  ·conv=>whnf
   refine h76 D sc bN _ _ h (by decide) hs.at ?_
   have hm:∀x∈ofS D bN,aK (.str x) D=some (.str bN):=fun x m=>pK m
   have hl:=lO (D:=D) (q:=bN)
   cases e:ofS D bN with
   | nil =>
    conv=>whnf
    exact card
   | cons x m =>
    rw[e]at hm hl
    conv=>whnf
    refine aF _ (aDb (oG (x::m)) nI) ?_
    conv=>whnf
    refine h76 D sc bN _ _ h (by decide) hs.at ?_
    refine rwS e ?_
    refine e21 (uA (l:=x::m) (fun h=>nomatch h)) fun a b e=>?_
    conv=>whnf
    refine aF (.str b) (by
     show gJ _ (.list ((x::m).map V.str)) _=_
     refine rwS e (rwS List.map_append ?_)
     exact uW (by rw[List.length_map]; rw[e,List.length_append]at hl; lia) _) ?_
    exact z _ _ _ _ (rgL (rgN 1) (nd0 (by decide))) p0 (A.name (hm b (by refine rwS e ?_; exact List.mem_append.mpr (.inr (List.mem_cons_self ..)))))
  ·conv=>whnf
   by_cases hd1:(1:Int)<((d+1:Nat):Int)
   ·refine lG (decide_eq_true hd1) ?_
    exact h81 D sc _ _ ρ _ h hs (rgB (rgN 1) hk (nd1 (by decide))) fun nd k1 l1 ρ1 hk1 p1 hN=>z _ _ _ _ (rgL (rgT (rgN 1) hk1) (nd1 (by decide))) p1 hN
   ·refine kJ (decide_eq_false hd1) ?_
    exact call
  ·conv=>whnf
   by_cases hd1:(1:Int)<((d+1:Nat):Int)
   ·refine lG (decide_eq_true hd1) ?_
    exact h81 D sc _ _ ρ _ h hs (rgB (rgN 1) hk (nd1 (by decide))) fun nd k1 l1 ρ1 hk1 p1 hN=>z _ _ _ _ (rgL (rgT (rgN 1) hk1) (nd1 (by decide))) p1 hN
   ·refine kJ (decide_eq_false hd1) ?_
    exact call
  ·exact call
  ·exact call
  ·conv=>whnf
   refine hd.sub h hs (rgB (rgN 1) hk (nd1 (by decide))) fun a k1 l1 ρ1 hk1 p1 ha=>?_
   exact z _ _ _ _ (rgL (rgT (rgN 1) hk1) (nd1 (by decide))) p1 (A.neg ha)
  ·conv=>whnf
   refine h79 D sc _ _ ρ _ h hs (rgB (rgN 1) hk (nd0 (by decide))) fun c k1 l1 ρ1 hk1 p1 hc=>?_
   conv=>whnf
   refine h0 D sc _ _ ρ1 _ h (hs.pre p1) (rgB (rgT (rgN 1) hk1) hk (nd0 (by decide))) fun a k2 l2 ρ2 hk2 p2 ha=>?_
   conv=>whnf
   refine hd.sub h (hs.pre (p1.trans p2)) (rgB (rgT (rgT (rgN 1) hk1) hk2) hk (nd1 (by decide))) fun b k3 l3 ρ3 hk3 p3 hb=>?_
   exact z _ _ _ _ (rgL (rgT (rgT (rgT (rgN 1) hk1) hk2) hk3) (nd1 (by decide))) ((p1.trans p2).trans p3) (A.cond hc ha hb)
  ·conv=>whnf
   refine h75 (k+1) (l - 1) 2 ρ _ (rgD (rgN 1) hk (nd0 (by decide))) (by decide) fun v hv=>?_
   rcases n2 hv with rfl | rfl
   all_goals
    conv=>whnf
    refine h75 _ (l - 1) 2 ρ _ (rgD (rgN 2) hk (nd0 (by decide))) (by decide) fun w hw=>?_
    rcases n2 hw with rfl | rfl
    ·conv=>whnf
     refine h0 D sc _ _ ρ _ h hs (rgB (rgN 3) hk (nd0 (by decide))) fun a k1 l1 ρ1 hk1 p1 ha=>?_
     conv=>whnf
     refine aF _ (xV (hs.pre p1) h.cap) ?_
     conv=>whnf
     refine aF _ (aBt h.cap) ?_
     conv=>whnf
     refine hd.sub (h.set (q:=bN) (by decide) (by decide)) .new (rgB (rgT (rgN 3) hk1) hk (nd1 (by decide))) fun b k2 l2 ρ2 hk2 p2 hb=>?_
     exact z _ _ _ _ (rgL (rgT (rgT (rgN 3) hk1) hk2) (nd1 (by decide))) (p1.trans ((List.prefix_append ..).trans p2)) (A.letN h (by first | exact .inl rfl | exact .inr rfl) ha hb)
    ·conv=>whnf
     refine h77 D sc _ _ ρ _ h hs (rgB (rgN 3) hk (nd0 (by decide))) fun a k1 hk1 ha=>?_
     conv=>whnf
     refine aF _ (xV hs h.cap) ?_
     conv=>whnf
     refine aF _ (aBt h.cap) ?_
     conv=>whnf
     refine hd.sub (h.set (q:=dT) (by decide) (by decide)) .new (rgB (rgT (rgN 3) hk1) hk (nd1 (by decide))) fun b k2 l2 ρ2 hk2 p2 hb=>?_
     exact z _ _ _ _ (rgL (rgT (rgT (rgN 3) hk1) hk2) (nd1 (by decide))) ((List.prefix_append ..).trans p2) (A.letS h (by first | exact .inl rfl | exact .inr rfl) ha hb)
 refine rwS (show bJ.body=bJ.body.take 2++bJ.body.drop 2 from rfl) ?_
 generalize bJ.body.drop 2=X at rest ⊢
 conv=>whnf
 refine lG (decide_eq_true (by lia)) ?_
 conv=>whnf
 by_cases hl:(0:Int)<l - 1
 ·refine lG (decide_eq_true hl) ?_
  refine h75 k (l - 1) 10 ρ _ (rgD (rgN 0) hk (Nat.zero_le _)) (by decide) fun v hv=>?_
  exact rest v hv
 ·refine kJ (decide_eq_false hl) ?_
  refine h75 k (l - 1) 3 ρ _ (rgD (rgN 0) hk (Nat.zero_le _)) (by decide) fun v hv=>?_
  exact rest v (Int.lt_trans hv (by decide))
theorem aCd(hL:okL L)(A:Alg Nu Tr):∀(d n:Nat),5*d+3≤n→NumT ⟨aE prog n⟩ L Nu d
 | 0,n,hn=>aAl hL A hn
 | d+1,n,hn=>fun D sc k l ρ K h hs hk z=>aN (d:=bJ) (Nat.le_trans (Nat.le_add_left ..) hn) rfl rfl
  (bAq A (nE hL (by lia)) (vU (by lia)) (xN hL (by lia)) (aYa hL A (by lia)) (aZu hL A (by lia) (aCd hL A d _ (by lia))) (aYj hL A (by lia) (aCd hL A d _ (by lia))) (aAl hL A (by lia)) (aCd hL A d _ (by lia)) h hs hk z)
end
noncomputable abbrev bS(a:Int):V:=.tup [.int a]
noncomputable abbrev aCv(p:Int × Int):V:=.tup [.int p.1,.int p.2]
noncomputable abbrev aJ(l:List Int):List V:=l.map bS
noncomputable abbrev sD(l:List (Int × Int)):List V:=l.map aCv
noncomputable def At1(l:List Int):Prop:=l.Sublist [0,1,2]
theorem At1.len{l:List Int}(h:At1 l):l.length≤3:=h.length_le
theorem At1.mem{l:List Int}(h:At1 l){a:Int}(m:a∈l):a∈[0,1,2]:=h.subset m
theorem At1.one{a:Int}(m:a∈[(0:Int),1,2]):At1 [a]:=List.singleton_sublist.mpr m
theorem At1.flt{l:List Int}(h:At1 l){p:Int→Bool}:At1 (l.filter p):=List.filter_sublist.trans h
noncomputable def has(l:List Int)(a:Int):Bool:=l.any fun y=>decide (y=a)
theorem aYg{a b:Int}:V.beq (bS a) (bS b)=decide (a=b):=Bool.and_true _
theorem sT{a:Int}:∀k:List Int,((aJ k).any fun y=>V.beq y (bS a))=has k a
 | []=>rfl
 | x::k=>congr (congrArg or aYg) (sT k)
theorem aHq:∀k:List Int,∀y∈aJ k,cF 24 y=true:=fun k y m=>(List.mem_map.mp m).elim fun a q=>q.2▸rfl
theorem zE:∀k:List Int,∀y∈aJ k,cF 23 y=true:=fun k y m=>(List.mem_map.mp m).elim fun a q=>q.2▸rfl
theorem mA:∀l k:List Int,jQ (aJ l) (aJ k)=decide (l=k)
 | [],[]=>rfl
 | [],_::_=>rfl
 | _::_,[]=>rfl
 | a::l,b::k=>by
  show (V.beq (bS a) (bS b)&&jQ (aJ l) (aJ k))=_
  rw[aYg,mA l k,Bool.eq_iff_iff,Bool.and_eq_true,decide_eq_true_iff,decide_eq_true_iff,decide_eq_true_iff,List.cons.injEq]
section
variable{l k:List Int}{σ:St}
theorem aBy{a:Int}:zP (bS a) (aJ l)=some (has l a):=(aGt rfl (aHq l)).trans (congrArg some (sT l))
theorem aIc{L:List V}(h:L.all iH=true)(n:L.length≤aU):biE σ .sortedSet [.list L]=some (.list (iY L)):=if_pos ⟨h,n⟩
end
noncomputable abbrev sF:Nat:=986901300524892553327
noncomputable abbrev mE:Nat:=2282452971227182165890433135
noncomputable abbrev kG:Nat:=2127710420199671437499302004
theorem pS(L:List V):∃m,At1 m∧iY L=aJ m :=
 ⟨[0,1,2].filter fun a=>L.any fun x=>V.beq x (bS a),List.filter_sublist,by
  show List.filter _ ([(0:Int),1,2].map bS)=_
  refine rwS List.filter_map ?_; rfl⟩
noncomputable def Rt(m f:Nat)(args:List V)(v:V):Prop:=∀n,m≤n→∀(σ:St) (K:V→St→Prop),K v σ→aE prog n f args σ K
noncomputable def FOk(F:List (Int × Int)):Prop:=F.length≤9∧∀p∈F,p.2∈[(0:Int),1,2]
section
variable{l k:List Int}{F:List (Int × Int)}{op:Nat}{i j:Int}
theorem zZ{a:Int}(h:a∈[(0:Int),1,2]):iH (bS a)=true:=by
 rcases List.mem_cons.mp h with rfl | h
 ·rfl
 rcases List.mem_cons.mp h with rfl | h
 ·rfl
 rcases List.mem_cons.mp h with rfl | h
 ·rfl
 cases h
theorem aIo(hl:At1 l)(hF:FOk F):∃m,At1 m∧Rt 1 84 [.str sF,.list (aJ l),.list (sD F)] (.list (aJ m)):=by
 refine e12 (pS (l.flatMap fun (a:Int)=>(F.filter fun (p:Int × Int)=>decide (a=p.1)).map fun (p:Int × Int)=>bS p.2)) fun m hm e=>?_
 refine⟨m,hm,fun n hn σ K z=>aN (d:=jH) hn rfl rfl ?_⟩
 generalize TabK.mk (aE prog (n - 1))=T
 conv=>whnf
 have lf:∀a:Int,((F.filter fun p=>decide (a=p.1)).map fun p=>bS p.2).length≤9:=fun a=>by rw[List.length_map]; exact Nat.le_trans (List.length_filter_le ..) hF.1
 refine iZ (α:=Int) bS (fun a=>(F.filter fun p=>decide (a=p.1)).map fun p=>bS p.2) (σ=·) 9 (by rw[List.length_nil,Nat.zero_add]; exact Nat.le_trans (Nat.mul_le_mul_right 9 hl.len) (by decide)) rfl (fun _ _=>rfl) lf (fun a ha=>⟨_,rfl,fun σ3 ds kk i q zz=>?_⟩) fun σ' i=>?_
 ·subst i
  conv=>whnf
  refine iZ (α:=Int × Int) aCv (fun p=>cond (decide (a=p.1)) [bS p.2] []) (σ=·) 1 (by rw[Nat.mul_one]; exact Nat.le_trans (Nat.add_le_add_left hF.1 _) q) rfl (fun _ _=>rfl) (fun _=>pC) (fun p hp=>⟨_,rfl,fun σ4 ds2 kk2 i q2 zz2=>?_⟩) fun σ' i=>i▸(oF (p:=fun p:Int × Int=>decide (a=p.1)) (h:=fun p=>bS p.2) F)▸zz _ rfl
  subst i
  conv=>whnf
  exact iU q2 (zz2 _ rfl)
 ·subst i
  conv=>whnf
  refine aF _ (aIc (List.all_eq_true.mpr fun r m=>?_) (Nat.le_trans (qQ fun a _=>lf a) (Nat.le_trans (Nat.mul_le_mul_right 9 hl.len) (by decide)))) ?_
  ·refine e12 (List.mem_flatMap.mp m) fun a _ m2=>?_
   refine e12 (List.mem_map.mp m2) fun p m3 e_2=>?_; subst e_2
   exact zZ (hF.2 p (List.mem_filter.mp m3).1)
  rw[List.nil_append,e]
  exact z
theorem sU(h:At1 l):(aJ l).length≤aU:=by rw[List.length_map]; exact Nat.le_trans h.len (by decide)
theorem aRd(ho:op=mE∨op=kG)(hl:At1 l)(hk:At1 k):∃m,At1 m∧Rt 1 84 [.str op,.list (aJ l),.list (aJ k)] (.list (aJ m)):=by
 rcases ho with rfl | rfl
 ·refine e12 (pS (aJ l++aJ k)) fun m hm e=>?_
  have hb:(aJ l++aJ k).length≤aU:=by
   rw[List.length_append,List.length_map,List.length_map]
   exact Nat.le_trans (Nat.add_le_add hl.len hk.len) (by decide)
  refine⟨m,hm,fun n hn σ K z=>aN (d:=jH) hn rfl rfl ?_⟩
  generalize TabK.mk (aE prog (n - 1))=T
  conv=>whnf
  refine aF _ (oY hb) ?_
  conv=>whnf
  refine aF _ (aIc (List.all_eq_true.mpr fun r m=>?_) hb) ?_
  ·rcases List.mem_append.mp m with m | m
   ·refine e12 (List.mem_map.mp m) fun a m2 e_2=>?_; subst e_2
    exact zZ (hl.mem m2)
   ·refine e12 (List.mem_map.mp m) fun a m2 e_2=>?_; subst e_2
    exact zZ (hk.mem m2)
  refine rwS e ?_
  exact z
 ·refine⟨l.filter fun a=>!has k a,hl.flt,fun n hn σ K z=>aN (d:=jH) hn rfl rfl ?_⟩
  generalize TabK.mk (aE prog (n - 1))=T
  conv=>whnf
  refine eM (α:=Int) bS bS (fun a=>!has k a) (Nat.le_trans hl.len (by decide)) rfl (fun a m=>⟨_,rfl,fun ds kk b zz=>?_⟩) z
  conv=>whnf
  refine aF _ (congrArg (Option.map (!·)) (aBy (l:=k) (a:=a))) ?_
  conv=>whnf
  exact iU b zz
end
end P2
end Mine.Internal
namespace Mine.Internal
open PySem
noncomputable def aEl(v:Nat)(a:Int):Nat:=(Int.fdiv v (2 ^ a.toNat)).toNat
theorem aOl{v:Nat}{a:Int}{σ:St}(h:0≤a):uM σ .shr (.int v) (.int a)=some (.int (aEl v a:Nat)):=by
 show (if 0≤a then some (V.int (Int.fdiv v (2 ^ a.toNat))) else none)=_
 have e:0≤Int.fdiv (v:Int) (2 ^ a.toNat):=Int.fdiv_nonneg (Int.natCast_nonneg v) (Int.pow_nonneg (by decide))
 refine rwS (if_pos h) ?_
 delta aEl
 exact rwS (Int.toNat_of_nonneg e) rfl
theorem aPy{c:Nat}{σ:St}:uM σ .band (.int c) (.int 1)=some (.int ((c &&& 1:Nat):Int)):=by
 show (if (0:Int)≤c∧(0:Int)≤1 then some (V.int (((c:Int).toNat &&& (1:Int).toNat:Nat):Int)) else none)=_
 refine rwS (if_pos ⟨Int.natCast_nonneg c,by decide⟩) ?_; rfl
theorem aZr{v:Nat}{a:Int}{σ:St}:uM σ .band (.int (Int.fdiv v (2 ^ a.toNat))) (.int 1)=some (.int ((aEl v a &&& 1:Nat):Int)):=by
 have e:Int.fdiv (v:Int) (2 ^ a.toNat)=(aEl v a:Nat):=(Int.toNat_of_nonneg (Int.fdiv_nonneg (Int.natCast_nonneg v) (Int.pow_nonneg (by decide)))).symm
 refine rwS e ?_; exact aPy
noncomputable def tG(v:Nat)(a:Int):Bool:=decide (((aEl v a &&& 1:Nat):Int)=1)
namespace P2
noncomputable def mS(a b:List Int)(F:List (Int × Int)):V:=.list [.list (aJ a),.list (aJ b),.list (sD F)]
section
variable{D:Env}{σ ρ:St}{k n:Nat}{l:Int}{K:V→St→Prop}{T:TabK}{L:List V}{a b:List Int}{i j:Int}
noncomputable def atR(v:Nat):List Int:=((List.range 3).filter fun (k:Nat)=>tG v (k:Int)).map fun (k:Nat)=>(k:Int)
theorem aQl(v:Nat):At1 (atR v):=by
 have w:((List.range 3).map fun (k:Nat)=>(k:Int))=[0,1,2]:=rfl
 delta At1 atR
 refine rwT w ?_
 exact List.Sublist.map _ List.filter_sublist
theorem aRj(v:Nat):((List.range 3).filter fun (k:Nat)=>tG v (k:Int)).map (fun (k:Nat)=>bS (k:Int))=aJ (atR v):=by
 delta atR aJ; refine rwS List.map_map ?_; rfl
noncomputable def fdR(v:Nat)(a:List Int):List (Int × Int):=a.flatMap fun i=>((List.range 3).filter fun (k:Nat)=>tG v (2*i+k)).map fun (k:Nat)=>(i,(k:Int))
theorem aUy{v:Nat}(h:At1 a):FOk (fdR v a):=by
 refine⟨Nat.le_trans (qQ (c:=3) fun i _=>?_) (Nat.mul_le_mul_right 3 h.len),fun p m=>?_⟩
 ·rw[List.length_map]; exact List.length_filter_le ..
 ·refine e12 (List.mem_flatMap.mp m) fun i _ m2=>?_
  refine e12 (List.mem_map.mp m2) fun k m3 e_2=>?_; subst e_2
  have w:=List.mem_range.mp (List.mem_filter.mp m3).1
  show (k:Int)∈[(0:Int),1,2]
  simp only[List.mem_cons,List.not_mem_nil,or_false]; lia
theorem aUh{v:Nat}:(a.flatMap fun i=>((List.range 3).filter fun (k:Nat)=>tG v (2*i+k)).map fun (k:Nat)=>aCv (i,(k:Int)))=sD (fdR v a):=by
 delta fdR sD
 refine rwS List.map_flatMap ?_
 refine congrArg (List.flatMap · a) (funext fun i=>?_)
 refine rwS List.map_map ?_; rfl
noncomputable def WoT(T:TabK)(L:List V):Prop:=∀(k:Nat) (l:Int) (ρ:St) (K:V→St→Prop),k+3≤1000→(∀a b F,At1 a→At1 b→FOk F→K (mS a b F) (aT L (k+3) l::ρ))→T.call 83 [.loc 0] (aT L k l::ρ) K
theorem aXm(hL:okL L)(hn:2≤n):WoT ⟨aE prog n⟩ L:=fun k l ρ K hk z=>aN (d:=cQ) (up1 hn) rfl rfl (by
 have h75:=nE hL (dn1 hn)
 generalize TabK.mk (aE prog (n - 1))=T at h75 ⊢
 have rest:∀v w u:Nat,kSs prog T (cQ.body.drop 1) [some (.loc 0),some (.int v),some (.int w),some (.int u),none,none,none,none,none,none] (aT L (k+3) l::ρ) (cG K):=by
  intro v w u
  conv=>whnf
  refine eM (α:=Nat) (l:=List.range 3) (fun k=>V.int k) (fun (k:Nat)=>bS (k:Int)) (fun (k:Nat)=>tG v (k:Int)) (by decide) rfl (fun i hi=>⟨_,rfl,fun ds kk b zz=>?_⟩) ?_
  ·conv=>whnf
   refine aF _ aZr ?_
   conv=>whnf
   exact iU b zz
  rw[aRj]
  have hA:=aQl v
  generalize atR v=A at hA ⊢
  conv=>whnf
  refine eM (α:=Int) (l:=A) bS bS (tG w) (Nat.le_trans hA.len (by decide)) rfl (fun i hi=>⟨_,rfl,fun ds kk b zz=>?_⟩) ?_
  ·have h0:0≤i:=by have hi:=hA.mem hi; simp only[List.mem_cons,List.not_mem_nil,or_false]at hi; lia
   conv=>whnf
   refine aF _ (aOl h0) ?_
   conv=>whnf
   exact iU b zz
  conv=>whnf
  refine iZ (α:=Int) (l:=A) bS (fun i=>((List.range 3).filter fun (k:Nat)=>tG u (2*i+k)).map fun (k:Nat)=>aCv (i,(k:Int))) (aT L (k+3) l::ρ=·) 3 (by rw[List.length_nil,Nat.zero_add]; exact Nat.le_trans (Nat.mul_le_mul_right 3 hA.len) (by decide)) rfl (fun _ _=>rfl) (fun a=>by rw[List.length_map]; exact List.length_filter_le ..) (fun i hi=>⟨_,rfl,fun σ3 ds kk e q zz=>?_⟩) fun σ' e=>?_
  ·have h0:0≤i∧i≤2:=by have hi:=hA.mem hi; simp only[List.mem_cons,List.not_mem_nil,or_false]at hi; lia
   subst e
   conv=>whnf
   refine iZ (α:=Nat) (l:=List.range 3) (fun k=>V.int k) (fun (k:Nat)=>cond (tG u (2*i+k)) [aCv (i,(k:Int))] []) (aT L (k+3) l::ρ=·) 1 (by rw[Nat.mul_one]; exact q) rfl (fun _ _=>rfl) (fun _=>pC) (fun p hp=>⟨_,rfl,fun σ4 ds2 kk2 e q2 zz2=>?_⟩) fun σ' e=>e▸(oF (p:=fun (k:Nat)=>tG u (2*i+k)) (h:=fun (k:Nat)=>aCv (i,(k:Int))) (List.range 3))▸zz _ rfl
   subst e
   conv=>whnf
   refine aF _ (sX _ (by decide) (by lia)) ?_
   conv=>whnf
   refine aF _ (aOl (by lia)) ?_
   conv=>whnf
   exact iU q2 (zz2 _ rfl)
  ·subst e
   rw[List.nil_append,aUh]
   exact z _ _ _ hA hA.flt (aUy hA)
 refine rwS (show cQ.body=cQ.body.take 1++cQ.body.drop 1 from rfl) ?_
 generalize cQ.body.drop 1=X at rest ⊢
 conv=>whnf
 refine h75 _ _ _ _ _ (by lia) (by decide) fun v _=>?_
 conv=>whnf
 refine h75 _ _ _ _ _ (by lia) (by decide) fun w _=>?_
 conv=>whnf
 refine h75 _ _ _ _ _ (by lia) (by decide) fun u _=>?_
 have r:=rest (1+v) w u
 rw[show ((1+v:Nat):Int)=1+(v:Int) by lia]at r
 exact r)
end
end P2
end Mine.Internal
namespace Mine.Internal
open PySem
namespace P2
noncomputable abbrev cIn:Nat:=222298223
section
variable{D D2:Env}{σ σ' ρ:St}{k n op m s:Nat}{K:V→St→Prop}{T:TabK}{L:List V}{a b l l':List Int}{F:List (Int × Int)}{i j:Int}{nd ev w v v':V}
theorem oW(l:List Int):∀y∈aJ l,cF 23 y=true:=zE l
theorem aHx(ho:op=cIn∨op=62)(hl:At1 l)(hk:At1 l'):∃b,Rt 1 85 [.str op,.list (aJ l),.list (aJ l')] (.bool b):=by
 rcases ho with rfl | rfl
 ·refine⟨V.beq (.list ((l.filter fun a=>!has l' a).map bS)) (.list []),fun n hn σ K z=>aN (d:=fO) hn rfl rfl ?_⟩
  generalize TabK.mk (aE prog (n - 1))=T
  conv=>whnf
  refine eM (α:=Int) bS bS (fun a=>!has l' a) (Nat.le_trans hl.len (by decide)) rfl (fun a m=>⟨_,rfl,fun ds kk b zz=>?_⟩) ?_
  ·conv=>whnf
   refine aF _ (congrArg (Option.map (!·)) (aBy (l:=l') (a:=a))) ?_
   conv=>whnf
   exact iU b zz
  conv=>whnf
  refine aF _ (aDb (oW _) nI) ?_
  exact z
 ·refine⟨V.beq (.list (aJ l)) (.list (aJ l'))==true,fun n hn σ K z=>aN (d:=fO) hn rfl rfl ?_⟩
  generalize TabK.mk (aE prog (n - 1))=T
  conv=>whnf
  refine aF _ (aDb (oW _) (oW _)) ?_
  exact z
noncomputable def aXd(op:Nat)(i j:Int):Bool:=if op=62 then decide (i=j) else if op=71303230 then !decide (i=j) else if op=61 then decide (i<j) else if op=127926334 then decide (i≤j) else decide (j<i)
theorem gX(ho:op∈rN):Rt 1 85 [.str op,.int i,.int j] (.bool (aXd op i j)):=fun n hn σ K z=>aN (d:=fO) hn rfl rfl (by
 generalize TabK.mk (aE prog (n - 1))=T
 rcases List.mem_cons.mp ho with rfl | ho
 ·exact z
 rcases List.mem_cons.mp ho with rfl | ho
 ·exact z
 rcases List.mem_cons.mp ho with rfl | ho
 ·have z:K (.bool (decide (i=j))) σ:=z
  show K (.bool (decide (i=j)==true)) σ
  refine rwS (show (decide (i=j)==true)=decide (i=j) by cases decide (i=j) <;> rfl) ?_; exact z
 rcases List.mem_cons.mp ho with rfl | ho
 ·have z:K (.bool (!decide (i=j))) σ:=z
  show K (.bool (decide (i=j)==false)) σ
  refine rwS (show (decide (i=j)==false)=!decide (i=j) by cases decide (i=j) <;> rfl) ?_; exact z
 rcases List.mem_cons.mp ho with rfl | ho
 ·exact z
 cases ho)
theorem eH(h:aO σ ev=some D)(p:σ <+: σ'):aO σ' ev=some D:=by
 cases ev with
 | dict l=>exact h
 | loc n =>
  have h:tW σ[n]?=some D:=h
  show tW σ'[n]?=some D
  cases e:σ[n]? with
  | none=>rw[e]at h; cases h
  | some o=>refine rwS (fY p e) (rwT e ?_); exact h
 | _=>cases h
noncomputable def NrT(T:TabK)(nd:V)(D:Env)(w v:V):Prop:=∀(σ:St) (ev:V) (K:V→St→Prop),aO σ ev=some D→(∀σ',σ <+: σ'→K v σ')→T.call 86 [nd,ev,w] σ K
noncomputable def NrB(T:TabK)(nd:V)(D:Env)(w v:V):Prop:=∀(σ:St) (ev:V) (K:V→St→Prop),aO σ ev=some D→(∀σ',σ <+: σ'→K v σ')→kSs prog T hJ.body (bH hJ [nd,ev,w]) σ (cG K)
noncomputable def Nr(m:Nat)(nd:V)(D:Env)(w v:V):Prop:=∀n,m≤n→NrT ⟨aE prog n⟩ nd D w v
theorem Nr.of(h:∀n,m≤n→NrB ⟨aE prog n⟩ nd D w v):Nr (m+1) nd D w v:=fun n hn σ ev K e z=>aN (d:=hJ) (up1 hn) rfl rfl (h (n - 1) (dn1 hn) σ ev K e z)
theorem Nr.up{m':Nat}(h:Nr m nd D w v)(e:m≤m'):Nr m' nd D w v:=fun n hn=>h n (Nat.le_trans e hn)
theorem aQp{i:Nat}:Nr 1 (aIm i) D w (.int i):=Nr.of fun n _ σ ev K e z=>z σ (List.prefix_refl σ)
theorem mN{k:Nat}(e:aO σ ev=some D):inE σ (.str k) ev=some (aK (.str k) D).isSome:=by
 cases ev with
 | dict l=>cases e; rfl
 | loc n =>
  have e2:tW σ[n]?=some D:=e
  have e1:cH σ (.loc n)=none:=by
   show rP σ[n]?=_
   cases h:σ[n]? with
   | none=>rfl
   | some o=>rw[h]at e2; cases o <;> first | rfl | cases e2
  delta inE; refine rwS e1 (rwS e ?_); rfl
 | _=>cases e
theorem qY{k:Nat}(e:aO σ ev=some D)(h:aK (.str k) D=some v):gJ σ ev (.str k)=some v:=by
 show (aO σ ev).bind _=_
 refine rwS e ?_; exact h
theorem aEz(h:aK (.str k) D=some v):Nr 1 (nmV k) D w v:=Nr.of fun n _ σ ev K e z=>by
 generalize TabK.mk (aE prog n)=T
 conv=>whnf
 refine aF true ((mN e).trans (by refine rwS h ?_; rfl)) ?_
 conv=>whnf
 refine aF v (qY e h) ?_
 exact z σ (List.prefix_refl σ)
theorem uG(hs:s∈[66,67,103])(h:aK (.str s) D=none):Nr 1 (nmV s) D (mS a b F) (if s=66 then .list (aJ a) else if s=67 then .list (aJ b) else .list (sD F)):=Nr.of fun n _ σ ev K e z=>by
 generalize TabK.mk (aE prog n)=T
 have z0:=z σ (List.prefix_refl σ)
 rcases List.mem_cons.mp hs with rfl | hs
 ·conv=>whnf
  refine aF false ((mN e).trans (by refine rwS h ?_; rfl)) ?_
  exact z0
 rcases List.mem_cons.mp hs with rfl | hs
 ·conv=>whnf
  refine aF false ((mN e).trans (by refine rwS h ?_; rfl)) ?_
  exact z0
 rcases List.mem_cons.mp hs with rfl | hs
 ·conv=>whnf
  refine aF false ((mN e).trans (by refine rwS h ?_; rfl)) ?_
  exact z0
 cases hs
theorem aKt(hl:At1 l)(h:Nr m nd D w (.list (aJ l))):Nr (m+1) (unV 36 nd) D w (.int l.length):=Nr.of fun n hn σ ev K e z=>by
 have h:=h n hn
 generalize TabK.mk (aE prog n)=T at h ⊢
 conv=>whnf
 refine h σ ev _ e fun σ1 p1=>?_
 conv=>whnf
 refine aF _ (lJ _ (sU hl)) ?_
 rw[List.length_map]
 exact z σ1 p1
theorem aRo(h:Nr m nd D w (.int i)):Nr (m+1) (unV 46 nd) D w (.int (0 - i)):=Nr.of fun n hn σ ev K e z=>by
 have h:=h n hn
 generalize TabK.mk (aE prog n)=T at h ⊢
 conv=>whnf
 refine h σ ev _ e fun σ1 p1=>?_
 exact z σ1 p1
noncomputable def aBe(w n:Nat):Bool:=if w=1069911648856593924198 then decide ((0:Int)<n) else if w=232783984 then decide ((n:Int)=0) else decide ((n:Int)=1)
theorem aYb{x:Nat}(hx:x∈kF)(hl:At1 l)(h:Nr m nd D w (.list (aJ l))):Nr (m+1) (unV x nd) D w (.bool (aBe x l.length)):=Nr.of fun n hn σ ev K e z=>by
 have h:=h n hn
 generalize TabK.mk (aE prog n)=T at h ⊢
 rcases List.mem_cons.mp hx with rfl | hx
 ·conv=>whnf
  refine h σ ev _ e fun σ1 p1=>?_
  conv=>whnf
  refine aF _ (lJ _ (sU hl)) ?_
  rw[List.length_map]
  exact z σ1 p1
 rcases List.mem_cons.mp hx with rfl | hx
 ·conv=>whnf
  refine h σ ev _ e fun σ1 p1=>?_
  conv=>whnf
  refine aF _ (lJ _ (sU hl)) ?_
  rw[List.length_map]
  exact z σ1 p1
 rcases List.mem_cons.mp hx with rfl | hx
 ·conv=>whnf
  refine h σ ev _ e fun σ1 p1=>?_
  conv=>whnf
  refine aF _ (lJ _ (sU hl)) ?_
  rw[List.length_map]
  exact z σ1 p1
 cases hx
end
section
variable{D D2:Env}{σ σ' ρ:St}{k n op m s x:Nat}{K:V→St→Prop}{T:TabK}{i j:Int}{a b c nd ev w v v1 v2 v3:V}{t:Bool}
theorem aTu(ho:op=47∧x=sF∨(op=44∧x=mE∨op=46∧x=kG))(h1:Nr (m+1) a D w v1)(h2:Nr (m+1) b D w v2)(h3:Rt 1 84 [.str x,v1,v2] v3):Nr (m+2) (bV op a b) D w v3:=Nr.of fun n hn σ ev K e z=>by
 have h1:=h1 n hn
 have h2:=h2 n hn
 have h3:∀(σ:St) (K:V→St→Prop),K v3 σ→TabK.call ⟨aE prog n⟩ 84 [.str x,v1,v2] σ K:=fun σ K z=>h3 n (up1 hn) σ K z
 generalize TabK.mk (aE prog n)=T at h1 h2 h3 ⊢
 rcases ho with ⟨rfl,rfl⟩ | ⟨rfl,rfl⟩ | ⟨rfl,rfl⟩
 all_goals
  conv=>whnf
  refine h1 σ ev _ e fun σ1 p1=>?_
  conv=>whnf
  refine h2 σ1 ev _ (eH e p1) fun σ2 p2=>?_
  conv=>whnf
  exact h3 _ _ (z σ2 (p1.trans p2))
theorem aJs:∀op∈cIn::rN,([V.str 47,V.str 44,V.str 46].any fun y=>y.beq (V.str op))=false:=by decide +kernel
theorem aBo(ho:op∈cIn::rN)(h1:Nr (m+1) a D w v1)(h2:Nr (m+1) b D w v2)(h3:Rt 1 85 [.str op,v1,v2] v3):Nr (m+2) (bV op a b) D w v3:=Nr.of fun n hn σ ev K e z=>by
 have h1:=h1 n hn
 have h2:=h2 n hn
 have h3:∀(σ:St) (K:V→St→Prop),K v3 σ→TabK.call ⟨aE prog n⟩ 85 [.str op,v1,v2] σ K:=fun σ K z=>h3 n (up1 hn) σ K z
 generalize TabK.mk (aE prog n)=T at h1 h2 h3 ⊢
 conv=>whnf
 refine h1 σ ev _ e fun σ1 p1=>?_
 conv=>whnf
 refine h2 σ1 ev _ (eH e p1) fun σ2 p2=>?_
 conv=>whnf
 refine kJ (aJs op ho) ?_
 conv=>whnf
 exact h3 _ _ (z σ2 (p1.trans p2))
theorem aYs(h1:Nr m c D w (.bool t))(h2:t=true→Nr m a D w v)(h3:t=false→Nr m b D w v):Nr (m+1) (ifV c a b) D w v:=Nr.of fun n hn σ ev K e z=>by
 have h1:=h1 n hn
 have h2:=fun e=>h2 e n hn
 have h3:=fun e=>h3 e n hn
 generalize TabK.mk (aE prog n)=T at h1 h2 h3 ⊢
 conv=>whnf
 refine h1 σ ev _ e fun σ1 p1=>?_
 conv=>whnf
 cases t with
 | true =>
  conv=>whnf
  exact h2 rfl σ1 ev _ (eH e p1) fun σ2 p2=>z σ2 (p1.trans p2)
 | false =>
  conv=>whnf
  exact h3 rfl σ1 ev _ (eH e p1) fun σ2 p2=>z σ2 (p1.trans p2)
theorem qA(e:aO σ ev=some D)(hl:D.length≤aU):biE σ .dict [ev]=some (.dict D):=by
 cases ev with
 | dict l =>
  cases e
  show (if _ then _ else _)=_
  exact rwS (if_pos hl) rfl
 | loc n =>
  show (aO σ (.loc n)).bind _=_
  refine rwS e ?_
  show (if _ then _ else _)=_
  exact rwS (if_pos hl) rfl
 | _=>cases e
theorem aQy(hl:D.length≤aU)(h1:Nr m a D w v1)(h2:Nr m b (aS (.str k) v1 D) w v):Nr (m+1) (tN k a b) D w v:=Nr.of fun n hn σ ev K e z=>by
 have h1:=h1 n hn
 have h2:=h2 n hn
 generalize TabK.mk (aE prog n)=T at h1 h2 ⊢
 conv=>whnf
 refine aF _ (qA e hl) ?_
 conv=>whnf
 refine h1 (σ++[.dict D]) ev _ (eH e (List.prefix_append ..)) fun σ1 p1=>?_
 have e1:σ1[σ.length]?=some (.dict D):=fY p1 oL
 have p2:σ <+: σ1.set σ.length (.dict (aS (.str k) v1 D)):=aNc ((List.prefix_append ..).trans p1) (Nat.le_refl _)
 have e2:aO (σ1.set σ.length (.dict (aS (.str k) v1 D))) (.loc σ.length)=some (aS (.str k) v1 D):=by
  show tW (σ1.set σ.length (SObj.dict (aS (.str k) v1 D)))[σ.length]?=_
  refine rwS (aLz (aUn e1)) ?_; rfl
 conv=>whnf
 refine aF (σ1.set σ.length (.dict (aS (.str k) v1 D))) (by
  show lV (.str k) v1 σ.length σ1 σ1[σ.length]?=_
  refine rwS e1 ?_
  show (if (lA (.str k)&&decide (D.length≤aU))=true then some (σ1.set σ.length (.dict (aS (.str k) v1 D))) else _)=_
  refine rwS (decide_eq_true hl) ?_; rfl) ?_
 conv=>whnf
 exact h2 _ _ _ e2 fun σ2 p3=>z σ2 (p2.trans p3)
noncomputable def opI(op:Nat)(i j:Int):Int:=if op=1042241519551906840692 then i+j else if op=2127710420199671437499302004 then i - j else i*j
theorem aRf{h:V}{r:List V}(hh:h=nmV op∧r=[a,b]∨(h=bV 47 a (nmV op)∧r=[b]∨h=qF (nmV op) [a]∧r=[b]))(ho:op∈gE)(h1:Nr m a D w (.int i))(h2:Nr m b D w (.int j))(bi:i.natAbs≤1000000)(bj:j.natAbs≤1000000):Nr (m+1) (qF h r) D w (.int (opI op i j)):=Nr.of fun n hn σ ev K e z=>by
 have h1:=h1 n hn
 have h2:=h2 n hn
 generalize TabK.mk (aE prog n)=T at h1 h2 ⊢
 rcases hh with ⟨rfl,rfl⟩ | ⟨rfl,rfl⟩ | ⟨rfl,rfl⟩
 all_goals
  conv=>whnf
  refine h1 σ ev _ e fun σ1 p1=>?_
  conv=>whnf
  refine h2 σ1 ev _ (eH e p1) fun σ2 p2=>?_
  have z:=z σ2 (p1.trans p2)
  rcases List.mem_cons.mp ho with rfl | ho
  ·exact z
  rcases List.mem_cons.mp ho with rfl | ho
  ·exact z
  rcases List.mem_cons.mp ho with rfl | ho
  ·conv=>whnf
   exact aF _ (sX _ bi bj) z
  cases ho
end
noncomputable abbrev sY:Nat:=1069911587283942768742
noncomputable abbrev cEq:Nat:=213909618
noncomputable abbrev cLt:Nat:=228589685
noncomputable abbrev cLe:Nat:=228589670
noncomputable abbrev wJ:Nat:=1005348000618157965428
noncomputable abbrev xL:Nat:=2263110111996505506986328180
noncomputable def n0V(i:Int):V:=.tup [.str 488183410196590,.int i]
noncomputable def kK(i:Int):V:=.tup [.str 505775562686573,.int i]
noncomputable def dH(s:Nat):V:=.tup [.str 523367740342387,.str s]
noncomputable def aMf(f:V):V:=.tup [.str 488183397613685,f]
noncomputable def chV(c a b:V):V:=.tup [.str 4056483951726744055527172950982758,c,a,b]
noncomputable def aQo(r:V):V:=.tup [.str 1934282344401593776985866357,r]
noncomputable def f2V(op:Nat)(x y:V):V:=.tup [.str op,x,y]
noncomputable def Td(m:Nat)(t:V)(e:Env)(w v:V):Prop:=Rt m 88 [t,.dict e,w] v
section
variable{D e:Env}{σ:St}{k n op m s x:Nat}{K:V→St→Prop}{T:TabK}{l:List Int}{A B:List Int}{F:List (Int × Int)}{i j:Int}{a b c f t w v v1 v2 v3 r y:V}{q:Bool}
theorem Td.of(h:∀n,m≤n→∀(σ:St) (K:V→St→Prop),K v σ→kSs prog ⟨aE prog n⟩ bZ.body (bH bZ [t,.dict e,w]) σ (cG K)):Td (m+1) t e w v:=fun n hn σ K z=>aN (d:=bZ) (up1 hn) rfl rfl (h (n - 1) (dn1 hn) σ K z)
noncomputable def TdT(T:TabK)(t:V)(e:Env)(w v:V):Prop:=∀(σ:St) (K:V→St→Prop),K v σ→T.call 88 [t,.dict e,w] σ K
theorem Td.tk(h:Td m t e w v)(hn:m≤n):TdT ⟨aE prog n⟩ t e w v:=h n hn
theorem Td.up{m':Nat}(h:Td m t e w v)(g:m≤m'):Td m' t e w v:=fun n hn=>h n (Nat.le_trans g hn)
theorem c2:2≤aU:=by decide
theorem c1:1≤aU:=by decide
theorem zU:Td 1 (n0V i) e w (.int i):=Td.of fun n _ σ K z=>z
theorem aWk:Td 1 (kK 0) e (mS A B F) (.list (aJ A)):=Td.of fun n _ σ K z=>z
theorem bBn:Td 1 (kK 1) e (mS A B F) (.list (aJ B)):=Td.of fun n _ σ K z=>z
theorem bAr:Td 1 (kK 2) e (mS A B F) (.list (sD F)):=Td.of fun n _ σ K z=>z
theorem zR(h:aK (.str s) e=some v):Td 1 (dH s) e w v:=Td.of fun n _ σ K z=>by
 generalize TabK.mk (aE prog n)=T
 conv=>whnf
 exact aF v h z
theorem aEm(h:Td m f e w (.bool q)):Td (m+1) (aMf f) e w (.bool (!q)):=Td.of fun n hn σ K z=>by
 have h:=h.tk hn
 generalize TabK.mk (aE prog n)=T at h ⊢
 conv=>whnf
 refine h σ _ ?_
 exact z
theorem aOp(h1:Td m c e w (.bool q))(h2:q=true→Td m a e w v)(h3:q=false→Td m b e w v):Td (m+1) (chV c a b) e w v:=Td.of fun n hn σ K z=>by
 have h1:=h1.tk hn
 have h2:=fun e=>(h2 e).tk hn
 have h3:=fun e=>(h3 e).tk hn
 generalize TabK.mk (aE prog n)=T at h1 h2 h3 ⊢
 conv=>whnf
 refine h1 σ _ ?_
 cases q with
 | true=>exact h2 rfl σ _ z
 | false=>exact h3 rfl σ _ z
theorem aVm(hl:At1 l)(h:Td m r e w (.list (aJ l))):Td (m+1) (aQo r) e w (.int l.length):=Td.of fun n hn σ K z=>by
 have h:=h.tk hn
 generalize TabK.mk (aE prog n)=T at h ⊢
 conv=>whnf
 refine cP (α:=V × V) Prod.fst Prod.snd (l:=[(r,.list (aJ l))]) c1 rfl (fun p m=>⟨_,rfl,fun ds kk b zz=>?_⟩) ?_
 ·rw[List.mem_singleton.mp m]at zz ⊢
  conv=>whnf
  refine h σ _ ?_
  exact cA (le1 b) zz
 conv=>whnf
 refine aF _ (lJ _ (sU hl)) ?_
 rw[List.length_map]
 exact z
theorem aMv{l:List Int}:V.beq (.list (aJ l)) (.list [])=decide (l.length=0):=by cases l <;> rfl
theorem dg3{b1 b2 b3:V}:∀x∈kF,aK (.str x) [(.str 1069911648856593924198,b1),(.str 232783984,b2),(.str aDp,b3)]=some (if x=1069911648856593924198 then b1 else if x=232783984 then b2 else b3) :=
 List.forall_mem_cons.mpr ⟨rfl,List.forall_mem_cons.mpr ⟨rfl,List.forall_mem_cons.mpr ⟨rfl,List.forall_mem_nil _⟩⟩⟩
theorem aTz{x:Nat}{l:List Int}:(if x=1069911648856593924198 then V.bool (!V.beq (.list (aJ l)) (.list [])) else if x=232783984 then .bool (V.beq (.list (aJ l)) (.list [])) else .bool (decide (((aJ l).length:Int)=1)))=.bool (aBe x l.length):=by
 delta aBe
 rw[aMv,List.length_map]
 split
 ·exact congrArg V.bool (by rw[Bool.eq_iff_iff,Bool.not_eq_true',decide_eq_false_iff_not,decide_eq_true_iff]; lia)
 ·split
  ·exact congrArg V.bool (decide_eq_decide.mpr (by lia))
  ·rfl
theorem bBf:∀x∈kF,∀k∈[1934282344401593776985866357],decide (x=k)=false:=by decide +kernel
theorem bBb:∀x∈kF,([V.str 1069911648856593924198,.str 232783984,.str aDp].any fun y=>V.beq y (.str x))=true:=by decide +kernel
theorem aXa{x:Nat}(hx:x∈kF)(hl:At1 l)(h:Td m r e w (.list (aJ l))):Td (m+1) (.tup [.str x,r]) e w (.bool (aBe x l.length)):=Td.of fun n hn σ K z=>by
 have h:=h.tk hn
 generalize TabK.mk (aE prog n)=T at h ⊢
 have go:kSs prog T (bZ.body.drop 9) [some (.tup [.str x,r]),some (.dict e),some w,some (.str x),none,none,none,none,none,none,none,none] σ (cG K):=by
  conv=>whnf
  refine cP (α:=V × V) Prod.fst Prod.snd (l:=[(r,.list (aJ l))]) c1 rfl (fun p m=>⟨_,rfl,fun ds kk b zz=>?_⟩) ?_
  ·rw[List.mem_singleton.mp m]at zz ⊢
   conv=>whnf
   refine h σ _ ?_
   exact cA (le1 b) zz
  conv=>whnf
  refine kJ (bBf x hx _ (by decide)) ?_
  conv=>whnf
  refine lG (bBb x hx) ?_
  conv=>whnf
  refine aF _ (aIu (oW _) nI) ?_
  conv=>whnf
  refine aF _ (aDb (oW _) nI) ?_
  conv=>whnf
  refine aF _ (lJ _ (sU hl)) ?_
  conv=>whnf
  refine aF _ ((dg3 x hx).trans (congrArg some aTz)) ?_
  exact z
 refine rwS (show bZ.body=bZ.body.take 9++bZ.body.drop 9 from rfl) ?_
 generalize bZ.body.drop 9=X at go ⊢
 rcases List.mem_cons.mp hx with rfl | hx
 ·exact go
 rcases List.mem_cons.mp hx with rfl | hx
 ·exact go
 rcases List.mem_cons.mp hx with rfl | hx
 ·exact go
 cases hx
theorem zQ{n:Nat}(h1:Td m a e w v1)(h2:Td m b e w v2)(hn:m≤n){σ:St}:∀p∈[(a,v1),(b,v2)],∀(ds:List V) (kk:List V→St→Prop),ds.length+1≤aU→kk (ds++[p.2]) σ→TabK.call ⟨aE prog n⟩ 88 [p.1,.dict e,w] σ fun v σ=>bK (decide (ds.length≤aU)) (kk (ds++[v]) σ):=fun p m ds kk b zz=>by
 rcases List.mem_cons.mp m with rfl | m
 ·exact h1 n hn σ _ (cA (le1 b) zz)
 ·rw[List.mem_singleton.mp m]at zz ⊢
  exact h2 n hn σ _ (cA (le1 b) zz)
theorem vV(ho:op=1042241519551906840692∧v=.int (i+j)∨(op=wJ∧v=.int (i - j)∨op=xL∧v=.int (i*j)))(h1:Td m a e w (.int i))(h2:Td m b e w (.int j))(bi:i.natAbs≤1000000)(bj:j.natAbs≤1000000):Td (m+1) (f2V op a b) e w v:=Td.of fun n hn σ K z=>by
 have h:=zQ h1 h2 hn (σ:=σ)
 generalize TabK.mk (aE prog n)=T at h ⊢
 rcases ho with ⟨rfl,rfl⟩ | ⟨rfl,rfl⟩ | ⟨rfl,rfl⟩
 ·conv=>whnf
  refine cP (α:=V × V) Prod.fst Prod.snd (l:=[(a,.int i),(b,.int j)]) c2 rfl (fun p m=>⟨_,rfl,fun ds kk b zz=>h p m ds kk b zz⟩) ?_
  exact z
 ·conv=>whnf
  refine cP (α:=V × V) Prod.fst Prod.snd (l:=[(a,.int i),(b,.int j)]) c2 rfl (fun p m=>⟨_,rfl,fun ds kk b zz=>h p m ds kk b zz⟩) ?_
  exact z
 ·conv=>whnf
  refine cP (α:=V × V) Prod.fst Prod.snd (l:=[(a,.int i),(b,.int j)]) c2 rfl (fun p m=>⟨_,rfl,fun ds kk b zz=>h p m ds kk b zz⟩) ?_
  conv=>whnf
  exact aF _ (sX _ bi bj) z
theorem aVh(ho:op=sF∨(op=mE∨op=kG))(h1:Td (m+1) a e w v1)(h2:Td (m+1) b e w v2)(h3:Rt 1 84 [.str op,v1,v2] v3):Td (m+2) (f2V op a b) e w v3:=Td.of fun n hn σ K z=>by
 have h:=zQ h1 h2 hn (σ:=σ)
 have h3:TabK.call ⟨aE prog n⟩ 84 [.str op,v1,v2] σ K:=h3 n (up1 hn) σ K z
 generalize TabK.mk (aE prog n)=T at h h3 ⊢
 rcases ho with rfl | rfl | rfl
 all_goals
  conv=>whnf
  refine cP (α:=V × V) Prod.fst Prod.snd (l:=[(a,v1),(b,v2)]) c2 rfl (fun p m=>⟨_,rfl,fun ds kk b zz=>h p m ds kk b zz⟩) ?_
  exact h3
theorem fV(ho:op=cIn∧x=cIn∨(op=sY∧x=62∨(op=cEq∧x=62∨(op=cLt∧x=61∨op=cLe∧x=127926334))))(h1:Td (m+1) a e w v1)(h2:Td (m+1) b e w v2)(h3:Rt 1 85 [.str x,v1,v2] v3):Td (m+2) (f2V op a b) e w v3:=Td.of fun n hn σ K z=>by
 have h:=zQ h1 h2 hn (σ:=σ)
 have h3:TabK.call ⟨aE prog n⟩ 85 [.str x,v1,v2] σ K:=h3 n (up1 hn) σ K z
 generalize TabK.mk (aE prog n)=T at h h3 ⊢
 rcases ho with ⟨rfl,rfl⟩ | ⟨rfl,rfl⟩ | ⟨rfl,rfl⟩ | ⟨rfl,rfl⟩ | ⟨rfl,rfl⟩
 all_goals
  conv=>whnf
  refine cP (α:=V × V) Prod.fst Prod.snd (l:=[(a,v1),(b,v2)]) c2 rfl (fun p m=>⟨_,rfl,fun ds kk b zz=>h p m ds kk b zz⟩) ?_
  exact h3
end
structure Dk(d:Env):Prop where
 ks:∀p∈d,∃s,p.1=.str s
 nd:(d.map (·.1)).Nodup
theorem uF{b:Nat}{v:V}:∀{d:Env},(aS (.str b) v d).map (·.1)=d.map (·.1)∨((aS (.str b) v d)=d++[(.str b,v)]∧.str b ∉ d.map (·.1))
 | []=>.inr ⟨rfl,List.not_mem_nil⟩
 | (x,w)::r=>by
  unfold aS
  by_cases hb:V.beq x (.str b)=true
  ·refine rwS (if_pos hb) ?_; exact .inl rfl
  ·refine rwS (if_neg hb) ?_
   exact(uF (b:=b) (v:=v) (d:=r)).imp (fun e=>congrArg (x::·) e) fun e=>⟨congrArg ((x,w)::·) e.1,fun m=>(List.mem_cons.mp m).elim (fun e=>hb (by refine rwS (show x=.str b from e.symm) ?_; exact decide_eq_true rfl)) e.2⟩
theorem Dk.set{d:Env}(h:Dk d)(b:Nat)(v:V):Dk (aS (.str b) v d):=by
 have ks:∀k∈d.map (·.1),∃s,k=.str s:=fun k m=>(List.mem_map.mp m).elim fun p q=>q.2▸h.ks p q.1
 have of:∀{e:Env},(∀k∈e.map (·.1),∃s,k=.str s)→∀p∈e,∃s,p.1=.str s:=fun h p m=>h _ (List.mem_map.mpr ⟨p,m,rfl⟩)
 rcases uF (b:=b) (v:=v) (d:=d) with e | ⟨e,n⟩
 ·exact⟨of (e▸ks),e▸h.nd⟩
 ·refine rwS e ?_
  refine⟨of fun k m=>?_,?_⟩
  ·rw[List.map_append]at m
   exact(List.mem_append.mp m).elim (ks k) fun m=>⟨b,List.mem_singleton.mp m⟩
  ·refine rwS List.map_append ?_
   exact List.nodup_append.mpr ⟨h.nd,List.nodup_cons.mpr ⟨List.not_mem_nil,List.nodup_nil⟩,fun x hx y hy e=>n (by rw[e,show y=.str b from List.mem_singleton.mp hy]at hx; exact hx)⟩
theorem gN{b:Nat}{v:V}{d:Env}:(aS (.str b) v d).length≤d.length+1:=by
 rcases uF (b:=b) (v:=v) (d:=d) with e | ⟨e,n⟩
 ·have w:=congrArg List.length e
  rw[List.length_map,List.length_map]at w
  exact w▸Nat.le_succ _
 ·refine rwS e (rwS List.length_append ?_); exact Nat.le_refl _
theorem xF{b:Nat}{v:V}:∀{d:Env},.str b ∉ d.map (·.1)→aS (.str b) v d=d++[(.str b,v)]
 | [],_=>rfl
 | (x,w)::r,h=>by
  unfold aS
  refine rwS (if_neg fun hb=>h (fH hb▸List.mem_cons_self ..)) (rwS (xF fun m=>h (List.mem_cons_of_mem _ m)) ?_); rfl
noncomputable def dL(d:Env):List V:=d.map fun (q:V × V)=>V.tup [q.1,q.2]
noncomputable def mP(ps:List (Nat × V)):List V:=ps.map fun p=>V.tup [.str p.1,p.2]
noncomputable def ext(d:Env)(ps:List (Nat × V)):Env:=ps.foldl (fun d p=>aS (.str p.1) p.2 d) d
theorem pZ:∀(ps:List (Nat × V)) (d:Env),oT d (mP ps)=some (ext d ps)
 | [],_=>rfl
 | p::ps,d=>pZ ps (aS (.str p.1) p.2 d)
theorem rA{L:List V}:∀{d acc:Env},Dk (acc++d)→oT acc (dL d++L)=oT (acc++d) L
 | [],acc,h=>by rw[List.append_nil]; rfl
 | (x,v)::d,acc,h=>by
  refine e1 (h.ks (x,v) (List.mem_append.mpr (.inr (List.mem_cons_self ..)))) fun s e=>?_
  cases (e:x=.str s)
  show oT (aS (.str s) v acc) (dL d++L)=_
  have n:.str s ∉ acc.map (·.1):=fun m=>by
   have w:=h.nd
   rw[List.map_append]at w
   exact(List.nodup_append.mp w).2.2 _ m _ (List.mem_cons_self ..) rfl
  have ea:acc++(.str s,v)::d=acc++[(.str s,v)]++d:=by rw[List.append_assoc]; rfl
  refine rwS (xF n) (rwS ea ?_)
  exact rA (ea▸h)
theorem tR:∀{ps:List (Nat × V)} {d:Env},(ext d ps).length≤d.length+ps.length
 | [],_=>Nat.le_refl _
 | p::ps,d=>Nat.le_trans (tR (ps:=ps) (d:=aS (.str p.1) p.2 d)) (by rw[List.length_cons,Nat.add_comm ps.length,← Nat.add_assoc]; exact Nat.add_le_add_right gN _)
theorem aKv{d:Env}{σ:St}(h:d.length≤aU):biE σ .items [.dict d]=some (.list (dL d)):=if_pos h
theorem aMg{d:Env}{ps:List (Nat × V)}:(dL d++mP ps).length=d.length+ps.length:=by
 delta dL mP; rw[List.length_append,List.length_map,List.length_map]
theorem vK{d:Env}{ps:List (Nat × V)}{σ:St}(h:Dk d)(hl:d.length+ps.length≤aU):biE σ .dict [.list (dL d++mP ps)]=some (.dict (ext d ps)):=by
 show ((cR (dL d++mP ps)).bind (oT [])).map V.dict=_
 rw[fC (aMg (d:=d) (ps:=ps)▸hl),Option.bind_some,rA (acc:=[]) (d:=d) h,List.nil_append,pZ]; rfl
theorem xI{α:Type}{st:St→Bool}{bnd:V→aP→Option aP}{body:aP→St→(Out→Prop)→Prop}{k:Out→Prop}(g:α→V)(J:List α→aP→St→Prop)(hst:∀l ρ σ,J l ρ σ→st σ=true)
  (H:∀a r ρ σ,J (a::r) ρ σ→∃ρ',bnd (g a) ρ=some ρ'∧∀k':Out→Prop,(∀ρ'' σ'',J r ρ'' σ''→k' (.next ρ'' σ''))→body ρ' σ k')
  (z:∀ρ σ,J [] ρ σ→k (.next ρ σ)):∀(l:List α) (ρ:aP) (σ:St),J l ρ σ→dP st bnd body (l.map g) ρ σ k
 | [],ρ,σ,j=>cA (hst _ _ _ j) (z ρ σ j)
 | a::r,ρ,σ,j=>cA (hst _ _ _ j) (by
  refine e12 (H a r ρ σ j) fun ρ' e h=>?_
  exact aF ρ' e (h _ fun ρ'' σ'' j'=>xI g J hst H z r ρ'' σ'' j'))
noncomputable def aQ(s:Nat)(d:Env)(i:Int):Env:=aS (.str s) (.list [bS i]) d
theorem aPq{d:Env}{s:Nat}{i:Int}{σ:St}(h:Dk d)(hl:d.length+1≤aU):biE σ .dict [.list (dL d++[.tup [.str s,.list [bS i]]])]=some (.dict (aQ s d i)) :=
 vK (ps:=[(s,.list [bS i])]) h hl
section
variable{σ:St}{T:TabK}{s:Nat}{l:List Int}{W:List Env}
end
section
variable{σ:St}{T:TabK}{s m n:Nat}{W:List Env}{R:Env→List Int}{w t v dom:V}{K:V→St→Prop}{k:Out→Prop}{e:Env}
noncomputable def gO(s:Nat)(R:Env→List Int)(W:List Env):List Env:=W.flatMap fun d=>(R d).map fun i=>aQ s d i
theorem aEp:(W.flatMap fun d=>(R d).map fun i=>V.dict (aQ s d i))=(gO s R W).map V.dict:=by
 delta gO; refine rwS List.map_flatMap ?_
 refine congrArg (List.flatMap · W) (funext fun d=>?_)
 refine rwS List.map_map ?_; rfl
noncomputable def aTh:S:=.asg (.name 5) (.comp (.gen (.one 8) (.val (.var 5)) [] (.gen (.one 9) (.val (.call 88 [(.var 7),(.var 8),(.var 2)])) [] (.elt (.bi .dict [(.bin .add (.bi .items [(.var 8)]) (.list [(.tup [(.var 6),(.list [(.var 9)])])]))])))))
theorem aOc{x0 x1 x3 x4 x8 x9 x10 x11:Option V}(hW:W.length≤100)(hd:∀d∈W,Dk d∧d.length≤100)(hR:∀d,At1 (R d))(h:∀d∈W,TdT T dom d w (.list (aJ (R d))))
  (z:k (.next [x0,x1,some w,x3,x4,some (.list ((gO s R W).map V.dict)),some (.str s),some dom,x8,x9,x10,x11] σ)) :
  kSs prog T [aTh] [x0,x1,some w,x3,x4,some (.list (W.map V.dict)),some (.str s),some dom,x8,x9,x10,x11] σ k:=by
 conv=>whnf
 refine iZ (α:=Env) V.dict (fun d=>(R d).map fun i=>V.dict (aQ s d i)) (σ=·) 3 (by rw[List.length_nil,Nat.zero_add]; exact Nat.le_trans (Nat.mul_le_mul_right 3 hW) (by decide)) rfl (fun _ _=>rfl) (fun d=>by rw[List.length_map]; exact(hR d).len) (fun d md=>⟨_,rfl,fun σ1 ds kk e q zz=>?_⟩) fun σ' e=>?_
 ·subst e
  conv=>whnf
  refine h d md _ _ ?_
  conv=>whnf
  refine iZ (α:=Int) bS (fun i=>[V.dict (aQ s d i)]) (σ=·) 1 (by rw[Nat.mul_one]; exact Nat.le_trans (Nat.add_le_add_left (hR d).len _) q) rfl (fun _ _=>rfl) (fun _=>Nat.le_refl 1) (fun i mi=>⟨_,rfl,fun σ2 ds2 kk2 e q2 zz2=>?_⟩) fun σ' e=>e▸(kY (h:=fun i=>V.dict (aQ s d i)) (R d))▸zz _ rfl
  subst e
  have hl:=(hd d md).2
  conv=>whnf
  refine aF _ (aKv (Nat.le_trans hl (by decide))) ?_
  conv=>whnf
  refine aF _ (oY (by refine rwS List.length_append ?_; delta dL; rw[List.length_map]; exact Nat.le_trans (Nat.add_le_add_right hl _) (by show 100+1≤aU; decide))) ?_
  conv=>whnf
  refine aF _ (aPq (hd d md).1 (Nat.le_trans (Nat.add_le_add_right hl _) (by decide))) ?_
  exact cA (le1 q2) (zz2 _ rfl)
 ·subst e
  rw[List.nil_append,aEp]
  exact z
end
noncomputable abbrev aJu:Nat:=510173642752110
noncomputable abbrev Dcl:=Nat × V × (Env→List Int)
noncomputable def nL(W:List Env)(ps:List Dcl):List Env:=ps.foldl (fun W p=>gO p.1 p.2.2 W) W
noncomputable def OpW(m:Nat)(w:V):List Env→List Dcl→Prop
 | W,[]=>W.length≤100
 | W,p::r=>(W.length≤100∧(∀d∈W,Dk d∧d.length≤100))∧((∀d,At1 (p.2.2 d))∧((∀d∈W,Td m p.2.1 d w (.list (aJ (p.2.2 d))))∧OpW m w (gO p.1 p.2.2 W) r))
noncomputable def fT(l:List Int):Int:=l.foldl (· + ·) 0
theorem xQ:∀(l:List Int) (a:Int),yF a (l.map V.int)=some (.int (l.foldl (· + ·) a))
 | [],a=>rfl
 | x::l,a=>xQ l (a+x)
noncomputable def aPw(ps:List Dcl)(b:V):V:=.tup [.str aJu,.tup (ps.map fun p=>.tup [.str p.1,p.2.1]),b]
section
variable{σ:St}{T:TabK}{s m n:Nat}{W:List Env}{w t v b:V}{K:V→St→Prop}{k:Out→Prop}{e:Env}{ps:List Dcl}{f:Env→Int}
theorem aHa(hp:OpW m w [e] ps)(hb:∀d∈nL [e] ps,Td m b d w (.int (f d))):Td (m+1) (aPw ps b) e w (.int (fT ((nL [e] ps).map f))):=Td.of fun n hn σ K z=>by
 have hb:=fun d md=>(hb d md).tk hn
 have hp:∀W,W=[e]→OpW m w W ps:=fun W e=>e▸hp
 have st:∀(ps:List Dcl) (W:List Env),OpW m w W ps→∀p r,ps=p::r→((W.length≤100∧(∀d∈W,Dk d∧d.length≤100))∧((∀d,At1 (p.2.2 d))∧((∀d∈W,TdT ⟨aE prog n⟩ p.2.1 d w (.list (aJ (p.2.2 d))))∧OpW m w (gO p.1 p.2.2 W) r))):=fun ps W h p r e=>by
  refine nnG fun nG=>?_; subst e
  refine nG ?_; exact⟨h.1,h.2.1,fun d md=>(h.2.2.1 d md).tk hn,h.2.2.2⟩
 generalize TabK.mk (aE prog n)=T at hb st ⊢
 have fin:∀(x6 x7:Option V),(nL [e] ps).length≤100→kSs prog T [.ret (.bi .sum [.comp (.gen (.one 10) (.val (.var 5)) [] (.elt (.call 88 [(.item (.var 0) (.cst (.int 2))),(.var 10),(.var 2)])))])] [some (aPw ps b),some (.dict e),some w,some (.str aJu),none,some (.list ((nL [e] ps).map V.dict)),x6,x7,none,none,none,none] σ (cG K):=by
  intro x6 x7 hl
  conv=>whnf
  refine cP (α:=Env) V.dict (fun d=>V.int (f d)) (Nat.le_trans hl (by decide)) rfl (fun d md=>⟨_,rfl,fun ds kk b zz=>?_⟩) ?_
  ·conv=>whnf
   refine hb d md _ _ ?_
   exact cA (le1 b) zz
  conv=>whnf
  refine aF (.int (fT ((nL [e] ps).map f))) (by
   show yF 0 ((nL [e] ps).map fun d=>V.int (f d))=_
   have w:=xQ ((nL [e] ps).map f) 0
   rw[List.map_map]at w
   exact w) ?_
  exact z
 conv=>whnf
 refine xI (α:=Dcl) (fun p=>.tup [.str p.1,p.2.1]) (fun r ρ σ'=>σ'=σ∧∃(W:List Env) (x6 x7:Option V),ρ=[some (aPw ps b),some (.dict e),some w,some (.str aJu),none,some (.list (W.map V.dict)),x6,x7,none,none,none,none]∧(OpW m w W r∧nL W r=nL [e] ps)) (fun _ _ _ _=>rfl) (fun p r ρ σ' j=>?_) (fun ρ σ' j=>?_) ps _ σ ⟨rfl,[e],none,none,rfl,hp _ rfl,rfl⟩
 ·refine nnG fun nG=>?_; obtain⟨rfl,W,x6,x7,rfl,h,eW⟩:=j
  refine e04 (st _ W h p r rfl) fun h1 h2 h3 h4=>?_
  refine nG ?_; exact⟨_,rfl,fun k' hk=>aOc h1.1 h1.2 h2 h3 (hk _ _ ⟨rfl,_,_,_,rfl,h4,eW⟩)⟩
 ·refine nnG fun nG=>?_; obtain⟨rfl,W,x6,x7,rfl,h,eW⟩:=j
  have eW:W=nL [e] ps:=eW
  subst eW
  refine nG ?_; exact fin x6 x7 h
end
noncomputable def aBc:S:=.asg (.name 12) (.comp (.gen (.one 14) (.val (.var 12)) [] (.gen (.one 15) (.val (.var 11)) [] (.elt (.bi .dict [(.bin .add (.bi .items [(.var 14)]) (.list [(.tup [(.var 13),(.list [(.var 15)])])]))])))))
noncomputable def oX:S:=.for_ (.one 13) (.val (.var 6)) [aBc]
noncomputable abbrev Way:=V × Env
noncomputable def WOk(σ:St)(p:Way):Prop:=aO σ p.1=some p.2∧(Dk p.2∧p.2.length≤100)
noncomputable def nM(s:Nat)(l:List Int)(W:List Way):List Way:=W.flatMap fun d=>l.map fun i=>(V.dict (aQ s d.2 i),aQ s d.2 i)
section
variable{σ:St}{T:TabK}{s m n:Nat}{W:List Way}{l:List Int}{w t v b:V}{K:V→St→Prop}{k:Out→Prop}{e:Env}{ns:List Nat}
theorem aFl:(W.flatMap fun d=>l.map fun i=>V.dict (aQ s d.2 i))=(nM s l W).map (·.1):=by
 delta nM; refine rwS List.map_flatMap ?_
 refine congrArg (List.flatMap · W) (funext fun d=>?_)
 refine rwS List.map_map ?_; rfl
theorem aCl{ev:V}{D:Env}(e:aO σ ev=some D)(hl:D.length≤aU):biE σ .items [ev]=some (.list (dL D)):=by
 show (aO σ ev).bind _=_
 refine rwS e ?_
 exact if_pos hl
theorem aDx{x0 x1 x2 x3 x4 x5 x6 x7 x8 x9 x10 x14 x15 x16:Option V}(hW:W.length≤100)(hd:∀d∈W,WOk σ d)(hl:At1 l)
  (z:k (.next [x0,x1,x2,x3,x4,x5,x6,x7,x8,x9,x10,some (.list (aJ l)),some (.list ((nM s l W).map (·.1))),some (.str s),x14,x15,x16] σ)) :
  kSs prog T [aBc] [x0,x1,x2,x3,x4,x5,x6,x7,x8,x9,x10,some (.list (aJ l)),some (.list (W.map (·.1))),some (.str s),x14,x15,x16] σ k:=by
 conv=>whnf
 refine iZ (α:=Way) (fun d=>d.1) (fun d=>l.map fun i=>V.dict (aQ s d.2 i)) (σ=·) 3 (by rw[List.length_nil,Nat.zero_add]; exact Nat.le_trans (Nat.mul_le_mul_right 3 hW) (by decide)) rfl (fun _ _=>rfl) (fun d=>by rw[List.length_map]; exact hl.len) (fun d md=>⟨_,rfl,fun σ1 ds kk e q zz=>?_⟩) fun σ' e=>?_
 ·subst e
  conv=>whnf
  refine iZ (α:=Int) bS (fun i=>[V.dict (aQ s d.2 i)]) (σ=·) 1 (by rw[Nat.mul_one]; exact Nat.le_trans (Nat.add_le_add_left hl.len _) q) rfl (fun _ _=>rfl) (fun _=>Nat.le_refl 1) (fun i mi=>⟨_,rfl,fun σ2 ds2 kk2 e q2 zz2=>?_⟩) fun σ' e=>e▸(kY (h:=fun i=>V.dict (aQ s d.2 i)) l)▸zz _ rfl
  subst e
  have hl:=(hd d md).2.2
  conv=>whnf
  refine aF _ (aCl (hd d md).1 (Nat.le_trans hl (by decide))) ?_
  conv=>whnf
  refine aF _ (oY (by refine rwS List.length_append ?_; delta dL; rw[List.length_map]; exact Nat.le_trans (Nat.add_le_add_right hl _) (by show 100+1≤aU; decide))) ?_
  conv=>whnf
  refine aF _ (aPq (hd d md).2.1 (Nat.le_trans (Nat.add_le_add_right hl _) (by decide))) ?_
  exact cA (le1 q2) (zz2 _ rfl)
 ·subst e
  rw[List.nil_append,aFl]
  exact z
noncomputable def nmW(l:List Int)(W:List Way)(ns:List Nat):List Way:=ns.foldl (fun W s=>nM s l W) W
noncomputable def NmW(σ:St)(l:List Int):List Way→List Nat→Prop
 | W,[]=>True
 | W,s::r=>(W.length≤100∧(∀d∈W,WOk σ d))∧NmW σ l (nM s l W) r
theorem aNn{x0 x1 x2 x3 x4 x5 x7 x8 x9 x10 x13 x14 x15 x16:Option V}(hl:At1 l)(hp:NmW σ l W ns)
  (z:∀x13,k (.next [x0,x1,x2,x3,x4,x5,some (.tup (ns.map V.str)),x7,x8,x9,x10,some (.list (aJ l)),some (.list ((nmW l W ns).map (·.1))),x13,x14,x15,x16] σ)) :
  kS prog T oX [x0,x1,x2,x3,x4,x5,some (.tup (ns.map V.str)),x7,x8,x9,x10,some (.list (aJ l)),some (.list (W.map (·.1))),x13,x14,x15,x16] σ k:=by
 conv=>whnf
 refine xI (α:=Nat) V.str (fun r ρ σ'=>σ'=σ∧∃(W':List Way) (x13:Option V),ρ=[x0,x1,x2,x3,x4,x5,some (.tup (ns.map V.str)),x7,x8,x9,x10,some (.list (aJ l)),some (.list (W'.map (·.1))),x13,x14,x15,x16]∧(NmW σ l W' r∧nmW l W' r=nmW l W ns)) (fun _ _ _ _=>rfl) (fun s r ρ σ' j=>?_) (fun ρ σ' j=>?_) ns _ σ ⟨rfl,W,x13,rfl,hp,rfl⟩
 ·obtain⟨rfl,W',x13,rfl,h,eW⟩:=j
  exact⟨_,rfl,fun k' hk=>aDx h.1.1 h.1.2 hl (hk _ _ ⟨rfl,_,_,rfl,h.2,eW⟩)⟩
 ·refine nnG fun nG=>?_; obtain⟨rfl,W',x13,rfl,h,eW⟩:=j
  have eW:W'=nmW l W ns:=eW
  subst eW
  refine nG ?_; exact z x13
end
noncomputable def oQ:S:=.asg (.name 9) (.bin .add (.var 9) (.comp (.gen (.one 16) (.val (.var 12)) [(.or [(.not (.var 5)),(.cmp .ne (.item (.var 16) (.cst (.str 121))) (.item (.var 16) (.cst (.str 122))))])] (.elt (.var 16)))))
noncomputable def zL(ap:Bool)(d:Env):Bool:=!ap || !V.beq ((aK (.str 121) d).getD .none) ((aK (.str 122) d).getD .none)
noncomputable def aGm(ap:Bool)(d:Env):Prop:=ap=true→∃i j,aK (.str 121) d=some (.list [bS i])∧aK (.str 122) d=some (.list [bS j])
section
variable{σ:St}{T:TabK}{W:List Way}{acc:List V}{k:Out→Prop}{ap:Bool}
theorem aJz{x0 x1 x2 x3 x4 x6 x7 x8 x10 x11 x13 x14 x15 x16:Option V}(hW:W.length≤100)(ha:acc.length≤1000)(hd:∀d∈W,WOk σ d∧aGm ap d.2)
  (z:k (.next [x0,x1,x2,x3,x4,some (.bool ap),x6,x7,x8,some (.list (acc++(W.filter fun d=>zL ap d.2).map (·.1))),x10,x11,some (.list (W.map (·.1))),x13,x14,x15,x16] σ)) :
  kS prog T oQ [x0,x1,x2,x3,x4,some (.bool ap),x6,x7,x8,some (.list acc),x10,x11,some (.list (W.map (·.1))),x13,x14,x15,x16] σ k:=by
 conv=>whnf
 refine eM (α:=Way) (fun d=>d.1) (fun d=>d.1) (fun d=>zL ap d.2) (Nat.le_trans hW (by decide)) rfl (fun d md=>⟨_,rfl,fun ds kk b zz=>?_⟩) ?_
 ·cases ap with
  | false=>exact cA (le1 b) zz
  | true =>
   refine nnG fun nG=>?_; refine e02 (hd d md) fun h1 h2=>?_
   refine e22 (h2 rfl) fun i j e1 e2=>?_
   refine nG ?_; have zz:kk (ds++cond (!V.beq ((aK (.str 121) d.2).getD .none) ((aK (.str 122) d.2).getD .none)) [d.1] []) σ:=zz
   rw[e1,e2]at zz
   conv=>whnf
   refine aF _ (qY h1.1 e1) ?_
   conv=>whnf
   refine aF _ (qY h1.1 e2) ?_
   conv=>whnf
   show iK (!V.beq (.list [bS i]) (.list [bS j])) _ _
   replace zz:kk (ds++cond (!V.beq (.list [bS i]) (.list [bS j])) [d.1] []) σ:=zz
   generalize (!V.beq (.list [bS i]) (.list [bS j]))=t at zz ⊢
   cases t with
   | true=>exact cA (le1 b) zz
   | false=>exact ap0 (p:=fun l=>kk l σ) zz
 conv=>whnf
 refine aF _ (oY (by rw[List.length_append,List.length_map]; exact Nat.le_trans (Nat.add_le_add ha (Nat.le_trans (List.length_filter_le ..) hW)) (by show 1000+100≤aU; decide))) ?_
 exact z
end
noncomputable def aGa:S:=.asgTs false [11,12] [(.call 86 [(.var 8),(.var 10),(.var 2)]),(.list [(.var 10)])]
section
variable{σ:St}{T:TabK}{d:Way}{l:List Int}{w dom:V}{acc:List V}{ns:List Nat}{k:Out→Prop}{ap:Bool}
noncomputable def aEu(ap:Bool)(l:List Int)(ns:List Nat)(d:Way):List Way:=(nmW l [d] ns).filter fun p=>zL ap p.2
theorem aJk{x0 x1 x3 x4 x7 x11 x12 x13 x14 x15 x16:Option V}(hl:At1 l)(hN:NrT T dom d.2 w (.list (aJ l)))(hd:aO σ d.1=some d.2)(ha:acc.length≤1000)(hc:(nmW l [d] ns).length≤100)
  (hn:∀σ',σ <+: σ'→NmW σ' l [d] ns∧∀p∈nmW l [d] ns,WOk σ' p∧aGm ap p.2)
  (z:∀σ' x11 x12 x13,σ <+: σ'→k (.next [x0,x1,some w,x3,x4,some (.bool ap),some (.tup (ns.map V.str)),x7,some dom,some (.list (acc++(aEu ap l ns d).map (·.1))),some d.1,x11,x12,x13,x14,x15,x16] σ')) :
  kSs prog T [aGa,oX,oQ] [x0,x1,some w,x3,x4,some (.bool ap),some (.tup (ns.map V.str)),x7,some dom,some (.list acc),some d.1,x11,x12,x13,x14,x15,x16] σ k:=by
 have go:∀σ',σ <+: σ'→kSs prog T [oX,oQ] [x0,x1,some w,x3,x4,some (.bool ap),some (.tup (ns.map V.str)),x7,some dom,some (.list acc),some d.1,some (.list (aJ l)),some (.list ([d].map (·.1))),x13,x14,x15,x16] σ' k:=fun σ' p =>
  aNn hl (hn σ' p).1 fun x13=>aJz hc ha (hn σ' p).2 (z σ' _ _ _ p)
 generalize [oX,oQ]=X at go ⊢
 conv=>whnf
 refine hN σ d.1 _ hd fun σ' p=>?_
 exact go σ' p
end
noncomputable def uR:S:=.for_ (.one 10) (.val (.var 3)) [aGa,oX,oQ]
section
variable{σ:St}{T:TabK}{W:List Way}{R:Env→List Int}{w dom:V}{ns:List Nat}{k:Out→Prop}{ap:Bool}
structure LapOk(T:TabK)(σ:St)(ap:Bool)(R:Env→List Int)(ns:List Nat)(w dom:V)(d:Way):Prop where
 at1:At1 (R d.2)
 nr:NrT T dom d.2 w (.list (aJ (R d.2)))
 as:aO σ d.1=some d.2
 le:(nmW (R d.2) [d] ns).length≤100
 nx:∀σ',σ <+: σ'→NmW σ' (R d.2) [d] ns∧∀p∈nmW (R d.2) [d] ns,WOk σ' p∧aGm ap p.2
theorem LapOk.pre{σ':St}{d:Way}(h:LapOk T σ ap R ns w dom d)(p:σ <+: σ'):LapOk T σ' ap R ns w dom d :=
 ⟨h.at1,h.nr,eH h.as p,h.le,fun σ2 p2=>h.nx σ2 (p.trans p2)⟩
noncomputable def dI(ap:Bool)(R:Env→List Int)(ns:List Nat)(W:List Way):List Way:=W.flatMap fun d=>aEu ap (R d.2) ns d
theorem aMm{x0 x1 x4 x7 x10 x11 x12 x13 x14 x15 x16:Option V}(hb:(dI ap R ns W).length≤1000)(hW:∀d∈W,LapOk T σ ap R ns w dom d)
  (z:∀σ' x10 x11 x12 x13,σ <+: σ'→k (.next [x0,x1,some w,some (.list (W.map (·.1))),x4,some (.bool ap),some (.tup (ns.map V.str)),x7,some dom,some (.list ((dI ap R ns W).map (·.1))),x10,x11,x12,x13,x14,x15,x16] σ')) :
  kS prog T uR [x0,x1,some w,some (.list (W.map (·.1))),x4,some (.bool ap),some (.tup (ns.map V.str)),x7,some dom,some (.list []),x10,x11,x12,x13,x14,x15,x16] σ k:=by
 conv=>whnf
 refine xI (α:=Way) (fun d=>d.1) (fun r ρ σ'=>σ <+: σ'∧∃(pre:List Way) (x10 x11 x12 x13:Option V),ρ=[x0,x1,some w,some (.list (W.map (·.1))),x4,some (.bool ap),some (.tup (ns.map V.str)),x7,some dom,some (.list (pre.map (·.1))),x10,x11,x12,x13,x14,x15,x16]∧(pre++dI ap R ns r=dI ap R ns W∧∀d∈r,LapOk T σ ap R ns w dom d)) (fun _ _ _ _=>rfl) (fun d r ρ σ' j=>?_) (fun ρ σ' j=>?_) W _ σ ⟨List.prefix_refl _,[],x10,x11,x12,x13,rfl,rfl,hW⟩
 ·refine nnG fun nG=>?_; obtain⟨p,pre,x10,x11,x12,x13,rfl,e,h⟩:=j
  refine nG ?_; have h1:=(h d (List.mem_cons_self ..)).pre p
  have e2:(pre++aEu ap (R d.2) ns d)++dI ap R ns r=dI ap R ns W:=by rw[List.append_assoc]; exact e
  have hl:(pre.map (fun x:Way=>x.1)).length≤1000:=by
   rw[List.length_map]
   have w:=congrArg List.length e
   rw[List.length_append]at w
   lia
  refine⟨_,rfl,fun k' hk=>aJk h1.at1 h1.nr h1.as hl h1.le h1.nx fun σ2 x11 x12 x13 p2=>?_⟩
  refine rwT List.map_append ?_
  exact hk _ _ ⟨p.trans p2,pre++aEu ap (R d.2) ns d,_,_,_,_,rfl,e2,fun d m=>h d (List.mem_cons_of_mem _ m)⟩
 ·obtain⟨p,pre,x10,x11,x12,x13,rfl,e,h⟩:=j
  have e:pre=dI ap R ns W:=by refine rwT e ?_; exact(List.append_nil _).symm
  subst e
  exact z σ' _ _ _ _ p
end
structure Wd2 where
 ap:Bool
 ns:List Nat
 mk':Nat
 s:V
 R:Env→List Int
noncomputable def Wd2.v(d:Wd2):V:=gB d.ap d.ns d.mk' d.s
noncomputable def uX(T:TabK)(σ:St)(w:V):List Way→List Wd2→Prop
 | _,[]=>True
 | W,d::r=>((dI d.ap d.R d.ns W).length≤1000∧∀p∈W,LapOk T σ d.ap d.R d.ns w d.s p)∧uX T σ w (dI d.ap d.R d.ns W) r
noncomputable def jD(W:List Way)(ds:List Wd2):List Way:=ds.foldl (fun W d=>dI d.ap d.R d.ns W) W
section
variable{σ:St}{T:TabK}{W:List Way}{w ev:V}{D:Env}{ds:List Wd2}{K:V→St→Prop}
theorem aUi(h:uX T σ w [(ev,D)] ds)(z:∀σ',σ <+: σ'→K (.list ((jD [(ev,D)] ds).map (·.1))) σ'):kSs prog T iD.body (bH iD [.tup (ds.map Wd2.v),ev,w]) σ (cG K):=by
 conv=>whnf
 refine xI (α:=Wd2) Wd2.v (fun r ρ σ'=>σ <+: σ'∧∃(W:List Way) (x4 x5 x6 x7 x8 x9 x10 x11 x12 x13:Option V),ρ=[some (.tup (ds.map Wd2.v)),some ev,some w,some (.list (W.map (·.1))),x4,x5,x6,x7,x8,x9,x10,x11,x12,x13,none,none,none]∧(uX T σ w W r∧jD W r=jD [(ev,D)] ds)) (fun _ _ _ _=>rfl) (fun d r ρ σ' j=>?_) (fun ρ σ' j=>?_) ds _ σ ⟨List.prefix_refl _,[(ev,D)],none,none,none,none,none,none,none,none,none,none,rfl,h,rfl⟩
 ·refine nnG fun nG=>?_; obtain⟨p,W,x4,x5,x6,x7,x8,x9,x10,x11,x12,x13,rfl,h,e⟩:=j
  refine nG ?_; refine⟨_,rfl,fun k' hk=>?_⟩
  have go:∀k:Out→Prop,(∀σ2 x10 x11 x12 x13,σ' <+: σ2→k (.next [some (.tup (ds.map Wd2.v)),some ev,some w,some (.list (W.map (·.1))),some (.int 0),some (.bool d.ap),some (.tup (d.ns.map V.str)),some (.str d.mk'),some d.s,some (.list ((dI d.ap d.R d.ns W).map (·.1))),x10,x11,x12,x13,none,none,none] σ2)) →
    kS prog T uR [some (.tup (ds.map Wd2.v)),some ev,some w,some (.list (W.map (·.1))),some (.int 0),some (.bool d.ap),some (.tup (d.ns.map V.str)),some (.str d.mk'),some d.s,some (.list []),x10,x11,x12,x13,none,none,none] σ' k:=fun k z=>aMm h.1.1 (fun q m=>(h.1.2 q m).pre p) z
  show kSs prog T [.asg (.name 9) (.list []),uR,.asg (.name 3) (.var 9)] _ σ' k'
  generalize uR=Y at go ⊢
  conv=>whnf
  refine go _ fun σ2 x10 x11 x12 x13 p2=>?_
  exact hk _ _ ⟨p.trans p2,_,_,_,_,_,_,_,_,_,_,_,rfl,h.2,e⟩
 ·refine nnG fun nG=>?_; obtain⟨p,W,x4,x5,x6,x7,x8,x9,x10,x11,x12,x13,rfl,h,e⟩:=j
  have e:W=jD [(ev,D)] ds:=e
  subst e
  refine nG ?_; exact z σ' p
end
section
variable{w b:V}{D:Env}{ds:List Wd2}{f:Env→Int}{vs:List Int}{m:Nat}
theorem xY(hw:∀n,m≤n→∀(σ:St) (ev:V),aO σ ev=some D→uX ⟨aE prog n⟩ σ w [(ev,D)] ds)
  (hp:∀(σ:St) (ev:V),aO σ ev=some D→∀σ',σ <+: σ'→(jD [(ev,D)] ds).length≤100∧∀p∈jD [(ev,D)] ds,aO σ' p.1=some p.2∧Nr (m+1) b p.2 w (.int (f p.2)))
  (hv:∀ev,(jD [(ev,D)] ds).map (fun p=>f p.2)=vs):Nr (m+2) (eT (ds.map Wd2.v) b) D w (.int (fT vs)):=Nr.of fun n hn σ ev K e z=>by
 have h87:∀K':V→St→Prop,(∀σ',σ <+: σ'→K' (.list ((jD [(ev,D)] ds).map (·.1))) σ')→TabK.call ⟨aE prog n⟩ 87 [.tup (ds.map Wd2.v),ev,w] σ K':=fun K' z=>aN (d:=iD) (up1 hn) rfl rfl (aUi (hw (n - 1) (dn1 hn) σ ev e) z)
 have hq:∀σ',σ <+: σ'→(jD [(ev,D)] ds).length≤100∧∀p∈jD [(ev,D)] ds,aO σ' p.1=some p.2∧NrT ⟨aE prog n⟩ b p.2 w (.int (f p.2)):=fun σ' p=>⟨(hp σ ev e σ' p).1,fun q mq=>⟨((hp σ ev e σ' p).2 q mq).1,((hp σ ev e σ' p).2 q mq).2 n hn⟩⟩
 generalize TabK.mk (aE prog n)=T at h87 hq ⊢
 conv=>whnf
 refine h87 _ fun σ1 p1=>?_
 refine nnG fun nG=>?_; refine e02 (hq σ1 p1) fun hl hb=>?_
 refine nG ?_; conv=>whnf
 refine iZ (α:=Way) (fun p=>p.1) (fun p=>[V.int (f p.2)]) (σ1 <+: ·) 1 (by rw[List.length_nil,Nat.zero_add,Nat.mul_one]; exact Nat.le_trans hl (by decide)) (List.prefix_refl _) (fun _ _=>rfl) (fun _=>Nat.le_refl 1) (fun p mp=>⟨_,rfl,fun σ2 ds2 kk i q zz=>?_⟩) fun σ2 i=>?_
 ·conv=>whnf
  refine(hb p mp).2 σ2 p.1 _ (eH (hb p mp).1 i) fun σ3 p3=>?_
  exact cA (le1 q) (zz σ3 (i.trans p3))
 ·rw[List.nil_append,kY]
  conv=>whnf
  refine aF (.int (fT vs)) (by
   show yF 0 ((jD [(ev,D)] ds).map fun p=>V.int (f p.2))=_
   have w:=xQ ((jD [(ev,D)] ds).map fun p=>f p.2) 0
   rw[List.map_map]at w
   rw[hv ev]at w
   exact w) ?_
  exact z σ2 (p1.trans i)
end
noncomputable def own:V:=.tup [.int 0,.bool false,.tup [.str 103],.str 510173609197685,nmV 66]
noncomputable def aLy(nm par:Nat)(fl:List V):V:=.tup [.str 510173617586280,.int 0,.tup [.str nm],.bool false,.str 0,.str par,.tup [],.tup fl,.tup []]
noncomputable def pI:List V:=[aLy 66 0 [own],aLy 67 66 []]
noncomputable def nuV:Env:=[(.str 66,.int 0),(.str 67,.int 1),(.str 290271168299111,.int 2)]
noncomputable def opF(ct sp ht pk:Int):List (Nat × V):=[(91018014822433855916448552147567129127201744206719258460276,.loc 1),(2089024793972003303873052788,.none),(2050339269201387993285263476,.list pI),(9442840468706836533258501435379962347636,.dict nuV),(1934282215274345678596210804,.loc 10),(1934282344401593776985866357,.int ct),(2243767363446240513821245557,.int sp),(4259307989734766077997039554134133,.int ht),(1042241488765539319916,.int pk)]
noncomputable def aWu:St:=[.inst 2 [(8677204859181125939181893442046368153716,.loc 2),(4705521291157225747889372490891380,.loc 3),(4543261936956796822649674720608357,.loc 4),(9527910938742439441923968210238380703845,.loc 5),(87879469192763632568941775319736026401969400547484486336628,.loc 7)],.dict [(.str 66,aLy 66 0 [own]),(.str 67,aLy 67 66 [])],.list [.str 66,.str 67],.list [],.list [.str 66,.str 67],.list [],.list [.tup [.str 103,.str 66,.str 510173609197685,nmV 66,.int 0,.int (-1)]],.dead]
@[irreducible] noncomputable def stt (t:SObj) (ct sp ht pk:Int) (τ:St):St:=t::(aWu++(.inst 1 (opF ct sp ht pk)::.dict []::τ))
noncomputable def aLs:X:=.new 1 [(.new 2 [(.var 3)]),(.cst .none),(.var 3),(.dict [(.cst (.str 66)),(.cst (.int 0)),(.cst (.str 67)),(.cst (.int 1)),(.cst (.str 290271168299111)),(.cst (.int 2))])]
theorem aJy:∀(t:SObj) (n:Nat) (a0 a1 a2:Option V) (r:aP) (K:V→St→Prop),kE prog ⟨aE prog (n+8)⟩ aLs (a0::a1::a2::some (.list pI)::r) [t] K=K (.loc 9) (stt t 0 0 0 0 []) :=
 fun t n a0 a1 a2 r K=>by kernel_rfl!
noncomputable abbrev fHt:Nat:=4259307989734766077997039554134133
theorem eqn{k n f:Nat}{args:List V}{σ:St}{K:V→St→Prop}{p:Prop}(h:∀n,aE prog (n+k) f args σ K=p)(hn:k≤n)(hp:p):aE prog n f args σ K:=by
 refine e1 (Nat.exists_eq_add_of_le' hn) fun m e_1=>?_; subst e_1
 refine rwS (h m) ?_; exact hp
noncomputable abbrev uY:List Nat:=[66,67,103]
noncomputable def nmI(s:Nat):Int:=if s=66 then 0 else if s=67 then 1 else 2
noncomputable def lab(k c:Nat):Nat:=zV (zV (zV 0 k) 40) (fU (aCt c))
structure SF(st:Int→Int→Int→Int→St→St):Prop where
 op:∀{ct sp ht pk τ},(st ct sp ht pk τ)[9]?=some (.inst 1 (opF ct sp ht pk))
 set:∀{ct sp ht pk τ ct' sp' ht' pk'},(st ct sp ht pk τ).set 9 (.inst 1 (opF ct' sp' ht' pk'))=st ct' sp' ht' pk' τ
 cal:∀{ct sp ht pk τ},(st ct sp ht pk τ)[10]?=some (.dict [])
 tau:∀{ct sp ht pk τ i},(st ct sp ht pk τ)[11+i]?=τ[i]?
 tset:∀{ct sp ht pk τ i o},(st ct sp ht pk τ).set (11+i) o=st ct sp ht pk (τ.set i o)
 len:∀{ct sp ht pk τ},(st ct sp ht pk τ).length=11+τ.length
 push:∀{ct sp ht pk τ o},st ct sp ht pk τ++[o]=st ct sp ht pk (τ++[o])
 plc:∀s∈uY,∀n ct sp ht pk τ K,aE prog (n+4) 8 [.loc 9,.str s] (st ct sp ht pk τ) K=K (.int (-1)) (st ct sp ht pk τ)
 plo:∀s∈gE,∀n ct sp ht pk τ K,aE prog (n+4) 8 [.loc 9,.str s] (st ct sp ht pk τ) K=K (.int 2) (st ct sp ht pk τ)
 nam:∀s∈uY,∀n ct sp ht pk τ K,aE prog (n+4) 9 [.loc 9,.str s,.int 0] (st ct sp ht pk τ) K=K (kK (nmI s)) (st ct sp ht pk τ)
 art:∀i∈[(0:Int),1],∀n ct sp ht pk τ K,aE prog (n+5) 13 [.loc 9,kK i] (st ct sp ht pk τ) K=K (.int 1) (st ct sp ht pk τ)
 fr:∀k∈aM,∀c∈List.range 12,∀n sp ht pk τ K,aE prog (n+1) 4 [.loc 9,.str k] (st (c:Nat) sp ht pk τ) K=K (.str (lab k (c+1))) (st (c+1:Nat) sp ht pk τ)
theorem sO(t:SObj):SF (stt t) where
 op:=by intros; delta stt; rfl
 set:=by intros; delta stt; rfl
 cal:=by intros; delta stt; rfl
 tau:=by intro ct sp ht pk τ i; delta stt; rw[Nat.add_comm]; rfl
 tset:=by intro ct sp ht pk τ i o; delta stt; rw[Nat.add_comm]; rfl
 len:=by intro ct sp ht pk τ; delta stt; rw[Nat.add_comm]; rfl
 push:=by intro ct sp ht pk τ o; delta stt; rfl
 plc:=by repeat (first | exact List.forall_mem_nil _ | refine List.forall_mem_cons.mpr ⟨fun n ct sp ht pk τ K=>by kernel_rfl!,?_⟩)
 plo:=by repeat (first | exact List.forall_mem_nil _ | refine List.forall_mem_cons.mpr ⟨fun n ct sp ht pk τ K=>by kernel_rfl!,?_⟩)
 nam:=by repeat (first | exact List.forall_mem_nil _ | refine List.forall_mem_cons.mpr ⟨fun n ct sp ht pk τ K=>by kernel_rfl!,?_⟩)
 art:=by repeat (first | exact List.forall_mem_nil _ | refine List.forall_mem_cons.mpr ⟨fun n ct sp ht pk τ K=>by kernel_rfl!,?_⟩)
 fr:=by
  repeat (first | exact List.forall_mem_nil _ | refine List.forall_mem_cons.mpr ⟨(show ∀c∈[0,1,2,3,4,5,6,7,8,9,10,11],_ by repeat (first | exact List.forall_mem_nil _ | refine List.forall_mem_cons.mpr ⟨fun n sp ht pk τ K=>by kernel_rfl!,?_⟩)),?_⟩)
section
variable{st:Int→Int→Int→Int→St→St}{τ:St}{ct sp ht pk x:Int}{f m n k d:Nat}{v e nd:V}{K:V→St→Prop}
theorem dA(F:SF st)(h:gD (opF ct sp ht pk) f=some v):aPd (.loc 9) f (st ct sp ht pk τ)=some v:=by
 show aVi f (st ct sp ht pk τ)[9]?=_
 refine rwS F.op ?_; exact h
theorem sG(F:SF st){ct' sp' ht' pk':Int}(h:mD (opF ct sp ht pk) f v=opF ct' sp' ht' pk'):yJ (.loc 9) f v (st ct sp ht pk τ)=some (st ct' sp' ht' pk' τ):=by
 show nZ f v 9 (st ct sp ht pk τ) (st ct sp ht pk τ)[9]?=_
 refine rwS F.op ?_
 show some ((st ct sp ht pk τ).set 9 (.inst 1 (mD (opF ct sp ht pk) f v)))=_
 exact rwS h (rwS F.set rfl)
theorem aI(F:SF st)(h:(gD (opF ct sp ht pk) m).isSome=false)(hm:prog.meth 1 m=some f):oV prog (.loc 9) m (st ct sp ht pk τ)=some (9,f):=by
 show mY prog 9 m (st ct sp ht pk τ)[9]?=_
 refine rwS F.op ?_
 show (if (gD (opF ct sp ht pk) m).isSome=true then none else (prog.meth 1 m).map fun f=>(9,f))=_
 refine rwS h (rwS hm ?_); rfl
theorem aKy(F:SF st){a b:Int}{T:TabK}(h1:sp+a≤20000)(h2:ht+b≤100)(hk:K .none (st ct (sp+a) ht (if pk<ht+b then ht+b else pk) τ)):kSs prog T dJ.body (bH dJ [.loc 9,.int a,.int b]) (st ct sp ht pk τ) (cG K):=by
 conv=>whnf
 refine aF _ (dA F rfl) ?_
 conv=>whnf
 refine aF _ (sG F (ct':=ct) (sp':=sp+a) (ht':=ht) (pk':=pk) rfl) ?_
 conv=>whnf
 refine aF _ (dA F rfl) ?_
 conv=>whnf
 refine aF _ (dA F rfl) ?_
 conv=>whnf
 refine aF _ (sG F (ct':=ct) (sp':=sp+a) (ht':=ht) (pk':=if pk<ht+b then ht+b else pk) rfl) ?_
 conv=>whnf
 refine aF _ (dA F rfl) ?_
 conv=>whnf
 refine kJ (decide_eq_false (Int.not_lt.mpr h1)) ?_
 conv=>whnf
 refine aF _ (dA F rfl) ?_
 conv=>whnf
 refine kJ (decide_eq_false (Int.not_lt.mpr h2)) ?_
 exact hk
theorem kO(F:SF st){a b:Int}(hn:1≤n)(h1:sp+a≤20000)(h2:ht+b≤100)(hk:K .none (st ct (sp+a) ht (if pk<ht+b then ht+b else pk) τ)):aE prog n 16 [.loc 9,.int a,.int b] (st ct sp ht pk τ) K :=
 aN (d:=dJ) hn rfl rfl (aKy F h1 h2 hk)
end
noncomputable def nA(op:Nat)(as:List V):V:=.tup [.str op,.tup as]
noncomputable abbrev eX:V:=nA 0 []
noncomputable def Ev(τ:St)(ev:V)(D:Env):Prop:=ev=.dict D∨∃i,ev=.loc (11+i)∧τ[i]?=some (.dict D)
noncomputable def yY(D:Env):Prop:=∀s∈uY++gE,aK (.str s) D=none
section
variable{st:Int→Int→Int→Int→St→St}{τ τ':St}{ct sp ht pk x:Int}{f m n k d op s:Nat}{v e nd ev r a b hh:V}{K:V→St→Prop}{D:Env}{T:TabK}
theorem aAq{σ:St}(e:aO σ ev=some D)(h:aK (.str k) D=none):wE σ .in_ (.str k) ev=some false:=(mN e).trans (by refine rwS h ?_; rfl)
theorem aHt{σ:St}(e:aO σ ev=some D)(h:aK (.str k) D=some v):wE σ .in_ (.str k) ev=some true:=(mN e).trans (by refine rwS h ?_; rfl)
theorem aOs{σ:St}(e:aO σ ev=some D)(h:aK (.str k) D=none):wE σ .notIn (.str k) ev=some true:=(congrArg (Option.map (!·)) (aAq e h)).trans rfl
theorem Ev.pre(h:Ev τ ev D)(p:τ <+: τ'):Ev τ' ev D:=h.imp id fun ⟨i,e,h⟩=>⟨i,e,fY p h⟩
theorem Ev.as(h:Ev τ ev D)(F:SF st):aO (st ct sp ht pk τ) ev=some D:=by
 rcases h with rfl | ⟨i,rfl,e⟩
 ·rfl
 ·show tW (st ct sp ht pk τ)[11+i]?=_
  refine rwS F.tau (rwS e ?_); rfl
noncomputable def BgT(st:Int→Int→Int→Int→St→St)(T:TabK)(D:Env)(nd r:V):Prop:=∀(ct sp ht pk:Int) (τ:St) (ev:V) (K:V→St→Prop),Ev τ ev D→K r (st ct sp ht pk τ)→T.call 23 [.loc 9,nd,ev] (st ct sp ht pk τ) K
noncomputable def BgB(st:Int→Int→Int→Int→St→St)(T:TabK)(D:Env)(nd r:V):Prop:=∀(ct sp ht pk:Int) (τ:St) (ev:V) (K:V→St→Prop),Ev τ ev D→K r (st ct sp ht pk τ)→kSs prog T dG.body (bH dG [.loc 9,nd,ev]) (st ct sp ht pk τ) (cG K)
noncomputable def Bg(st:Int→Int→Int→Int→St→St)(d:Nat)(D:Env)(nd r:V):Prop:=∀n,d≤n→BgT st ⟨aE prog n⟩ D nd r
theorem Bg.of(h:∀n,d≤n→BgB st ⟨aE prog n⟩ D nd r):Bg st (d+1) D nd r:=fun n hn ct sp ht pk τ ev K e k=>aN (d:=dG) (up1 hn) rfl rfl (h (n - 1) (dn1 hn) ct sp ht pk τ ev K e k)
theorem Bg.up{d':Nat}(h:Bg st d D nd r)(e:d≤d'):Bg st d' D nd r:=fun n hn=>h n (Nat.le_trans e hn)
theorem yO(F:SF st)(hs:s∈uY)(hD:yY D):Bg st 5 D (nmV s) eX:=Bg.of fun n hn ct sp ht pk τ ev K e hk=>by
 have h8:∀K:V→St→Prop,K (.int (-1)) (st ct sp ht pk τ)→TabK.call ⟨aE prog n⟩ 8 [.loc 9,.str s] (st ct sp ht pk τ) K:=fun K hk=>eqn (F.plc s hs · ct sp ht pk τ K) hn hk
 generalize TabK.mk (aE prog n)=T at h8 ⊢
 conv=>whnf
 refine aF _ (aOs (e.as F) (hD s (List.mem_append.mpr (.inl hs)))) ?_
 conv=>whnf
 refine aF _ (aI F rfl rfl) ?_
 conv=>whnf
 refine h8 _ ?_
 exact hk
theorem aGz(F:SF st)(hs:op∈gE)(hD:yY D):Bg st 5 D (nmV op) (nA op []):=Bg.of fun n hn ct sp ht pk τ ev K e hk=>by
 have h8:∀K:V→St→Prop,K (.int 2) (st ct sp ht pk τ)→TabK.call ⟨aE prog n⟩ 8 [.loc 9,.str op] (st ct sp ht pk τ) K:=fun K hk=>eqn (F.plo op hs · ct sp ht pk τ K) hn hk
 generalize TabK.mk (aE prog n)=T at h8 ⊢
 conv=>whnf
 refine aF _ (aOs (e.as F) (hD op (List.mem_append.mpr (.inr hs)))) ?_
 conv=>whnf
 refine aF _ (aI F rfl rfl) ?_
 conv=>whnf
 refine h8 _ ?_
 exact hk
theorem aUs(F:SF st)(h:Bg st d D b eX):Bg st (d+1) D (bV 47 a b) eX:=Bg.of fun n hn ct sp ht pk τ ev K e hk=>by
 have h:=h n hn
 generalize TabK.mk (aE prog n)=T at h ⊢
 conv=>whnf
 refine aF _ (aI F rfl rfl) ?_
 conv=>whnf
 refine h ct sp ht pk τ ev _ e ?_
 exact hk
theorem aYy(ho:op=46∨op=44):Bg st 1 D (bV op a b) eX:=Bg.of fun n hn ct sp ht pk τ ev K e hk=>by
 generalize TabK.mk (aE prog n)=T
 rcases ho with rfl | rfl <;> exact hk
theorem op3(h:op∈gE):op=1042241519551906840692∨(op=2127710420199671437499302004∨op=483785363685485):=by
 rcases List.mem_cons.mp h with rfl | h
 ·exact .inl rfl
 rcases List.mem_cons.mp h with rfl | h
 ·exact .inr (.inl rfl)
 rcases List.mem_cons.mp h with rfl | h
 ·exact .inr (.inr rfl)
 cases h
theorem aJc:∀op∈gE,(!decide (op=0))=true:=by decide
theorem aNq(F:SF st)(ho:op∈gE)(hD:yY D):Bg st 6 D (bV 47 a (nmV op)) (nA op [a]):=Bg.of (d:=5) fun n hn ct sp ht pk τ ev K e hk=>by
 have h:=aGz F ho hD n hn
 have h8:∀K:V→St→Prop,K (.int 2) (st ct sp ht pk τ)→TabK.call ⟨aE prog n⟩ 8 [.loc 9,.str op] (st ct sp ht pk τ) K:=fun K hk=>eqn (F.plo op ho · ct sp ht pk τ K) (Nat.le_trans (by decide) hn) hk
 generalize TabK.mk (aE prog n)=T at h h8 ⊢
 conv=>whnf
 refine aF _ (aI F rfl rfl) ?_
 conv=>whnf
 refine h ct sp ht pk τ ev _ e ?_
 conv=>whnf
 refine lG (b:=!decide (op=0)) (aJc op ho) ?_
 conv=>whnf
 refine aF _ (aI F rfl rfl) ?_
 conv=>whnf
 refine h8 _ ?_
 exact hk
theorem tX(F:SF st)(ho:op∈gE){as l:List V}(h:Bg st d D hh (nA op as))(hd:4≤d)(hl:as.length+l.length≤2):Bg st (d+1) D (qF hh l) (nA op (as++l)):=Bg.of fun n hn ct sp ht pk τ ev K e hk=>by
 have h:=h n hn
 have h8:∀K:V→St→Prop,K (.int 2) (st ct sp ht pk τ)→TabK.call ⟨aE prog n⟩ 8 [.loc 9,.str op] (st ct sp ht pk τ) K:=fun K hk=>eqn (F.plo op ho · ct sp ht pk τ K) (Nat.le_trans hd hn) hk
 have c2:∀{x:Nat},x≤2→x≤aU:=fun h=>Nat.le_trans h (by decide)
 generalize TabK.mk (aE prog n)=T at h h8 ⊢
 conv=>whnf
 refine aF _ (aI F rfl rfl) ?_
 conv=>whnf
 refine h ct sp ht pk τ ev _ e ?_
 conv=>whnf
 refine lG (b:=!decide (op=0)) (aJc op ho) ?_
 conv=>whnf
 refine aF _ (aPi _ (c2 (Nat.le_trans (Nat.le_add_left ..) hl))) ?_
 conv=>whnf
 refine aF _ (aI F rfl rfl) ?_
 conv=>whnf
 refine h8 _ ?_
 conv=>whnf
 refine aF _ (aPi _ (c2 (Nat.le_trans (Nat.le_add_right ..) hl))) ?_
 conv=>whnf
 refine lG (decide_eq_true (p:=(l.length:Int)≤2 - as.length) (by lia)) ?_
 conv=>whnf
 refine aF (.tup l) (show (cR l).map V.tup=_ by refine rwS (fC (c2 (Nat.le_trans (Nat.le_add_left ..) hl))) ?_; rfl) ?_
 conv=>whnf
 refine aF _ (aTc (c2 (by refine rwS List.length_append ?_; exact hl))) ?_
 exact hk
noncomputable def OfT(st:Int→Int→Int→Int→St→St)(T:TabK)(D:Env)(nd r:V):Prop:=∀(ct sp ht pk:Int) (τ:St) (ev:V) (K:V→St→Prop),Ev τ ev D→K r (st ct sp ht pk τ)→T.call 24 [.loc 9,nd,ev] (st ct sp ht pk τ) K
theorem Bg.ofn(F:SF st)(h:Bg st d D nd eX)(hn:d+1≤n):OfT st ⟨aE prog n⟩ D nd eX:=fun ct sp ht pk τ ev K e hk=>aN (d:=eB) (up1 hn) rfl rfl (by
 have h:=h (n - 1) (dn1 hn)
 generalize TabK.mk (aE prog (n - 1))=T at h ⊢
 conv=>whnf
 refine aF _ (aI F rfl rfl) ?_
 conv=>whnf
 refine h ct sp ht pk τ ev _ e ?_
 exact hk)
theorem Bg.ofc(F:SF st)(ho:op∈gE)(h:Bg st d D nd (nA op [a,b]))(hd:4≤d)(hn:d+1≤n):OfT st ⟨aE prog n⟩ D nd (nA op [a,b]):=fun ct sp ht pk τ ev K e hk=>aN (d:=eB) (up1 hn) rfl rfl (by
 have h:=h (n - 1) (dn1 hn)
 have h8:∀K:V→St→Prop,K (.int 2) (st ct sp ht pk τ)→TabK.call ⟨aE prog (n - 1)⟩ 8 [.loc 9,.str op] (st ct sp ht pk τ) K:=fun K hk=>eqn (F.plo op ho · ct sp ht pk τ K) (Nat.le_trans hd (dn1 hn)) hk
 generalize TabK.mk (aE prog (n - 1))=T at h h8 ⊢
 conv=>whnf
 refine aF _ (aI F rfl rfl) ?_
 conv=>whnf
 refine h ct sp ht pk τ ev _ e ?_
 conv=>whnf
 refine lG (b:=!decide (op=0)) (aJc op ho) ?_
 conv=>whnf
 refine aF _ (aI F rfl rfl) ?_
 conv=>whnf
 refine h8 _ ?_
 exact hk)
end
noncomputable abbrev Stf:=Int→Int→Int→Int→St→St
noncomputable def OpQ(st:Stf)(ct':Int)(d z:Nat)(r:V)(sp ht pk:Int)(τ:St)(K:V→St→Prop):Prop:=∀sp' pk' τ',sp≤sp'∧sp'≤sp+z→pk≤pk'∧(pk'≤pk∨pk'≤ht+d)→τ <+: τ'→K r (st ct' sp' ht pk' τ')
noncomputable def OpT(st:Stf)(T:TabK)(f:Nat)(D:Env)(ct ct':Int)(d z:Nat)(nd r:V):Prop:=∀(sp ht pk:Int) (τ:St) (ev:V) (K:V→St→Prop),Ev τ ev D→0≤sp→sp+z≤20000→ht+d≤100→OpQ st ct' d z r sp ht pk τ K→T.call f [.loc 9,nd,ev] (st ct sp ht pk τ) K
noncomputable def OpB(st:Stf)(T:TabK)(g:FDef)(D:Env)(ct ct':Int)(d z:Nat)(nd r:V):Prop:=∀(sp ht pk:Int) (τ:St) (ev:V) (K:V→St→Prop),Ev τ ev D→0≤sp→sp+z≤20000→ht+d≤100→OpQ st ct' d z r sp ht pk τ K→kSs prog T g.body (bH g [.loc 9,nd,ev]) (st ct sp ht pk τ) (cG K)
noncomputable def Op(st:Stf)(m f:Nat)(D:Env)(ct ct':Int)(d z:Nat)(nd r:V):Prop:=∀n,m≤n→OpT st ⟨aE prog n⟩ f D ct ct' d z nd r
theorem aNv{pk pk' a b b':Int}(h:(if pk<a then a else pk)≤pk'∧(pk'≤(if pk<a then a else pk)∨pk'≤b))(hab:a≤b')(e:b=b'):pk≤pk'∧(pk'≤pk∨pk'≤b'):=by
 subst e
 by_cases c:pk<a
 ·rw[if_pos c]at h
  exact⟨Int.le_trans (Int.le_of_lt c) h.1,.inr (h.2.elim (fun q=>Int.le_trans q hab) id)⟩
 ·rw[if_neg c]at h
  exact h
theorem iT{a b c:Int}{x y:Nat}(h1:a≤b∧b≤a+x)(h2:b≤c∧c≤b+y):a≤c∧c≤a+(x+y:Nat):=by lia
theorem pT{a b c l:Int}(h1:a≤b∧(b≤a∨b≤l))(h2:b≤c∧(c≤b∨c≤l)):a≤c∧(c≤a∨c≤l):=by lia
theorem pL{a b:Int}{t:Int}{x y:Nat}(h1:a≤b∧(b≤a∨b≤t+x))(h:x≤y):a≤b∧(b≤a∨b≤t+y):=by lia
theorem iL{a b:Int}{x y:Nat}(h1:a≤b∧b≤a+x)(h:x≤y):a≤b∧b≤a+y:=by lia
theorem iB{a:Int}{x y:Nat}{c:Int}(h1:a+y≤c)(h:x≤y):a+x≤c:=by lia
theorem i0{a:Int}{x:Nat}:a≤a∧a≤a+x:=by lia
theorem p0{a l:Int}:a≤a∧(a≤a∨a≤l):=⟨Int.le_refl _,.inl (Int.le_refl _)⟩
theorem nn{a b:Int}{x:Nat}(h0:0≤a)(h:a≤b∧b≤a+x):0≤b:=Int.le_trans h0 h.1
section
variable{st:Stf}{τ τ':St}{ct ct' sp ht pk x:Int}{f m n k d z op s:Nat}{v e nd ev r a b:V}{K:V→St→Prop}{D:Env}{T:TabK}
theorem Op.up{m' d' z':Nat}(h:Op st m f D ct ct' d z nd r)(e:m≤m')(e1:d≤d')(e2:z≤z'):Op st m' f D ct ct' d' z' nd r:=fun n hn sp ht pk τ ev K e h0 h1 h2 k =>
 h n (Nat.le_trans ‹_› hn) sp ht pk τ ev K e h0 (iB h1 e2) (iB h2 e1) fun sp' pk' τ' a b=>k sp' pk' τ' (iL a e2) (pL b e1)
theorem aVe(F:SF st)(zz:OpQ st ct' (d+1) (z+1) r sp ht pk τ K){sp' pk':Int}{τ':St}(h1:sp+1≤sp'∧sp'≤sp+1+z)(h2:(if pk<ht+1+0 then ht+1+0 else pk)≤pk'∧(pk'≤(if pk<ht+1+0 then ht+1+0 else pk)∨pk'≤ht+1+d))(p:τ <+: τ'):K r (st ct' sp' ht pk' τ') :=
 zz sp' pk' τ' ⟨by lia,by lia⟩ (aNv h2 (by lia) (by lia)) p
noncomputable def aVu(mm:Nat):List S:=[.asg (.attr (.var 0) 4259307989734766077997039554134133) (.bin .add (.attr (.var 0) 4259307989734766077997039554134133) (.cst (.int 1))),
  .expr (.meth (.var 0) 2243767363446240513821245541 [(.cst (.int 1)),(.cst (.int 0))]),
  .asg (.name 3) (.meth (.var 0) mm [(.var 1),(.var 2)]),
  .asg (.attr (.var 0) 4259307989734766077997039554134133) (.bin .sub (.attr (.var 0) 4259307989734766077997039554134133) (.cst (.int 1))),
  .ret (.var 3)]
theorem yG(F:SF st){mm f2:Nat}(hm:∀sp ht pk,oV prog (.loc 9) mm (st ct sp ht pk τ)=some (9,f2))(h16:∀K:V→St→Prop,K .none (st ct (sp+1) (ht+1) (if pk<ht+1+0 then ht+1+0 else pk) τ)→T.call 16 [.loc 9,.int 1,.int 0] (st ct sp (ht+1) pk τ) K)
  (h33:∀pk (K:V→St→Prop),OpQ st ct' d z r (sp+1) (ht+1) pk τ K→T.call f2 [.loc 9,nd,ev] (st ct (sp+1) (ht+1) pk τ) K)
  (zz:OpQ st ct' (d+1) (z+1) r sp ht pk τ K):kSs prog T (aVu mm) [some (.loc 9),some nd,some ev,none] (st ct sp ht pk τ) (cG K):=by
 conv=>whnf
 refine aF _ (dA F rfl) ?_
 conv=>whnf
 refine aF _ (sG F (ct':=ct) (sp':=sp) (ht':=ht+1) (pk':=pk) rfl) ?_
 conv=>whnf
 refine aF _ (aI F rfl rfl) ?_
 conv=>whnf
 refine h16 _ ?_
 conv=>whnf
 refine aF _ (hm _ _ _) ?_
 conv=>whnf
 refine h33 _ _ fun sp' pk' τ' h1 h2 p=>?_
 conv=>whnf
 refine aF _ (dA F rfl) ?_
 conv=>whnf
 refine aF _ (sG F (ct':=ct') (sp':=sp') (ht':=ht) (pk':=pk') (by show mD (opF ct' sp' (ht+1) pk') fHt (V.int (ht+1 - 1))=_; rw[Int.add_sub_cancel]; rfl)) ?_
 exact aVe F zz h1 h2 p
theorem aVg(h1:sp+(z+1:Nat)≤20000):sp+1+z≤20000:=by lia
theorem aSa(h1:ht+(d+1:Nat)≤100):ht+1+d≤100:=by lia
theorem Op.ofE(F:SF st)(h:∀n,m≤n→OpB st ⟨aE prog n⟩ eC D ct ct' d z nd r):Op st (m+2) 32 D ct ct' (d+1) (z+1) nd r:=fun n hn sp ht pk τ ev K e h0 h1 h2 k =>
 aN (d:=kB) (up1 hn) rfl rfl (yG F (z:=z) (d:=d) (fun _ _ _=>aI F rfl rfl) (fun K hk=>kO F (Nat.le_trans (Nat.le_add_left 1 m) (dn1 hn)) (by lia) (by lia) hk)
  (fun pk K hk=>aN (d:=eC) (up1 (dn1 hn)) rfl rfl (h (n - 1 - 1) (dn1 (dn1 hn)) (sp+1) (ht+1) pk τ ev K e (by lia) (aVg h1) (aSa h2) hk)) k)
theorem Op.ofT(F:SF st)(h:∀n,m≤n→OpB st ⟨aE prog n⟩ dN D ct ct' d z nd r):Op st (m+2) 26 D ct ct' (d+1) (z+1) nd r:=fun n hn sp ht pk τ ev K e h0 h1 h2 k =>
 aN (d:=jG) (up1 hn) rfl rfl (yG F (z:=z) (d:=d) (fun _ _ _=>aI F rfl rfl) (fun K hk=>kO F (Nat.le_trans (Nat.le_add_left 1 m) (dn1 hn)) (by lia) (by lia) hk)
  (fun pk K hk=>aN (d:=dN) (up1 (dn1 hn)) rfl rfl (h (n - 1 - 1) (dn1 (dn1 hn)) (sp+1) (ht+1) pk τ ev K e (by lia) (aVg h1) (aSa h2) hk)) k)
theorem Op.ofN(F:SF st)(h:∀n,m≤n→OpB st ⟨aE prog n⟩ dB D ct ct' d z nd r):Op st (m+2) 39 D ct ct' (d+1) (z+1) nd r:=fun n hn sp ht pk τ ev K e h0 h1 h2 k =>
 aN (d:=iJ) (up1 hn) rfl rfl (yG F (z:=z) (d:=d) (fun _ _ _=>aI F rfl rfl) (fun K hk=>kO F (Nat.le_trans (Nat.le_add_left 1 m) (dn1 hn)) (by lia) (by lia) hk)
  (fun pk K hk=>aN (d:=dB) (up1 (dn1 hn)) rfl rfl (h (n - 1 - 1) (dn1 (dn1 hn)) (sp+1) (ht+1) pk τ ev K e (by lia) (aVg h1) (aSa h2) hk)) k)
end
noncomputable def aUw:List Nat:=[505775562686573,523367740342387,sF,mE,kG]
noncomputable def aUf:List Nat:=[488183410196590,1934282344401593776985866357]
noncomputable def Sh(s:Nat)(r:V):Prop:=∃h l,r=.tup (.str h::l)∧(s=bN∧h∈aUf∨s=dT∧h∈aUw)
structure Cs(q:Nat)(D C:Env):Prop where
 z:(aK (.str 0) D).getD (.dict [])=.dict C
 ks:Dk C
 ln:C.length≤10*q
 c:∀k∈aM,∃a b:Int,(aK (.str k) C).getD (.tup [.int 1,.int 1])=.tup [.int a,.int b]∧((0≤a∧a≤q)∧(0≤b∧b≤q))
noncomputable def kd(s:Nat):Nat:=if s=bN then bN else dT
structure Do(q:Nat)(S D:Env):Prop where
 nm:∀{k s},aK (.str k) S=some (.str s)→∃r,aK (.str k) D=some r∧(Sh (kd s) r∧(s=aW→∃l,r=dH l))
 no:yY D
 cs:∃C,Cs q D C
 ln:D.length≤10*q
section
variable{st:Stf}{τ τ':St}{ct ct' sp ht pk x ca cb:Int}{f m n k d z op s q h h' z' g:Nat}{v e nd ev r r' a b w:V}{K:V→St→Prop}{D S C:Env}{T:TabK}{σ:St}
theorem aRc(F:SF st)(h16:∀K:V→St→Prop,K .none (st ct (sp+ca) ht (if pk<ht+cb then ht+cb else pk) τ)→T.call 16 [.loc 9,.int ca,.int cb] (st ct sp ht pk τ) K)(c:(aK (.str 0) D).getD (.dict [])=.dict C)(h2:(aK (.str k) C).getD (.tup [.int 1,.int 1])=.tup [.int ca,.int cb])(e:Ev τ ev D)(hk:aK (.str k) D=some r)
  (z:K r (st ct (sp+ca) ht (if pk<ht+cb then ht+cb else pk) τ)):kSs prog T eG.body (bH eG [.loc 9,.str k,ev]) (st ct sp ht pk τ) (cG K):=by
 conv=>whnf
 refine cA (by refine rwS (e.as F) ?_; rfl) ?_
 conv=>whnf
 refine aF _ (e.as F) ?_
 conv=>whnf
 refine rwS c ?_
 conv=>whnf
 refine rwS h2 ?_
 conv=>whnf
 refine aF _ (aI F rfl rfl) ?_
 conv=>whnf
 refine h16 _ ?_
 conv=>whnf
 exact aF _ (qY (e.as F) hk) z
noncomputable def tH:List V:=[.str 1079135034087605010534,.str 1992310654615847878996787302,.str 488183397613685,.str 431008790872165,.str 234881139,.str 9017487185537167824034131633095323943028,.str 466193146183783,.str 222298223,.str 1069911587283942768742,.str 1069911648856593924198,.str 232783984,.str 492581442027622,.str 1005348044598612590694,.str 431008786677869,.str 4137613899626305218353401740394612,.str 228589670,.str 228589685,.str 213909618]
noncomputable def nH:List V:=[.str 488183410196590,.str 1934282344401593776985866357,.str 1042241519551906840692,.str 1005348000618157965428,.str 2263110111996505506986328180,.str 510173642752110,.str 4056483951726744055527172950982758]
noncomputable abbrev rL(l:List V)(h:Nat):Bool:=l.any fun y=>V.beq y (.str h)
theorem aPm:∀h∈aUw++aUf,rL tH h=false:=by decide +kernel
theorem aXi:∀h∈aUw,rL nH h=false:=by decide +kernel
theorem aZv:∀h∈aUf,rL nH h=true:=by decide +kernel
theorem aKj{l:List V}:gJ σ (.tup (v::l)) (.int 0)=some v:=by
 show (idx (v::l).length 0).bind (fun j=>(v::l)[j]?)=_
 have e:idx (v::l).length 0=some 0:=by
  delta idx
  refine rwS (if_pos (by decide)) (rwS (if_pos ⟨by rw[List.length_cons]; lia,by decide⟩) ?_); rfl
 refine rwS e ?_; rfl
theorem aFh(h:Sh s r):∃x l,r=.tup (.str x::l)∧(rL tH x=false∧rL nH x=decide (s=bN)):=by
 obtain⟨x,l,rfl,⟨rfl,e⟩ | ⟨rfl,e⟩⟩:=h
 ·exact⟨x,l,rfl,aPm x (List.mem_append.mpr (.inr e)),aZv x e⟩
 ·exact⟨x,l,rfl,aPm x (List.mem_append.mpr (.inl e)),aXi x e⟩
theorem aHo{T:TabK}{x:Nat}{l:List V}{t:Bool}(h1:rL tH x=false)(h2:rL nH x=t)(h3:decide (k=bN)=t)(z:K (.tup (.str x::l)) σ):kSs prog T cD.body (bH cD [a,.tup (.str x::l),.str k,b]) σ (cG K):=by
 delta rL tH nH at h1 h2
 conv=>whnf
 refine aF _ aKj ?_
 conv=>whnf
 refine rwS h2 ?_
 refine aF _ aKj ?_
 conv=>whnf
 refine kJ h1 ?_
 conv=>whnf
 refine kJ (b:=!(t==decide (k=bN))) (by refine rwS h3 ?_; cases t <;> rfl) ?_
 exact z
theorem aYt(hn:1≤n)(h:Sh dT r)(z:K r σ):aE prog n 37 [a,r,.str dT,b] σ K:=by
 refine e23 (aFh h) fun x l e_2 h1 h2=>?_; subst e_2
 exact aN (d:=cD) hn rfl rfl (aHo h1 h2 rfl z)
theorem aYo(hn:1≤n)(h:Sh bN r)(z:K r σ):aE prog n 37 [a,r,.str bN,b] σ K:=by
 refine e23 (aFh h) fun x l e_2 h1 h2=>?_; subst e_2
 exact aN (d:=cD) hn rfl rfl (aHo h1 h2 rfl z)
theorem aBh(F:SF st)(hn:2≤n)(c:Cs q D C)(hk0:k∈aM)(e:Ev τ ev D)(hk:aK (.str k) D=some r)(h0:0≤sp)(h1:sp+q≤20000)(h2:ht+q≤100)(z:OpQ st ct q q r sp ht pk τ K):aE prog n 18 [.loc 9,.str k,ev] (st ct sp ht pk τ) K:=by
 refine e23 (c.c k hk0) fun ca cb hc ha hb=>?_
 refine aN (d:=eG) (up1 hn) rfl rfl (aRc F (ca:=ca) (cb:=cb) (fun K hk=>kO F (dn1 hn) (by lia) (by lia) hk) c.z hc e hk (z _ _ _ ⟨by lia,by lia⟩ ?_ (List.prefix_refl _)))
 split <;> lia
theorem tU(F:SF st)(hs:s∈uY)(hD:yY D):Op st 8 32 D ct ct 1 1 (nmV s) (kK (nmI s)):=Op.ofE F (m:=6) fun n hn sp ht pk τ ev K e h0 h1 h2 k=>by
 have h24:=(yO F hs hD).ofn F hn
 have h9:∀K:V→St→Prop,K (kK (nmI s)) (st ct sp ht pk τ)→TabK.call ⟨aE prog n⟩ 9 [.loc 9,.str s,.int 0] (st ct sp ht pk τ) K:=fun K hk=>eqn (F.nam s hs · ct sp ht pk τ K) (Nat.le_trans (by decide) hn) hk
 generalize TabK.mk (aE prog n)=T at h24 h9 ⊢
 conv=>whnf
 refine aF _ (aAq (e.as F) (hD s (List.mem_append.mpr (.inl hs)))) ?_
 conv=>whnf
 refine aF _ (aI F rfl rfl) ?_
 conv=>whnf
 refine h24 ct sp ht pk τ ev _ e ?_
 conv=>whnf
 refine aF _ (aI F rfl rfl) ?_
 conv=>whnf
 exact h9 _ (k sp pk τ i0 p0 (List.prefix_refl _))
theorem aRv(F:SF st)(c:Cs q D C)(hk0:k∈aM)(hk:aK (.str k) D=some r)(hr:Sh dT r):Op st 4 32 D ct ct (q+1) (q+1) (nmV k) r:=Op.ofE F (m:=2) fun n hn sp ht pk τ ev K e h0 h1 h2 kk=>by
 have h18:∀K:V→St→Prop,OpQ st ct q q r sp ht pk τ K→TabK.call ⟨aE prog n⟩ 18 [.loc 9,.str k,ev] (st ct sp ht pk τ) K:=fun K hK=>aBh F hn c hk0 e hk h0 h1 h2 hK
 have h37:∀(σ:St) (K:V→St→Prop),K r σ→TabK.call ⟨aE prog n⟩ 37 [.loc 9,r,.str dT,.int 0] σ K:=fun σ K hk=>aYt (up1 hn) hr hk
 generalize TabK.mk (aE prog n)=T at h18 h37 ⊢
 conv=>whnf
 refine aF _ (aHt (e.as F) hk) ?_
 conv=>whnf
 refine aF _ (aI F rfl rfl) ?_
 conv=>whnf
 refine aF _ (aI F rfl rfl) ?_
 conv=>whnf
 refine h18 _ fun sp' pk' τ' b1 b2 p=>?_
 conv=>whnf
 exact h37 _ _ (kk sp' pk' τ' b1 b2 p)
theorem aVn(F:SF st)(c:Cs q D C)(hk0:k∈aM)(hk:aK (.str k) D=some r)(hr:Sh bN r):Op st 4 39 D ct ct (q+1) (q+1) (nmV k) r:=Op.ofN F (m:=2) fun n hn sp ht pk τ ev K e h0 h1 h2 kk=>by
 have h18:∀K:V→St→Prop,OpQ st ct q q r sp ht pk τ K→TabK.call ⟨aE prog n⟩ 18 [.loc 9,.str k,ev] (st ct sp ht pk τ) K:=fun K hK=>aBh F hn c hk0 e hk h0 h1 h2 hK
 have h37:∀(σ:St) (K:V→St→Prop),K r σ→TabK.call ⟨aE prog n⟩ 37 [.loc 9,r,.str bN,.int 0] σ K:=fun σ K hk=>aYo (up1 hn) hr hk
 generalize TabK.mk (aE prog n)=T at h18 h37 ⊢
 conv=>whnf
 refine aF _ (aHt (e.as F) hk) ?_
 conv=>whnf
 refine aF _ (aI F rfl rfl) ?_
 conv=>whnf
 refine aF _ (aI F rfl rfl) ?_
 conv=>whnf
 refine h18 _ fun sp' pk' τ' b1 b2 p=>?_
 conv=>whnf
 exact h37 _ _ (kk sp' pk' τ' b1 b2 p)
theorem fL{za zb:Nat}(h1:sp+(za+zb:Nat)≤20000):sp+za≤20000∧∀sp':Int,sp'≤sp+za→sp' + zb≤20000:=⟨by lia,fun sp' h=>by lia⟩
theorem OpQ.two{za zb:Nat}(k:OpQ st ct' d (za+zb) v sp ht pk τ K){sp1 pk1 sp2 pk2:Int}{τ1 τ2:St}(b1:sp≤sp1∧sp1≤sp+za)(p1:pk≤pk1∧(pk1≤pk∨pk1≤ht+d))(t1:τ <+: τ1)(b2:sp1≤sp2∧sp2≤sp1+zb)(p2:pk1≤pk2∧(pk2≤pk1∨pk2≤ht+d))(t2:τ1 <+: τ2):K v (st ct' sp2 ht pk2 τ2) :=
 k sp2 pk2 τ2 (iT b1 b2) (pT p1 p2) (t1.trans t2)
noncomputable def aHr(op h:Nat):Prop:=op=47∧h=sF∨(op=44∧h=mE∨op=46∧h=kG)
theorem aSz{za zb:Nat}(F:SF st)(ho:aHr op h)(hB:Bg st 6 D (bV op a b) eX)(ha:Op st m 32 D ct ct d za a r)(hb:Op st m 32 D ct ct d zb b r')(hm:7≤m):Op st (m+2) 32 D ct ct (d+1) (za+zb+1) (bV op a b) (f2V h r r'):=Op.ofE F fun n hn sp ht pk τ ev K e h0 h1 h2 k=>by
 have h24:=hB.ofn F (Nat.le_trans hm hn)
 have ha:=ha n hn
 have hb:=hb n hn
 generalize TabK.mk (aE prog n)=T at h24 ha hb ⊢
 have go:kSs prog T [.ret (.tup [(.cst (.str h)),(.meth (.var 0) 940784479923051954291 [(.item (.var 1) (.cst (.int 3))),(.var 2)]),(.meth (.var 0) 940784479923051954291 [(.item (.var 1) (.cst (.int 4))),(.var 2)])])] [some (.loc 9),some (bV op a b),some ev,some (.str 435406826897519),none,none,none,some (.str 0),some (.tup []),none,none] (st ct sp ht pk τ) (cG K):=by
  conv=>whnf
  refine aF _ (aI F rfl rfl) ?_
  conv=>whnf
  refine ha sp ht pk τ ev _ e h0 (fL h1).1 h2 fun sp1 pk1 τ1 b1 p1 t1=>?_
  conv=>whnf
  refine aF _ (aI F rfl rfl) ?_
  conv=>whnf
  refine hb sp1 ht pk1 τ1 ev _ (e.pre t1) (nn h0 b1) ((fL h1).2 sp1 b1.2) h2 fun sp2 pk2 τ2 b2 p2 t2=>?_
  exact k.two b1 p1 t1 b2 p2 t2
 rcases ho with ⟨rfl,rfl⟩ | ⟨rfl,rfl⟩ | ⟨rfl,rfl⟩
 all_goals
  conv=>whnf
  refine aF _ (aI F rfl rfl) ?_
  conv=>whnf
  refine h24 ct sp ht pk τ ev _ e ?_
  exact go
end
section
variable{st:Stf}{τ τ':St}{ct ct' sp ht pk x ca cb:Int}{f m n k d z op s q h h' z' g za zb w:Nat}{v e nd ev r r' a b:V}{K:V→St→Prop}{D S C:Env}{T:TabK}{σ:St}
noncomputable def FoT(st:Stf)(T:TabK)(D:Env)(nd:V)(w:Nat):Prop:=∀(ct sp ht pk:Int) (τ:St) (ev:V) (K:V→St→Prop),Ev τ ev D→K (.str w) (st ct sp ht pk τ)→T.call 19 [.loc 9,nd,ev] (st ct sp ht pk τ) K
noncomputable def FoB(st:Stf)(T:TabK)(D:Env)(nd:V)(w:Nat):Prop:=∀(ct sp ht pk:Int) (τ:St) (ev:V) (K:V→St→Prop),Ev τ ev D→K (.str w) (st ct sp ht pk τ)→kSs prog T eE.body (bH eE [.loc 9,nd,ev]) (st ct sp ht pk τ) (cG K)
noncomputable def Fo(st:Stf)(m:Nat)(D:Env)(nd:V)(w:Nat):Prop:=∀n,m≤n→FoT st ⟨aE prog n⟩ D nd w
theorem Fo.of(h:∀n,m≤n→FoB st ⟨aE prog n⟩ D nd w):Fo st (m+1) D nd w:=fun n hn ct sp ht pk τ ev K e k=>aN (d:=eE) (up1 hn) rfl rfl (h (n - 1) (dn1 hn) ct sp ht pk τ ev K e k)
theorem Fo.up{m':Nat}(h:Fo st m D nd w)(e:m≤m'):Fo st m' D nd w:=fun n hn=>h n (Nat.le_trans e hn)
theorem aEt(F:SF st)(hs:s∈uY)(hD:yY D):Fo st 7 D (nmV s) dT:=Fo.of (m:=6) fun n hn ct sp ht pk τ ev K e hk=>by
 have h24:=(yO F hs hD).ofn F hn
 have e0:=hD s (List.mem_append.mpr (.inl hs))
 generalize TabK.mk (aE prog n)=T at h24 ⊢
 conv=>whnf
 refine aF _ (aAq (e.as F) e0) ?_
 conv=>whnf
 refine aF _ (aI F rfl rfl) ?_
 conv=>whnf
 refine h24 ct sp ht pk τ ev _ e ?_
 exact hk
theorem aIj(F:SF st)(hk:aK (.str k) D=some r)(hr:Sh w r)(hw:w=bN∨w=dT):Fo st 1 D (nmV k) w:=Fo.of (m:=0) fun n hn ct sp ht pk τ ev K e kk=>by
 generalize TabK.mk (aE prog n)=T
 obtain⟨x,l,rfl,h1,h2⟩:=aFh hr
 delta rL tH nH at h1 h2
 conv=>whnf
 refine aF _ (aHt (e.as F) hk) ?_
 conv=>whnf
 refine aF _ (qY (e.as F) hk) ?_
 conv=>whnf
 refine aF _ aKj ?_
 conv=>whnf
 rcases hw with rfl | rfl
 ·exact lG h2 kk
 ·refine kJ h2 ?_
  conv=>whnf
  exact kJ h1 kk
theorem aRk(F:SF st)(ho:aHr op h)(hB:Bg st 6 D (bV op a b) eX):Fo st 8 D (bV op a b) dT:=Fo.of (m:=7) fun n hn ct sp ht pk τ ev K e hk=>by
 have h24:=hB.ofn F hn
 generalize TabK.mk (aE prog n)=T at h24 ⊢
 rcases ho with ⟨rfl,rfl⟩ | ⟨rfl,rfl⟩ | ⟨rfl,rfl⟩
 all_goals
  conv=>whnf
  refine aF _ (aI F rfl rfl) ?_
  conv=>whnf
  refine h24 ct sp ht pk τ ev _ e ?_
  exact hk
theorem aPv{i:Nat}:Fo st 1 D (aIm i) bN:=Fo.of (m:=0) fun n hn ct sp ht pk τ ev K e hk=>hk
theorem aNj:Fo st 1 D (unV 36 a) bN:=Fo.of (m:=0) fun n hn ct sp ht pk τ ev K e hk=>hk
theorem aWt:∀w∈kF,decide (w=34)=false∧rL [.str 1069911648856593924198,.str 232783984,.str 1005348044598612590694,.str 492581442027622] w=true:=by decide +kernel
theorem aZm(F:SF st)(hw:w∈kF)(h:Op st m 32 D ct ct' d z a r):Op st (m+2) 26 D ct ct' (d+1) (z+1) (unV w a) (.tup [.str w,r]):=Op.ofT F fun n hn sp ht pk τ ev K e h0 h1 h2 k=>by
 have h:=h n hn
 generalize TabK.mk (aE prog n)=T at h ⊢
 conv=>whnf
 refine kJ (aWt w hw).1 ?_
 conv=>whnf
 refine lG (aWt w hw).2 ?_
 conv=>whnf
 refine aF _ (aI F rfl rfl) ?_
 conv=>whnf
 exact h sp ht pk τ ev _ e h0 h1 h2 k
noncomputable def cmT(op:Nat)(r r':V):V:=if op=62 then f2V cEq r r' else if op=71303230 then aMf (f2V cEq r r') else if op=61 then f2V cLt r r' else if op=127926334 then f2V cLe r r' else f2V cLt r' r
noncomputable def bBv:Env:=((prog.glob 7).bind jM).getD []
theorem aYm:∀op∈cIn::rN,(!(aK (.str op) bBv).isSome)=true:=by
 repeat (first | exact List.forall_mem_nil _ | refine List.forall_mem_cons.mpr ⟨by kernel_rfl!,?_⟩)
theorem xK(F:SF st){op:Nat}(hop:op∈cIn::rN)(h29:∀n,m≤n→∀(sp ht pk:Int) (τ:St) (ev:V) (K:V→St→Prop),Ev τ ev D→0≤sp→sp+z≤20000→ht+d≤100→OpQ st ct' d z r sp ht pk τ K→aE prog n 29 [.loc 9,bV op a b,ev] (st ct sp ht pk τ) K):Op st (m+2) 26 D ct ct' (d+1) (z+1) (bV op a b) r:=Op.ofT F fun n hn sp ht pk τ ev K e h0 h1 h2 k=>by
 have h:∀K:V→St→Prop,OpQ st ct' d z r sp ht pk τ K→TabK.call ⟨aE prog n⟩ 29 [.loc 9,bV op a b,ev] (st ct sp ht pk τ) K:=fun K k=>h29 n hn sp ht pk τ ev K e h0 h1 h2 k
 generalize TabK.mk (aE prog n)=T at h ⊢
 conv=>whnf
 refine lG (aYm op hop) ?_
 conv=>whnf
 refine aF _ (aI F rfl rfl) ?_
 exact h _ k
theorem aLa(F:SF st)(hop:op∈[61,127926334,62,63])(ha:OpT st T 39 D ct ct' d za a r)(hb:OpT st T 39 D ct' ct' d zb b r')(e:Ev τ ev D)(h0:0≤sp)(h1:sp+(za+zb:Nat)≤20000)(h2:ht+d≤100)(k:OpQ st ct' d (za+zb) (cmT op r r') sp ht pk τ K) :
  kSs prog T (aH.body.drop 6) [some (.loc 9),some nd,some ev,some (.str op),some a,some b,none,none] (st ct sp ht pk τ) (cG K):=by
 conv=>whnf
 refine aF _ (aI F rfl rfl) ?_
 conv=>whnf
 refine ha sp ht pk τ ev _ e h0 (fL h1).1 h2 fun sp1 pk1 τ1 b1 p1 t1=>?_
 conv=>whnf
 refine aF _ (aI F rfl rfl) ?_
 conv=>whnf
 refine hb sp1 ht pk1 τ1 ev _ (e.pre t1) (nn h0 b1) ((fL h1).2 sp1 b1.2) h2 fun sp2 pk2 τ2 b2 p2 t2=>?_
 have kk:=k.two b1 p1 t1 b2 p2 t2
 clear k ha hb
 rcases List.mem_cons.mp hop with rfl | hop
 ·exact kk
 rcases List.mem_cons.mp hop with rfl | hop
 ·exact kk
 rcases List.mem_cons.mp hop with rfl | hop
 ·exact kk
 rcases List.mem_cons.mp hop with rfl | hop
 ·conv=>whnf
  exact kk
 cases hop
theorem aRw(F:SF st)(hop:op∈[61,127926334,62,63])(hf:FoT st T D a bN)(ha:OpT st T 39 D ct ct' d za a r)(hb:OpT st T 39 D ct' ct' d zb b r')(e:Ev τ ev D)(h0:0≤sp)(h1:sp+(za+zb:Nat)≤20000)(h2:ht+d≤100)(k:OpQ st ct' d (za+zb) (cmT op r r') sp ht pk τ K) :
  kSs prog T aH.body (bH aH [.loc 9,bV op a b,ev]) (st ct sp ht pk τ) (cG K):=by
 have tl:=aLa F (nd:=bV op a b) hop ha hb e h0 h1 h2 k
 refine rwS (show aH.body=aH.body.take 6++aH.body.drop 6 from rfl) ?_
 generalize aH.body.drop 6=X at tl ⊢
 clear k ha hb h1
 rcases List.mem_cons.mp hop with rfl | hop
 ·exact tl
 rcases List.mem_cons.mp hop with rfl | hop
 ·exact tl
 rcases List.mem_cons.mp hop with rfl | hop
 ·conv=>whnf
  refine aF _ (aI F rfl rfl) ?_
  conv=>whnf
  refine hf ct sp ht pk τ ev _ e ?_
  exact tl
 rcases List.mem_cons.mp hop with rfl | hop
 ·exact tl
 cases hop
end
section
variable{st:Stf}{τ τ':St}{ct ct' sp ht pk x ca cb:Int}{f m n k d z op s q h h' z' g za zb w:Nat}{v e nd ev r r' a b c t:V}{K:V→St→Prop}{D S C:Env}{T:TabK}{σ:St}
theorem aNt(hn:1≤n)(z:K v σ):aE prog n 1 [.list [v]] σ K:=aN (d:=oU) hn rfl rfl z
noncomputable def wF(b:V):Prop:=∃(h:Nat) (l:List V),b=.tup (.str h::l)∧h≠1895596745844028559822159992
theorem xR(hn:1≤n)(hb:wF b)(z:K (.bool false) σ):aE prog n 41 [a,b] σ K :=
 aN (d:=fP) hn rfl rfl (by
  generalize TabK.mk (aE prog (n - 1))=T
  refine e22 hb fun h l e_2 hh=>?_; subst e_2
  conv=>whnf
  refine aF _ aKj ?_
  conv=>whnf
  refine lG (b:=!decide (h=1895596745844028559822159992)) (by refine rwS (decide_eq_false hh) ?_; rfl) ?_
  exact z)
theorem aRb(F:SF st)(hf:FoT st T D a dT)(ha:OpT st T 32 D ct ct d za a r)(hb:OpT st T 32 D ct ct d zb b r')(e:Ev τ ev D)(h0:0≤sp)(h1:sp+(za+zb:Nat)≤20000)(h2:ht+d≤100)(k:OpQ st ct d (za+zb) (f2V sY r r') sp ht pk τ K) :
  kSs prog T aH.body (bH aH [.loc 9,bV 62 a b,ev]) (st ct sp ht pk τ) (cG K):=by
 conv=>whnf
 refine aF _ (aI F rfl rfl) ?_
 conv=>whnf
 refine hf ct sp ht pk τ ev _ e ?_
 conv=>whnf
 refine aF _ (aI F rfl rfl) ?_
 conv=>whnf
 refine ha sp ht pk τ ev _ e h0 (fL h1).1 h2 fun sp1 pk1 τ1 b1 p1 t1=>?_
 conv=>whnf
 refine aF _ (aI F rfl rfl) ?_
 conv=>whnf
 refine hb sp1 ht pk1 τ1 ev _ (e.pre t1) (nn h0 b1) ((fL h1).2 sp1 b1.2) h2 fun sp2 pk2 τ2 b2 p2 t2=>?_
 exact k.two b1 p1 t1 b2 p2 t2
theorem bBx(F:SF st)(hb:OpT st T 32 D ct ct d z b r')(h41:∀(σ:St) (K:V→St→Prop),K (.bool false) σ→T.call 41 [.loc 9,b] σ K)(h1':∀(v:V) (σ:St) (K:V→St→Prop),K v σ→T.call 1 [.list [v]] σ K)(e:Ev τ ev D)(h0:0≤sp)(h1:sp+z≤20000)(h2:ht+d≤100)(k:OpQ st ct d z (f2V cIn r r') sp ht pk τ K) :
  kSs prog T cS.body (bH cS [.loc 9,r,b,ev]) (st ct sp ht pk τ) (cG K):=by
 conv=>whnf
 refine aF _ (aI F rfl rfl) ?_
 conv=>whnf
 refine hb sp ht pk τ ev _ e h0 h1 h2 fun sp1 pk1 τ1 b1 p1 t1=>?_
 conv=>whnf
 refine aF _ (aI F rfl rfl) ?_
 conv=>whnf
 refine h41 _ _ ?_
 conv=>whnf
 refine h1' _ _ _ ?_
 exact k sp1 pk1 τ1 b1 p1 t1
theorem aZa(F:SF st)(ha:OpT st T 32 D ct ct d za a r)(h42:∀(sp ht pk:Int) (τ:St) (ev:V) (K:V→St→Prop),Ev τ ev D→0≤sp→sp+zb≤20000→ht+d≤100→OpQ st ct d zb (f2V cIn r r') sp ht pk τ K→T.call 42 [.loc 9,r,b,ev] (st ct sp ht pk τ) K)
  (e:Ev τ ev D) (h0:0≤sp) (h1:sp+(za+zb:Nat)≤20000) (h2:ht+d≤100) (k:OpQ st ct d (za+zb) (f2V cIn r r') sp ht pk τ K):kSs prog T aH.body (bH aH [.loc 9,bV cIn a b,ev]) (st ct sp ht pk τ) (cG K):=by
 conv=>whnf
 refine aF _ (aI F rfl rfl) ?_
 conv=>whnf
 refine aF _ (aI F rfl rfl) ?_
 conv=>whnf
 refine ha sp ht pk τ ev _ e h0 (fL h1).1 h2 fun sp1 pk1 τ1 b1 p1 t1=>?_
 conv=>whnf
 refine h42 sp1 ht pk1 τ1 ev _ (e.pre t1) (nn h0 b1) ((fL h1).2 sp1 b1.2) h2 fun sp2 pk2 τ2 b2 p2 t2=>?_
 exact k.two b1 p1 t1 b2 p2 t2
theorem aYc(F:SF st)(h29:∀K:V→St→Prop,OpQ st ct' d z r sp ht pk τ K→T.call 29 [.loc 9,bV 62 a b,ev] (st ct sp ht pk τ) K)(k:OpQ st ct' d z (aMf r) sp ht pk τ K):kSs prog T aH.body (bH aH [.loc 9,bV 71303230 a b,ev]) (st ct sp ht pk τ) (cG K):=by
 conv=>whnf
 refine aF _ (aI F rfl rfl) ?_
 conv=>whnf
 refine h29 _ fun sp1 pk1 τ1 b1 p1 t1=>?_
 exact k sp1 pk1 τ1 b1 p1 t1
noncomputable def s2T(op:Nat)(r r':V):V:=if op=62 then f2V sY r r' else f2V cIn r r'
theorem aMw(F:SF st)(ho:op=cIn∨op=62)(nb:wF b)(hf:Fo st m D a dT)(ha:Op st m 32 D ct ct d za a r)(hb:Op st m 32 D ct ct d zb b r'):Op st (m+5) 26 D ct ct (d+1) (za+zb+1) (bV op a b) (s2T op r r'):=by
 rcases ho with rfl | rfl
 ·exact xK F (m:=m+3) (List.mem_cons_self ..) fun n hn sp ht pk τ ev K e h0 h1 h2 k=>aN (d:=aH) (up1 hn) rfl rfl (aZa F (ha (n - 1) (by lia)) (fun sp ht pk τ ev K e h0 h1 h2 k=>aN (d:=cS) (by lia) rfl rfl (bBx F (hb (n - 1 - 1) (by lia)) (fun σ K z=>xR (by lia) nb z) (fun v σ K z=>aNt (by lia) z) e h0 h1 h2 k)) e h0 h1 h2 k)
 ·exact(xK F (m:=m+1) (by decide) fun n hn sp ht pk τ ev K e h0 h1 h2 k=>aN (d:=aH) (up1 hn) rfl rfl (aRb F (hf (n - 1) (dn1 hn)) (ha (n - 1) (dn1 hn)) (hb (n - 1) (dn1 hn)) e h0 h1 h2 k)).up (by lia) (Nat.le_refl _) (Nat.le_refl _)
theorem aTy(F:SF st)(ho:op∈rN)(hf:Fo st m D a bN)(ha:Op st m 39 D ct ct' d za a r)(hb:Op st m 39 D ct' ct' d zb b r'):Op st (m+4) 26 D ct ct' (d+1) (za+zb+1) (bV op a b) (cmT op r r'):=by
 have go:∀op∈[61,127926334,62,63],∀n,m+1≤n→∀(sp ht pk:Int) (τ:St) (ev:V) (K:V→St→Prop),Ev τ ev D→0≤sp→sp+(za+zb:Nat)≤20000→ht+d≤100→OpQ st ct' d (za+zb) (cmT op r r') sp ht pk τ K→aE prog n 29 [.loc 9,bV op a b,ev] (st ct sp ht pk τ) K:=fun op ho n hn sp ht pk τ ev K e h0 h1 h2 k =>
  aN (d:=aH) (up1 hn) rfl rfl (aRw F ho (hf (n - 1) (dn1 hn)) (ha (n - 1) (dn1 hn)) (hb (n - 1) (dn1 hn)) e h0 h1 h2 k)
 refine xK F (m:=m+2) (List.mem_cons_of_mem _ ho) fun n hn sp ht pk τ ev K e h0 h1 h2 k=>?_
 by_cases h:op=71303230
 ·subst h
  exact aN (d:=aH) (up1 hn) rfl rfl (aYc F (fun K k=>go 62 (by decide) _ (dn1 hn) sp ht pk τ ev K e h0 h1 h2 k) k)
 ·refine go op ?_ n (Nat.le_of_succ_le hn) sp ht pk τ ev K e h0 h1 h2 k
  have all:∀op∈rN,op≠71303230→op∈[61,127926334,62,63]:=by decide
  exact all op ho h
theorem aYq(F:SF st)(hf:FoT st T D nd dT)(ho:OpT st T 32 D ct ct d z nd r)(e:Ev τ ev D)(h0:0≤sp)(h1:sp+z≤20000)(h2:ht+d≤100)(k:OpQ st ct d z r sp ht pk τ K):kSs prog T bL.body (bH bL [.loc 9,nd,ev]) (st ct sp ht pk τ) (cG K):=by
 conv=>whnf
 refine aF _ (aI F rfl rfl) ?_
 conv=>whnf
 refine hf ct sp ht pk τ ev _ e ?_
 conv=>whnf
 refine aF _ (aI F rfl rfl) ?_
 conv=>whnf
 exact ho sp ht pk τ ev _ e h0 h1 h2 k
theorem aWy(F:SF st)(hf:FoT st T D nd bN)(ho:OpT st T 39 D ct ct d z nd r)(e:Ev τ ev D)(h0:0≤sp)(h1:sp+z≤20000)(h2:ht+d≤100)(k:OpQ st ct d z r sp ht pk τ K):kSs prog T bL.body (bH bL [.loc 9,nd,ev]) (st ct sp ht pk τ) (cG K):=by
 conv=>whnf
 refine aF _ (aI F rfl rfl) ?_
 conv=>whnf
 refine hf ct sp ht pk τ ev _ e ?_
 conv=>whnf
 refine aF _ (aI F rfl rfl) ?_
 conv=>whnf
 exact ho sp ht pk τ ev _ e h0 h1 h2 k
noncomputable def Va(st:Stf)(m:Nat)(D:Env)(d z:Nat)(nd r:V):Prop:=∀ct:Int,Op st m 21 D ct ct d z nd r
theorem aSd(F:SF st)(hf:Fo st m D nd dT)(ho:∀ct:Int,Op st m 32 D ct ct d z nd r):Va st (m+1) D d z nd r:=fun ct n hn sp ht pk τ ev K e h0 h1 h2 k=>aN (d:=bL) (up1 hn) rfl rfl (aYq F (hf _ (dn1 hn)) (ho ct _ (dn1 hn)) e h0 h1 h2 k)
theorem aSc(F:SF st)(hf:Fo st m D nd bN)(ho:∀ct:Int,Op st m 39 D ct ct d z nd r):Va st (m+1) D d z nd r:=fun ct n hn sp ht pk τ ev K e h0 h1 h2 k=>aN (d:=bL) (up1 hn) rfl rfl (aWy F (hf _ (dn1 hn)) (ho ct _ (dn1 hn)) e h0 h1 h2 k)
theorem aVq(F:SF st)(h21:∀pk (K:V→St→Prop),OpQ st ct d z r sp ht pk τ K→T.call 21 [.loc 9,nd,ev] (st ct sp ht pk τ) K)
  (k:∀sp' pk' τ' (ca cb:Int),sp≤sp'∧sp'≤sp+z→pk≤pk'∧(pk'≤pk∨pk'≤ht+d)→τ <+: τ'→(0≤ca∧ca≤z)∧(0≤cb∧cb≤d)→K (.tup [r,.tup [.int ca,.int cb]]) (st ct sp' ht pk' τ')) :
  kSs prog T cJ.body (bH cJ [.loc 9,nd,ev]) (st ct sp ht pk τ) (cG K):=by
 conv=>whnf
 refine aF _ (dA F rfl) ?_
 conv=>whnf
 refine aF _ (dA F rfl) ?_
 conv=>whnf
 refine aF _ (dA F rfl) ?_
 conv=>whnf
 refine aF _ (sG F (ct':=ct) (sp':=sp) (ht':=ht) (pk':=ht) rfl) ?_
 conv=>whnf
 refine aF _ (aI F rfl rfl) ?_
 conv=>whnf
 refine h21 ht _ fun sp' pk' τ' h1 h2 p=>?_
 conv=>whnf
 refine aF _ (dA F rfl) ?_
 conv=>whnf
 refine aF _ (dA F rfl) ?_
 conv=>whnf
 refine aF _ (dA F rfl) ?_
 conv=>whnf
 refine aF _ (dA F rfl) ?_
 conv=>whnf
 refine aF _ (sG F (ct':=ct) (sp':=sp') (ht':=ht) (pk':=if pk<pk' then pk' else pk) rfl) ?_
 exact k sp' _ τ' (sp' - sp) (pk' - ht) h1 (by split <;> lia) p ⟨⟨by lia,by lia⟩,by lia,by lia⟩
end
noncomputable abbrev rE(D C:Env)(k:Nat)(r:V)(ca cb:Int):Env:=tE D C k k (r,.tup [.int ca,.int cb])
noncomputable def MsQ(st:Stf)(ct:Int)(d z:Nat)(g:Int→Int→V)(sp ht pk:Int)(τ:St)(K:V→St→Prop):Prop:=∀sp' pk' τ' (ca cb:Int),sp≤sp'∧sp'≤sp+z→pk≤pk'∧(pk'≤pk∨pk'≤ht+d)→τ <+: τ'→(0≤ca∧ca≤z)∧(0≤cb∧cb≤d)→K (g ca cb) (st ct sp' ht pk' τ')
noncomputable def opC(op:Nat):Nat:=if op=1042241519551906840692 then 1042241519551906840692 else if op=2127710420199671437499302004 then wJ else xL
section
variable{st:Stf}{τ τ':St}{ct ct' sp ht pk x ca cb ct1 ct2:Int}{f m n k d z op s q h h' z' g za zb zc w:Nat}{v e nd ev r r' a b c t bd rc ra rb:V}{K:V→St→Prop}{D S C:Env}{T:TabK}{σ:St}
theorem aTe(F:SF st)(h:Va st m D d z nd r)(hn:m+1≤n)(e:Ev τ ev D)(h0:0≤sp)(h1:sp+z≤20000)(h2:ht+d≤100)(k:MsQ st ct d z (fun ca cb=>.tup [r,.tup [.int ca,.int cb]]) sp ht pk τ K):aE prog n 17 [.loc 9,nd,ev] (st ct sp ht pk τ) K :=
 aN (d:=cJ) (up1 hn) rfl rfl (aVq F (fun pk K k=>h ct (n - 1) (dn1 hn) sp ht pk τ ev K e h0 h1 h2 k) k)
theorem aXg(F:SF st)(h17:∀K:V→St→Prop,MsQ st ct d z (fun ca cb=>.tup [r,.tup [.int ca,.int cb]]) sp ht pk τ K→T.call 17 [.loc 9,nd,ev] (st ct sp ht pk τ) K)(e:Ev τ ev D)(hl:D.length≤1000)(c0:(aK (.str 0) D).getD (.dict [])=.dict C)(hc:C.length≤1000)(hk:k≠0)
  (zz:MsQ st ct d z (fun ca cb=>.dict (rE D C k r ca cb)) sp ht pk τ K):kSs prog T cV.body (bH cV [.loc 9,tN k nd bd,ev]) (st ct sp ht pk τ) (cG K):=by
 have cl:∀{l:Env},l.length≤1000→l.length≤aU:=fun h=>Nat.le_trans h (by decide)
 conv=>whnf
 refine aF _ (qA (e.as F) (cl hl)) ?_
 conv=>whnf
 refine cA (by refine rwS (e.as F) ?_; rfl) ?_
 conv=>whnf
 refine aF _ (e.as F) ?_
 conv=>whnf
 refine rwS c0 ?_
 refine aF (.dict C) (if_pos (cl hc)) ?_
 conv=>whnf
 refine cA (show (decide (D.length≤1000)&&decide (C.length≤1000))=true by refine rwS (decide_eq_true hl) (rwS (decide_eq_true hc) ?_); rfl) ?_
 conv=>whnf
 refine aF _ (aI F rfl rfl) ?_
 conv=>whnf
 refine h17 _ fun sp' pk' τ' ca cb b1 p1 t1 c1=>?_
 conv=>whnf
 refine cA (decide_eq_true hk) ?_
 exact zz sp' pk' τ' ca cb b1 p1 t1 c1
theorem aTt(F:SF st){i:Nat}:Op st 2 39 D ct ct 1 1 (aIm i) (n0V i):=Op.ofN F (m:=0) fun n hn sp ht pk τ ev K e h0 h1 h2 k=>k sp pk τ i0 p0 (List.prefix_refl _)
theorem aNi(F:SF st)(h:Op st m 32 D ct ct' d z a r):Op st (m+2) 39 D ct ct' (d+1) (z+1) (unV 36 a) (aQo r):=Op.ofN F fun n hn sp ht pk τ ev K e h0 h1 h2 k=>by
 have h:=h n hn
 generalize TabK.mk (aE prog n)=T at h ⊢
 conv=>whnf
 refine aF _ (aI F rfl rfl) ?_
 conv=>whnf
 exact h sp ht pk τ ev _ e h0 h1 h2 k
theorem aRu(F:SF st)(h:Op st m 39 D ct ct' d z a r):Op st (m+2) 39 D ct ct' (d+1) (z+1) (unV 46 a) (f2V wJ (n0V 0) r):=Op.ofN F fun n hn sp ht pk τ ev K e h0 h1 h2 k=>by
 have h:=h n hn
 generalize TabK.mk (aE prog n)=T at h ⊢
 conv=>whnf
 refine aF _ (aI F rfl rfl) ?_
 conv=>whnf
 exact h sp ht pk τ ev _ e h0 h1 h2 k
theorem aIe{x:Nat}(h1:sp+(za+x:Nat)≤20000){sp':Int}(b:sp'≤sp+za):sp' + x≤20000:=by lia
theorem aLx(F:SF st)(hc:Op st m 26 D ct ct1 d zc c rc)(ha:Op st m 39 D ct1 ct2 d za a ra)(hb:Op st m 39 D ct2 ct' d zb b rb):Op st (m+2) 39 D ct ct' (d+1) (zc+(za+zb)+1) (ifV c a b) (chV rc ra rb):=Op.ofN F fun n hn sp ht pk τ ev K e h0 h1 h2 k=>by
 have hc:=hc n hn
 have ha:=ha n hn
 have hb:=hb n hn
 generalize TabK.mk (aE prog n)=T at hc ha hb ⊢
 conv=>whnf
 refine aF _ (aI F rfl rfl) ?_
 conv=>whnf
 refine hc sp ht pk τ ev _ e h0 (fL h1).1 h2 fun sp1 pk1 τ1 b1 p1 t1=>?_
 have w1:=aIe h1 b1.2
 conv=>whnf
 refine aF _ (aI F rfl rfl) ?_
 conv=>whnf
 refine ha sp1 ht pk1 τ1 ev _ (e.pre t1) (nn h0 b1) (fL w1).1 h2 fun sp2 pk2 τ2 b2 p2 t2=>?_
 have w2:=aIe w1 b2.2
 conv=>whnf
 refine aF _ (aI F rfl rfl) ?_
 conv=>whnf
 refine hb sp2 ht pk2 τ2 ev _ ((e.pre t1).pre t2) (nn (nn h0 b1) b2) w2 h2 fun sp3 pk3 τ3 b3 p3 t3=>?_
 exact k.two (za:=zc) (zb:=za+zb) b1 p1 t1 (iT b2 b3) (pT p2 p3) (t2.trans t3)
theorem aWw(F:SF st):wE (st ct sp ht pk τ) .in_ (.str op) (.loc 10)=some false:=aAq (D:=[]) (by show tW (st ct sp ht pk τ)[10]?=_; refine rwS F.cal ?_; rfl) rfl
noncomputable def hds:Env:=((prog.glob 3).bind jM).getD []
theorem aOv:∀op∈gE,(!(aK (.str op) hds).isSome)=false∧aK (.str op) hds=some (.str (opC op)):=by
 repeat (first | exact List.forall_mem_nil _ | refine List.forall_mem_cons.mpr ⟨⟨by kernel_rfl!,by kernel_rfl!⟩,?_⟩)
theorem aNp(F:SF st){l:List V}(ho:op∈gE)(hB:Bg st 8 D (qF c l) (nA op [a,b]))(ha:Op st m 39 D ct ct1 d za a ra)(hb:Op st m 39 D ct1 ct' d zb b rb)(hm:9≤m):Op st (m+2) 39 D ct ct' (d+1) (za+zb+1) (qF c l) (f2V (opC op) ra rb):=Op.ofN F fun n hn sp ht pk τ ev K e h0 h1 h2 k=>by
 have h24:=hB.ofc F ho (by decide) (Nat.le_trans hm hn)
 have ha:=ha n hn
 have hb:=hb n hn
 generalize TabK.mk (aE prog n)=T at h24 ha hb ⊢
 conv=>whnf
 refine aF _ (aI F rfl rfl) ?_
 conv=>whnf
 refine h24 ct sp ht pk τ ev _ e ?_
 conv=>whnf
 refine aF _ (dA F rfl) ?_
 conv=>whnf
 refine aF _ (aWw F) ?_
 conv=>whnf
 refine kJ (aOv op ho).1 ?_
 conv=>whnf
 refine aF _ (aOv op ho).2 ?_
 conv=>whnf
 refine aF _ (aI F rfl rfl) ?_
 conv=>whnf
 refine ha sp ht pk τ ev _ e h0 (fL h1).1 h2 fun sp1 pk1 τ1 b1 p1 t1=>?_
 conv=>whnf
 refine aF _ (aI F rfl rfl) ?_
 conv=>whnf
 refine hb sp1 ht pk1 τ1 ev _ (e.pre t1) (nn h0 b1) ((fL h1).2 sp1 b1.2) h2 fun sp2 pk2 τ2 b2 p2 t2=>?_
 exact k.two b1 p1 t1 b2 p2 t2
theorem aTd(F:SF st){dv:Nat}(hv:Va st m D dv z nd r)(hdv:dv≤d)(hl:D.length≤1000)(c0:(aK (.str 0) D).getD (.dict [])=.dict C)(hc:C.length≤1000)(hk:k≠0)(hb:∀ca cb:Int,(0≤ca∧ca≤z)∧(0≤cb∧cb≤dv)→Op st (m+2) 39 (rE D C k r ca cb) ct ct' d zb bd rb):Op st (m+4) 39 D ct ct' (d+1) (z+zb+1) (tN k nd bd) rb:=Op.ofN F fun n hn sp ht pk τ ev K e h0 h1 h2 kk=>by
 have h22:∀K:V→St→Prop,MsQ st ct dv z (fun ca cb=>.dict (rE D C k r ca cb)) sp ht pk τ K→TabK.call ⟨aE prog n⟩ 22 [.loc 9,tN k nd bd,ev] (st ct sp ht pk τ) K:=fun K zz=>aN (d:=cV) (up1 hn) rfl rfl (aXg F (fun K q=>aTe F hv (dn1 hn) e h0 (fL h1).1 (iB h2 hdv) q) e hl c0 hc hk zz)
 have hb:=fun ca cb w=>hb ca cb w n hn
 generalize TabK.mk (aE prog n)=T at h22 hb ⊢
 conv=>whnf
 refine aF _ (aI F rfl rfl) ?_
 conv=>whnf
 refine aF _ (aI F rfl rfl) ?_
 conv=>whnf
 refine h22 _ fun sp1 pk1 τ1 ca cb b1 p1 t1 c1=>?_
 conv=>whnf
 refine hb ca cb c1 sp1 ht pk1 τ1 _ _ (.inl rfl) (nn h0 b1) ((fL h1).2 sp1 b1.2) h2 fun sp2 pk2 τ2 b2 p2 t2=>?_
 exact kk.two b1 (pL p1 hdv) t1 b2 p2 t2
end
noncomputable abbrev apV(p:Nat × Nat):V:=aMf (f2V sY (dH p.1) (dH p.2))
noncomputable def prs(iO:List Nat):List (Nat × Nat):=(List.range iO.length).flatMap fun k=>(iO.take k).map fun o=>(iO.getD k 0,o)
noncomputable def iO:Nat→List Nat→List Nat
 | _,[]=>[]
 | c,k::r=>lab k (c+1)::iO (c+1) r
theorem aDq{st:St→Bool}{bnd:V→Option aP}{ifs:aP→St→(Bool→St→Prop)→Prop}{body:List V→aP→St→(List V→St→Prop)→Prop}{l l' ds:List V}{σ:St}{k:List V→St→Prop}(e:l=l')(h:kLoopC st bnd ifs body l' ds σ k):kLoopC st bnd ifs body l ds σ k:=e▸h
theorem aCm{st:St→Bool}{bnd:V→aP→Option aP}{body:aP→St→(Out→Prop)→Prop}{l l':List V}{ρ:aP}{σ:St}{k:Out→Prop}(e:l=l')(h:dP st bnd body l' ρ σ k):dP st bnd body l ρ σ k:=e▸h
theorem gS{st:St→Bool}{bnd:V→aP→Option aP}{body:aP→St→(Out→Prop)→Prop}{v:V}{l:List V}{ρ ρ':aP}{σ:St}{k:Out→Prop}(h1:st σ=true)(h2:bnd v ρ=some ρ')(h:body ρ' σ fun o=>match o with
  | .next ρ σ=>dP st bnd body l ρ σ k
  | .ret v σ=>k (.ret v σ)):dP st bnd body (v::l) ρ σ k:=by
 unfold dP; exact cA h1 (aF ρ' h2 h)
theorem lN{st:St→Bool}{bnd:V→aP→Option aP}{body:aP→St→(Out→Prop)→Prop}{ρ:aP}{σ:St}{k:Out→Prop}(h1:st σ=true)(h:k (.next ρ σ)):dP st bnd body [] ρ σ k:=by
 unfold dP; exact cA h1 h
noncomputable def aOr:List S:=[.mth .app (.var 3) (.tup [(.var 13),(.var 10)]),
    .mth .ext (.var 4) (.comp (.gen (.one 15) (.val (.sl (.var 11) (.cst .none) (.var 12))) [(.var 6)] (.elt (.tup [(.cst (.str 488183397613685)),(.tup [(.cst (.str 1069911587283942768742)),(.tup [(.cst (.str 523367740342387)),(.var 13)]),(.tup [(.cst (.str 523367740342387)),(.var 15)])])]))))]
noncomputable def yL:S:=.for_ (.many [12,13]) (.enum (.var 11)) aOr
noncomputable def aLl:S:=.mth .upd (.var 2) (.comp (.gen (.many [16,17]) (.zip (.var 7) (.var 11)) [] (.elt (.tup [(.var 16),(.tup [(.cst (.str 523367740342387)),(.var 17)])]))))
noncomputable def aNa:S:=.asg (.item (.var 2) (.cst (.str 0))) (.bi .dict [(.comp (.gen (.many [18,19]) (.items (.get (.var 2) [(.cst (.str 0)),(.dict [])])) [(.cmp .notIn (.var 18) (.var 7))] (.elt (.tup [(.var 18),(.var 19)]))))])
noncomputable def aQr:S:=.ite (.cmp .notIn (.var 8) (.tup [(.cst (.str 0)),(.cst (.str 492581442027622))])) [.raise] []
noncomputable def kH:S:=.asgTs true [10,11] [(.meth (.var 0) 940784479923051954291 [(.var 9),(.var 2)]),(.comp (.gen (.one 14) (.val (.var 7)) [] (.elt (.meth (.var 0) 1992310811413141719202398313 [(.var 14)]))))]
noncomputable def aTo:S:=.ite (.cmp .ne (.meth (.var 0) 1895596745843988977414045818 [(.var 10)]) (.cst (.int 1))) [.raise] []
noncomputable def dcR(q:Nat)(dv:V)(x:List (Option V)):aP:=some (.loc 9)::some dv::some (.loc (11+(q+1)))::some (.loc (11+q))::some (.loc (11+(q+2)))::x
noncomputable def enV(q:Nat × Nat):V:=.tup [.int q.1,.str q.2]
noncomputable def apC(ap:Bool)(lb:List Nat)(q:Nat × Nat):List V:=((lb.take q.1).filter fun _=>ap).map fun o=>apV (q.2,o)
theorem bBi:∀lb:List Nat,lb.length≤2→(((List.range (lb.map V.str).length).zip (lb.map V.str)).map fun (q:Nat × V)=>V.tup [.int q.1,q.2])=((List.range lb.length).zip lb).map enV
 | [],_=>rfl
 | [_],_=>rfl
 | [_,_],_=>rfl
 | _::_::_::_,h=>absurd h (by simp only[List.length_cons]; lia)
theorem bAf{X:V}:∀lb:List Nat,lb.length≤2→(((List.range lb.length).zip lb).map fun (q:Nat × Nat)=>V.tup [.str q.2,X])=lb.map fun s=>V.tup [.str s,X]
 | [],_=>rfl
 | [_],_=>rfl
 | [_,_],_=>rfl
 | _::_::_::_,h=>absurd h (by simp only[List.length_cons]; lia)
theorem bAn{ap:Bool}:∀lb:List Nat,lb.length≤2→((List.range lb.length).zip lb).flatMap (apC ap lb)=(cond ap (prs lb) []).map apV
 | [],_=>by cases ap <;> rfl
 | [_],_=>by cases ap <;> rfl
 | [_,_],_=>by cases ap <;> rfl
 | _::_::_::_,h=>absurd h (by simp only[List.length_cons]; lia)
theorem bBz:∀lb:List Nat,∀q∈(List.range lb.length).zip lb,q.1≤lb.length:=fun lb q m=>Nat.le_of_lt (List.mem_range.mp (List.of_mem_zip m).1)
theorem aPe:∀ns lb:List Nat,(((ns.map V.str).zip (lb.map V.str)).map fun (x:V × V)=>V.tup [x.1,x.2])=(ns.zip lb).map fun (q:Nat × Nat)=>V.tup [.str q.1,.str q.2]
 | [],_=>rfl
 | _::_,[]=>rfl
 | k::ns,l::lb=>congrArg (V.tup [.str k,.str l]::·) (aPe ns lb)
theorem aGh{n k:Nat}(h:k≤n):iQ n (k:Int)=k:=by
 show (max 0 (min (if (k:Int)<0 then (k:Int)+n else k) n)).toNat=k
 refine rwS (if_neg (Int.not_lt.mpr (Int.natCast_nonneg k))) (rwS (Int.min_eq_left (Int.ofNat_le.mpr h)) (rwS (Int.max_eq_right (Int.natCast_nonneg k)) ?_)); rfl
theorem bBd{lb:List Nat}{k:Nat}(h:k≤lb.length)(hl:lb.length≤1000):xS (.list (lb.map V.str)) .none (.int (k:Nat))=some (.list ((lb.take k).map V.str)):=by
 show (if (lb.map V.str).length≤aU then some (V.list (cut (lb.map V.str) none (some (k:Int)))) else none)=_
 rw[List.length_map,if_pos (Nat.le_trans hl (by decide))]
 show some (V.list (((lb.map V.str).take (iQ (lb.map V.str).length (k:Int))).drop 0))=_
 have e:iQ (lb.map V.str).length (k:Int)=k:=aGh (by rw[List.length_map]; exact h)
 exact rwS e (rwS List.drop_zero (rwS List.map_take rfl))
section
variable{st:Stf}{τ τ' μ μ':St}{ct ct' sp ht pk x:Int}{f m n k d z op s q c j:Nat}{v e nd ev r r' X dv sv mk:V}{D C:Env}{T:TabK}{σ:St}{a b o:SObj}{l f0 a0:List V}{lb ns:List Nat}{ap:Bool}{K:Out→Prop}{x10 x11 x12 x13 x14 x15 x16 x17 x18 x19:Option V}
theorem aBg{m:Mth}(hm:aFu m (some (.list []))=true)(h:σ[j]?=some (.list l)):sV m (.loc j) σ=true:=by
 show aFu m σ[j]?=true
 refine rwS h ?_; cases m <;> first | rfl | cases hm
theorem g0:(τ++(a::b::o::μ))[τ.length]?=some a:=by rw[List.getElem?_append_right (Nat.le_refl _),Nat.sub_self]; rfl
theorem g1:(τ++(a::b::o::μ))[τ.length+1]?=some b:=by rw[List.getElem?_append_right (Nat.le_add_right ..),Nat.add_sub_cancel_left]; rfl
theorem g2:(τ++(a::b::o::μ))[τ.length+2]?=some o:=by rw[List.getElem?_append_right (Nat.le_add_right ..),Nat.add_sub_cancel_left]; rfl
theorem s0{x:SObj}:(τ++(a::b::o::μ)).set τ.length x=τ++(x::b::o::μ):=by rw[List.set_append_right _ _ (Nat.le_refl _),Nat.sub_self]; rfl
theorem s1{x:SObj}:(τ++(a::b::o::μ)).set (τ.length+1) x=τ++(a::x::o::μ):=by rw[List.set_append_right _ _ (Nat.le_add_right ..),Nat.add_sub_cancel_left]; rfl
theorem s2{x:SObj}:(τ++(a::b::o::μ)).set (τ.length+2) x=τ++(a::b::x::μ):=by rw[List.set_append_right _ _ (Nat.le_add_right ..),Nat.add_sub_cancel_left]; rfl
theorem bAb(F:SF st)(hl:(l++[v]).length≤aU):yK .app (.loc (11+τ.length)) v (st ct sp ht pk (τ++(.list l::b::o::μ)))=some (st ct sp ht pk (τ++(.list (l++[v])::b::o::μ))) :=
 (aIk (F.tau.trans g0) hl).trans (congrArg some (F.tset.trans (congrArg (st ct sp ht pk) s0)))
theorem bAw(F:SF st){ks:List V}(hl:(l++ks).length≤aU):yK .ext (.loc (11+(τ.length+2))) (.list ks) (st ct sp ht pk (τ++(a::b::.list l::μ)))=some (st ct sp ht pk (τ++(a::b::.list (l++ks)::μ))) :=
 (aWa (F.tau.trans g2) hl).trans (congrArg some (F.tset.trans (congrArg (st ct sp ht pk) s2)))
theorem bCe(F:SF st){ps:List (Nat × V)}(hl:D.length+ps.length≤aU):yK .upd (.loc (11+(τ.length+1))) (.list (mP ps)) (st ct sp ht pk (τ++(a::.dict D::o::μ)))=some (st ct sp ht pk (τ++(a::.dict (ext D ps)::o::μ))):=by
 show rK _ _ (11+(τ.length+1)) .upd (st ct sp ht pk (τ++(a::.dict D::o::μ)))[11+(τ.length+1)]?=_
 refine rwS F.tau (rwS g1 ?_)
 show (if D.length+(mP ps).length≤aU then (oT D (mP ps)).map (fun d=>(st ct sp ht pk (τ++(a::.dict D::o::μ))).set (11+(τ.length+1)) (.dict d)) else _)=_
 rw[if_pos (show D.length+(mP ps).length≤aU by delta mP; rw[List.length_map]; exact hl),pZ]
 show some ((st ct sp ht pk (τ++(a::.dict D::o::μ))).set (11+(τ.length+1)) (.dict (ext D ps)))=_
 exact rwS F.tset (rwS s1 rfl)
theorem bAs(F:SF st)(hl:D.length≤aU):lZ (.loc (11+(τ.length+1))) (.str k) v (st ct sp ht pk (τ++(a::.dict D::o::μ)))=some (st ct sp ht pk (τ++(a::.dict (aS (.str k) v D)::o::μ))):=by
 show lV (.str k) v (11+(τ.length+1)) (st ct sp ht pk (τ++(a::.dict D::o::μ))) (st ct sp ht pk (τ++(a::.dict D::o::μ)))[11+(τ.length+1)]?=_
 refine rwS F.tau (rwS g1 ?_)
 show (if (lA (.str k)&&decide (D.length≤aU))=true then some ((st ct sp ht pk (τ++(a::.dict D::o::μ))).set (11+(τ.length+1)) (.dict (aS (.str k) v D))) else _)=_
 refine rwS (decide_eq_true hl) (rwS F.tset (rwS s1 ?_)); rfl
theorem bCa(F:SF st):sV .app (.loc (11+τ.length)) (st ct sp ht pk (τ++(.list l::b::o::μ)))=true:=aBg rfl (F.tau.trans g0)
theorem bCh(F:SF st):sV .ext (.loc (11+(τ.length+2))) (st ct sp ht pk (τ++(a::b::.list l::μ)))=true:=aBg rfl (F.tau.trans g2)
theorem bBt(F:SF st):sV .upd (.loc (11+(τ.length+1))) (st ct sp ht pk (τ++(a::.dict D::o::μ)))=true:=by
 show aFu .upd (st ct sp ht pk (τ++(a::.dict D::o::μ)))[11+(τ.length+1)]?=_
 refine rwS F.tau (rwS g1 ?_); rfl
theorem ev1:Ev (τ++(a::.dict D::o::μ)) (.loc (11+(τ.length+1))) D:=.inr ⟨_,rfl,g1⟩
noncomputable abbrev nW(τ:St)(dv sv:V)(ap:Bool)(ns:List Nat)(mk nd:V)(x10 x11 x12 x13 x14 x15 x16 x17 x18 x19:Option V):aP:=dcR τ.length dv [some sv,some (.bool ap),some (.tup (ns.map V.str)),some mk,some nd,x10,x11,x12,x13,x14,x15,x16,x17,x18,x19]
theorem aLv{q:Nat × Nat}(h:lb.length≤2):(apC ap lb q).length≤2:=by
 delta apC; rw[List.length_map]
 exact Nat.le_trans (List.length_filter_le ..) (Nat.le_trans (List.length_take_le' ..) h)
theorem aQa(F:SF st)(hl:lb.length≤2)(rest:List (Nat × Nat)):∀(f1 a1:List V) (x12 x13:Option V),(∀q∈rest,q.1≤lb.length)→f1.length+rest.length≤2000→a1.length+rest.length*2≤2000 →
  (∀x12 x13,K (.next (nW τ dv sv ap ns mk nd (some X) (some (.list (lb.map V.str))) x12 x13 x14 x15 x16 x17 x18 x19) (st ct sp ht pk (τ++(.list (f1++rest.map fun (q:Nat × Nat)=>V.tup [.str q.2,X])::o::.list (a1++rest.flatMap (apC ap lb))::μ))))) →
  dP (dZ none []) (fun v ρ=>dQ ρ (.many [12,13]) v) (fun ρ σ k=>kSs prog T aOr ρ σ k) (rest.map enV)
   (nW τ dv sv ap ns mk nd (some X) (some (.list (lb.map V.str))) x12 x13 x14 x15 x16 x17 x18 x19) (st ct sp ht pk (τ++(.list f1::o::.list a1::μ))) K:=by
 induction rest with
 | nil =>
  intro f1 a1 x12 x13 _ _ _ z
  have z:=z x12 x13
  rw[List.map_nil,List.flatMap_nil,List.append_nil,List.append_nil]at z
  exact lN rfl z
 | cons q rest ih =>
  intro f1 a1 x12 x13 le lf la z
  rw[List.length_cons,← Nat.add_assoc,Nat.add_right_comm]at lf
  rw[List.length_cons,Nat.succ_mul,Nat.add_comm _ 2,← Nat.add_assoc]at la
  refine gS rfl rfl ?_
  conv=>whnf
  refine cA (bCa F) ?_
  conv=>whnf
  refine aF _ (bAb F (by refine rwS List.length_append ?_; exact Nat.le_trans (Nat.le_add_right ..) (Nat.le_trans lf (by decide)))) ?_
  conv=>whnf
  refine cA (bCh F) ?_
  conv=>whnf
  refine aF _ (bBd (le q (List.mem_cons_self ..)) (Nat.le_trans hl (by decide))) ?_
  conv=>whnf
  refine eM (α:=Nat) V.str (fun o=>apV (q.2,o)) (fun _=>ap) (Nat.le_trans (List.length_take_le ..) (Nat.le_trans (Nat.le_trans (le q (List.mem_cons_self ..)) hl) (by decide))) rfl (fun i _=>⟨_,rfl,fun ds kk b zz=>?_⟩) ?_
  ·conv=>whnf
   exact iU b zz
  ·conv=>whnf
   have la2:(a1++apC ap lb q).length+rest.length*2≤2000:=Nat.le_trans (Nat.add_le_add_right (by refine rwS List.length_append ?_; exact Nat.add_le_add_left (aLv (ap:=ap) (q:=q) hl) _) _) la
   refine aF _ (bAw F (Nat.le_trans (Nat.le_add_right ..) (Nat.le_trans la2 (by decide)))) ?_
   refine ih (f1++[V.tup [.str q.2,X]]) (a1++apC ap lb q) _ _ (fun q m=>le q (List.mem_cons_of_mem _ m)) (by refine rwS List.length_append ?_; exact lf) la2 fun y12 y13=>?_
   rw[List.append_assoc,List.append_assoc]
   exact z y12 y13
theorem aWo(F:SF st)(hl:lb.length≤2)(lf:f0.length≤1000)(la:a0.length≤1000)
  (z:∀x12 x13,K (.next (nW τ dv sv ap ns mk nd (some X) (some (.list (lb.map V.str))) x12 x13 x14 x15 x16 x17 x18 x19) (st ct sp ht pk (τ++(.list (f0++lb.map fun s=>V.tup [.str s,X])::o::.list (a0++(cond ap (prs lb) []).map apV)::μ))))) :
  kS prog T yL (nW τ dv sv ap ns mk nd (some X) (some (.list (lb.map V.str))) x12 x13 x14 x15 x16 x17 x18 x19) (st ct sp ht pk (τ++(.list f0::o::.list a0::μ))) K:=by
 refine aCm (bBi lb hl) ?_
 have lz:((List.range lb.length).zip lb).length≤2:=by rw[List.length_zip,List.length_range,Nat.min_self]; exact hl
 refine aQa F hl _ f0 a0 x12 x13 (bBz lb) (Nat.le_trans (Nat.add_le_add lf lz) (by decide)) (Nat.le_trans (Nat.add_le_add la (Nat.mul_le_mul_right 2 lz)) (by decide)) fun y12 y13=>?_
 refine rwS (bAf lb hl) (rwS (bAn lb hl) ?_)
 exact z y12 y13
end
noncomputable def flC(ns:List Nat)(C:Env):Env:=C.filter fun p=>!((ns.map V.str).any fun y=>V.beq y p.1)
noncomputable def nxD(D C:Env)(c:Nat)(ns:List Nat):Env:=aS (.str 0) (.dict (flC ns C)) (ext D ((ns.zip (iO c ns)).map fun q=>(q.1,dH q.2)))
theorem mB{l:Nat}{v:V}{e:Env}:aK (.str l) (aS (.str l) v e)=some v:=bT.trans (if_pos rfl)
theorem dM{k l:Nat}{v:V}{e:Env}(h:k≠l):aK (.str k) (aS (.str l) v e)=aK (.str k) e:=bT.trans (if_neg h)
theorem tZ{k:Nat}:∀{ps:List (Nat × V)} {D:Env},(∀p∈ps,p.1≠k)→aK (.str k) (ext D ps)=aK (.str k) D
 | [],_,_=>rfl
 | p::ps,D,h=>(tZ (ps:=ps) (D:=aS (.str p.1) p.2 D) fun q m=>h q (List.mem_cons_of_mem _ m)).trans (dM (Ne.symm (h p (List.mem_cons_self ..))))
theorem Dk.flC{ns:List Nat}{C:Env}(h:Dk C):Dk (flC ns C):=⟨fun p m=>h.ks p (List.mem_filter.mp m).1,h.nd.sublist (List.filter_sublist.map _)⟩
theorem tK{ns:List Nat}{C:Env}:(flC ns C).length≤C.length:=List.length_filter_le ..
theorem pG:∀(ns:List Nat) (c:Nat),(iO c ns).length=ns.length
 | [],_=>rfl
 | _::ns,c=>congrArg (· + 1) (pG ns (c+1))
theorem kn0{ns:List Nat}(h:∀k∈ns,k∈aM){lb:List Nat}:∀p∈(ns.zip lb).map fun (q:Nat × Nat)=>(q.1,dH q.2),p.1≠0:=fun p m=>by
 refine e12 (List.mem_map.mp m) fun q mq e_2=>?_; subst e_2
 exact fun e=>absurd (e▸h q.1 (List.of_mem_zip mq).1) (by decide)
theorem yV{D C:Env}{ns:List Nat}{c:Nat}(h:ns.length≤2):(nxD D C c ns).length≤D.length+3:=by
 refine Nat.le_trans gN (Nat.succ_le_succ (Nat.le_trans tR (Nat.add_le_add_left ?_ _)))
 rw[List.length_map,List.length_zip]; exact Nat.le_trans (Nat.min_le_left ..) h
section
variable{st:Stf}{τ τ' μ μ':St}{ct ct' sp ht pk x:Int}{f m n k d z op s q c j:Nat}{v e nd ev r r' X dv sv mk:V}{D C:Env}{T:TabK}{σ:St}{a b o:SObj}{l f0 a0:List V}{lb ns:List Nat}{ap:Bool}{K:Out→Prop}{x10 x11 x12 x13 x14 x15 x16 x17 x18 x19:Option V}{R:List Mine.Internal.S}
theorem aOb(h:Dk D)(hl:D.length≤1000):biE σ .dict [.list (dL D)]=some (.dict D):=by
 have w:=vK (d:=D) (ps:=[]) (σ:=σ) h (Nat.le_trans hl (by decide))
 rw[show dL D++mP []=dL D from List.append_nil _]at w
 exact w
theorem aZp(F:SF st)(hl:lb.length=ns.length)(h3:ns.length≤2)(lD:D.length≤1000)
  (z:∀x16 x17,K (.next (nW τ dv sv ap ns mk nd x10 (some (.list (lb.map V.str))) x12 x13 x14 x15 x16 x17 x18 x19) (st ct sp ht pk (τ++(a::.dict (ext D ((ns.zip lb).map fun q=>(q.1,dH q.2)))::o::μ))))) :
  kS prog T aLl (nW τ dv sv ap ns mk nd x10 (some (.list (lb.map V.str))) x12 x13 x14 x15 x16 x17 x18 x19) (st ct sp ht pk (τ++(a::.dict D::o::μ))) K:=by
 have zl:(ns.zip lb).length≤2:=by refine rwS List.length_zip ?_; exact Nat.le_trans (Nat.min_le_left ..) h3
 conv=>whnf
 refine cA (bBt F) ?_
 conv=>whnf
 refine cA (decide_eq_true (by rw[List.length_map,List.length_map]; exact hl)) ?_
 refine aDq (aPe ns lb) ?_
 refine cP (α:=Nat × Nat) (fun q=>V.tup [.str q.1,.str q.2]) (fun q=>V.tup [.str q.1,dH q.2]) (Nat.le_trans zl (by decide)) rfl (fun i _=>⟨_,rfl,fun ds kk b zz=>?_⟩) ?_
 ·exact cA (le1 b) zz
 ·have e:((ns.zip lb).map fun (q:Nat × Nat)=>V.tup [.str q.1,dH q.2])=mP ((ns.zip lb).map fun q=>(q.1,dH q.2)):=by delta mP; refine rwS List.map_map ?_; rfl
  refine rwS e ?_
  have el:((ns.zip lb).map fun (q:Nat × Nat)=>(q.1,dH q.2)).length≤2:=by rw[List.length_map]; exact zl
  conv=>whnf
  refine aF _ (bCe F (Nat.le_trans (Nat.add_le_add lD el) (by decide))) ?_
  exact z _ _
theorem aVk:∀y∈ns.map V.str,cF 24 y=true:=fun y m=>(List.mem_map.mp m).elim fun a q=>q.2▸rfl
theorem aZg(F:SF st)(c0:(aK (.str 0) D).getD (.dict [])=.dict C)(hC:Dk C)(lC:C.length≤1000)(lD:D.length≤1000)
  (z:∀x18 x19,K (.next (nW τ dv sv ap ns mk nd x10 x11 x12 x13 x14 x15 x16 x17 x18 x19) (st ct sp ht pk (τ++(a::.dict (aS (.str 0) (.dict (flC ns C)) D)::o::μ))))) :
  kS prog T aNa (nW τ dv sv ap ns mk nd x10 x11 x12 x13 x14 x15 x16 x17 x18 x19) (st ct sp ht pk (τ++(a::.dict D::o::μ))) K:=by
 conv=>whnf
 refine cA (by refine rwS (ev1.as F) ?_; rfl) ?_
 conv=>whnf
 refine aF _ (ev1.as F) ?_
 conv=>whnf
 refine rwS c0 ?_
 conv=>whnf
 refine eM (α:=V × V) (fun q=>V.tup [q.1,q.2]) (fun q=>V.tup [q.1,q.2]) (fun p=>!((ns.map V.str).any fun y=>V.beq y p.1)) (Nat.le_trans lC (by decide)) rfl (fun p mp=>⟨_,rfl,fun ds kk b zz=>?_⟩) ?_
 ·refine e1 (hC.ks p mp) fun s es=>?_
  obtain⟨p1,p2⟩:=p
  cases (es:p1=.str s)
  conv=>whnf
  refine aF _ (congrArg (Option.map (!·)) (aGt (k:=.str s) (l:=ns.map V.str) rfl aVk)) ?_
  conv=>whnf
  exact iU b zz
 ·conv=>whnf
  refine aF _ (aOb (D:=flC ns C) hC.flC (Nat.le_trans tK lC)) ?_
  conv=>whnf
  refine aF _ (bAs F (Nat.le_trans lD (by decide))) ?_
  exact z _ _
theorem aQb(F:SF st){x10 x11 x12 x13 x15 x16 x17 x18 x19:Option V}{kk:List V→St→Prop}(rest:List Nat)
  (h4:∀k∈rest,∀c∈List.range 12,∀sp ht pk τ (K:V→St→Prop),K (.str (lab k (c+1))) (st (c+1:Nat) sp ht pk τ)→T.call 4 [.loc 9,.str k] (st c sp ht pk τ) K):∀(c:Nat) (ds:List V),c+rest.length≤12→ds.length≤c→kk (ds++(iO c rest).map V.str) (st (c+rest.length:Nat) sp ht pk τ') →
  eJ (dZ none []) (dQ (nW τ dv sv ap ns mk nd x10 x11 x12 x13 none x15 x16 x17 x18 x19) (.one 14)) (fun ρ σ k=>vR prog T [] ρ σ k) (fun ds ρ σ k=>kC prog T (.elt (.meth (.var 0) 1992310811413141719202398313 [(.var 14)])) ds ρ σ k) (rest.map V.str) ds (st c sp ht pk τ') kk:=by
 induction rest with
 | nil=>exact fun c ds _ _ z=>cA rfl (ap0 (p:=fun l=>kk l _) z)
 | cons i rest ih =>
  intro c ds hc hd z
  rw[List.length_cons,← Nat.add_assoc,Nat.add_right_comm]at hc z
  have hc5:c+1≤12:=Nat.le_trans (Nat.le_add_right ..) hc
  refine cA rfl (aF _ rfl ?_)
  conv=>whnf
  refine aF _ (aI F rfl rfl) ?_
  conv=>whnf
  refine h4 i (List.mem_cons_self ..) c (List.mem_range.mpr hc5) _ _ _ _ _ ?_
  conv=>whnf
  refine cA (decide_eq_true (Nat.le_trans hd (Nat.le_trans (Nat.le_of_succ_le hc5) (by decide)))) ?_
  refine ih (fun k m=>h4 k (List.mem_cons_of_mem _ m)) (c+1) (ds++[.str (lab i (c+1))]) hc (by refine rwS List.length_append ?_; exact Nat.succ_le_succ hd) ?_
  rw[List.append_assoc]
  exact z
structure DT(st:Stf)(T:TabK):Prop where
 fr:∀k∈aM,∀c∈List.range 12,∀sp ht pk τ (K:V→St→Prop),K (.str (lab k (c+1))) (st (c+1:Nat) sp ht pk τ)→T.call 4 [.loc 9,.str k] (st c sp ht pk τ) K
noncomputable def ArT(st:Stf)(T:TabK)(X:V):Prop:=∀ct sp ht pk τ (K:V→St→Prop),K (.int 1) (st ct sp ht pk τ)→T.call 13 [.loc 9,X] (st ct sp ht pk τ) K
theorem aYx(F:SF st)(hm:zP mk [.str 0,.str 492581442027622]=some true)(hx:OpT st T 32 D c c d z nd X)(hf:DT st T)(hn:∀k∈ns,k∈aM)(h13:ArT st T X)(hc:c+ns.length≤12)(b0:0≤sp)(b1:sp+z≤20000)(b2:ht+d≤100)
  (zz:∀sp' pk' μ' x14,sp≤sp'∧sp'≤sp+z→pk≤pk'∧(pk'≤pk∨pk'≤ht+d)→kSs prog T R (nW τ dv sv ap ns mk nd (some X) (some (.list ((iO c ns).map V.str))) x12 x13 x14 x15 x16 x17 x18 x19) (st (c+ns.length:Nat) sp' ht pk' (τ++(.list f0::.dict D::.list a0::μ'))) K) :
  kSs prog T (aQr::kH::aTo::R) (nW τ dv sv ap ns mk nd x10 x11 x12 x13 x14 x15 x16 x17 x18 x19) (st c sp ht pk (τ++(.list f0::.dict D::.list a0::μ))) K:=by
 conv=>whnf
 refine aF (!true) (congrArg (Option.map (!·)) hm) ?_
 conv=>whnf
 refine aF _ (aI F rfl rfl) ?_
 conv=>whnf
 refine hx sp ht pk _ _ _ ev1 b0 b1 b2 fun sp' pk' τ' q1 q2 t1=>?_
 conv=>whnf
 delta kLoopC
 refine aQb F (τ:=τ) (dv:=dv) ns (fun k m=>hf.fr k (hn k m)) c [] hc (Nat.zero_le _) ?_
 conv=>whnf
 refine aF _ (aI F rfl rfl) ?_
 conv=>whnf
 refine h13 _ _ _ _ _ _ ?_
 obtain⟨t,rfl⟩:=t1
 rw[List.append_assoc]
 exact zz sp' pk' _ _ q1 q2
end
structure Dc where
 ap:Bool
 ns:List Nat
 mk':Nat
 s:V
 X:V
noncomputable def Dc.v(d:Dc):V:=gB d.ap d.ns d.mk' d.s
noncomputable def mJ:List Dc→Nat
 | []=>0
 | d::r=>d.ns.length+mJ r
noncomputable def fG:Nat→List Dc→List V
 | _,[]=>[]
 | c,d::r=>(iO c d.ns).map (fun s=>V.tup [.str s,d.X])++fG (c+d.ns.length) r
noncomputable def tD:Nat→List Dc→List V
 | _,[]=>[]
 | c,d::r=>(cond d.ap (prs (iO c d.ns)) []).map apV++tD (c+d.ns.length) r
noncomputable def yE:Nat→Env→Env→List Dc→Env
 | _,D,_,[]=>D
 | c,D,C,d::r=>yE (c+d.ns.length) (nxD D C c d.ns) (flC d.ns C) r
noncomputable def aLw(st:Stf)(T:TabK):Nat→Env→Env→List Dc→Prop
 | _,_,_,[]=>True
 | c,D,C,x::r=>((zP (.str x.mk') [.str 0,.str 492581442027622]=some true∧((∀k∈x.ns,k∈aM)∧x.ns.length≤2))∧(OpT st T 32 D c c 20 20 x.s x.X∧ArT st T x.X))∧(((aK (.str 0) D).getD (.dict [])=.dict C∧(Dk C∧(C.length≤1000∧D.length≤900)))∧aLw st T (c+x.ns.length) (nxD D C c x.ns) (flC x.ns C) r)
noncomputable def bCb:S:=.asgTs true [3,2,4] [(.mut (.list [])),(.mut (.bi .dict [(.var 2)])),(.mut (.list []))]
noncomputable def bBh:S:=.for_ (.many [5,6,7,8,9]) (.val (.var 1)) [aQr,kH,aTo,yL,aLl,aNa]
noncomputable def aMc:S:=.ret (.tup [(.bi .tuple [(.var 3)]),(.var 2),(.var 4)])
theorem aJj{lb:List Nat}(h:lb.length≤2):(prs lb).length≤4:=by
 refine Nat.le_trans (qQ (c:=2) fun i _=>?_) (show (List.range lb.length).length*2≤4 by refine rwS List.length_range ?_; lia)
 rw[List.length_map]; exact Nat.le_trans (List.length_take_le' ..) h
theorem aUg{ap:Bool}{lb:List Nat}(h:lb.length≤2):((cond ap (prs lb) []).map apV).length≤4:=by
 rw[List.length_map]
 cases ap with
 | false=>exact Nat.zero_le _
 | true=>exact aJj h
noncomputable abbrev aZk(x:Nat→Option V):List (Option V):=[x 5,x 6,x 7,x 8,x 9,x 10,x 11,x 12,x 13,x 14,x 15,x 16,x 17,x 18,x 19]
theorem wN:∀(cs:List Dc) (c:Nat),(fG c cs).length=mJ cs
 | [],_=>rfl
 | d::r,c=>by
  show (List.map _ (iO c d.ns)++fG (c+d.ns.length) r).length=d.ns.length+mJ r
  rw[List.length_append,List.length_map,pG,wN r]
section
variable{st:Stf}{τ τ' μ μ':St}{ct ct' sp ht pk x:Int}{f m n d z op s q c j:Nat}{v e nd ev r X dv sv mk bs:V}{D C:Env}{T:TabK}{σ:St}{a b o:SObj}{l f0 a0:List V}{lb ns:List Nat}{ap:Bool}{K:V→St→Prop}{k:Out→Prop}{x10 x11 x12 x13 x14 x15 x16 x17 x18 x19:Option V}{R:List Mine.Internal.S}
theorem aZo(F:SF st)(hd:∀τ',τ <+: τ'→biE (st ct sp ht pk τ') .dict [ev]=some (.dict D))
  (z:kSs prog T R (dcR τ.length dv [none,none,none,none,none,none,none,none,none,none,none,none,none,none,none]) (st ct sp ht pk (τ++[.list [],.dict D,.list []])) k) :
  kSs prog T (bCb::R) (bH bQ [.loc 9,dv,ev]) (st ct sp ht pk τ) k:=by
 conv=>whnf
 refine rwS F.push (rwS F.len ?_)
 refine aF _ (hd _ (List.prefix_append ..)) ?_
 conv=>whnf
 rw[F.push,F.len,F.push,F.len,List.append_assoc,List.append_assoc,List.length_append,List.length_append]
 exact z
theorem aXb(F:SF st)(hf:DT st T)(b2:ht+20≤100)(cs:List Dc):∀(c:Nat) (sp pk:Int) (D C:Env) (f1 a1:List V) (μ:St) (x:Nat→Option V),aLw st T c D C cs→c+mJ cs≤12→f1.length≤c→a1.length+4*cs.length≤500→0≤sp→sp+20*cs.length≤20000 →
   (∀(x:Nat→Option V) (sp' pk':Int) (μ':St),sp≤sp'∧sp'≤sp+20*cs.length→pk≤pk'∧(pk'≤pk∨pk'≤ht+20)→k (.next (dcR τ.length bs (aZk x)) (st (c+mJ cs:Nat) sp' ht pk' (τ++(.list (f1++fG c cs)::.dict (yE c D C cs)::.list (a1++tD c cs)::μ'))))) →
   dP (dZ none []) (fun v ρ=>dQ ρ (.many [5,6,7,8,9]) v) (fun ρ σ k=>kSs prog T [aQr,kH,aTo,yL,aLl,aNa] ρ σ k) (cs.map Dc.v) (dcR τ.length bs (aZk x)) (st c sp ht pk (τ++(.list f1::.dict D::.list a1::μ))) k:=by
 induction cs with
 | nil =>
  intro c sp pk D C f1 a1 μ x _ _ _ _ _ _ z
  have z:=z x sp pk μ ⟨Int.le_refl _,Int.le_of_eq (Int.add_zero sp).symm⟩ ⟨Int.le_refl _,.inl (Int.le_refl _)⟩
  rw[show f1++fG c []=f1 from List.append_nil _,show a1++tD c []=a1 from List.append_nil _]at z
  exact lN rfl z
 | cons cc cs ih =>
  intro c sp pk D C f1 a1 μ x ok hc hf1 ha1 b0 b1 z
  obtain⟨⟨⟨hm,hn,h2⟩,hx,h13⟩,⟨c0,hC,lC,lD⟩,gR⟩:=ok
  have hc:c+(cc.ns.length+mJ cs)≤12:=hc
  have b1:sp+20*((cs.length:Int)+1)≤20000:=b1
  rw[List.length_cons,Nat.mul_succ]at ha1
  have l2:(iO c cc.ns).length=cc.ns.length:=pG _ _
  have l2s:(iO c cc.ns).length≤2:=l2▸h2
  have h5:c+cc.ns.length≤12:=Nat.le_trans (Nat.add_le_add_left (Nat.le_add_right ..) _) hc
  refine gS (ρ':=nW τ bs (.int 0) cc.ap cc.ns (.str cc.mk') cc.s (x 10) (x 11) (x 12) (x 13) (x 14) (x 15) (x 16) (x 17) (x 18) (x 19)) rfl rfl ?_
  refine aYx F (τ:=τ) (dv:=bs) (sv:=.int 0) (ap:=cc.ap) (ns:=cc.ns) (mk:=.str cc.mk') (nd:=cc.s) (X:=cc.X) (d:=20) (z:=20) (R:=[yL,aLl,aNa]) hm hx hf hn h13 h5 b0 (by lia) b2 fun sp1 pk1 μ1 x14 q1 q2=>?_
  refine aWo F (τ:=τ) l2s (by lia) (by lia) fun x12 x13=>?_
  refine aZp F (τ:=τ) l2 h2 (by lia) fun x16 x17=>?_
  refine aZg F (τ:=τ) (C:=C) ((congrArg (Option.getD · _) (tZ (kn0 hn))).trans c0) hC lC (Nat.le_trans tR (by rw[List.length_map,List.length_zip]; exact Nat.le_trans (Nat.add_le_add lD (Nat.le_trans (Nat.min_le_left ..) h2)) (by decide))) fun x18 x19=>?_
  have la:=aUg (ap:=cc.ap) l2s
  refine ih (c+cc.ns.length) sp1 pk1 (nxD D C c cc.ns) (flC cc.ns C) (f1++(iO c cc.ns).map (fun s=>V.tup [.str s,cc.X])) (a1++(cond cc.ap (prs (iO c cc.ns)) []).map apV) μ1 (fun i=>([none,none,none,none,none,some (.int 0),some (.bool cc.ap),some (.tup (cc.ns.map V.str)),some (.str cc.mk'),some cc.s,some cc.X,some (.list ((iO c cc.ns).map V.str)),x12,x13,x14,x 15,x16,x17,x18,x19]:aP).getD i none) gR (Nat.add_assoc ..▸hc) ?_ ?_ (by lia) (by lia) fun x' sp' pk' μ' q e=>?_
  ·rw[List.length_append,List.length_map,l2]
   exact Nat.add_le_add_right hf1 _
  ·refine rwS List.length_append ?_; lia
  ·rw[List.append_assoc,List.append_assoc,Nat.add_assoc]
   exact z x' sp' pk' μ' ⟨by lia,by show sp'≤sp+20*((cs.length:Int)+1); lia⟩ (by lia)
theorem aZt(F:SF st)(hf:DT st T)(cs:List Dc)(hd:∀τ',τ <+: τ'→biE (st c sp ht pk τ') .dict [ev]=some (.dict D))(ok:aLw st T c D C cs)(hc:c+mJ cs≤12)(hl:cs.length≤10)(b0:0≤sp)(b1:sp+20*cs.length≤20000)(b2:ht+20≤100)
  (z:∀(sp' pk':Int) (μ':St),sp≤sp'∧sp'≤sp+20*cs.length→pk≤pk'∧(pk'≤pk∨pk'≤ht+20)→K (.tup [.tup (fG c cs),.loc (11+(τ.length+1)),.loc (11+(τ.length+2))]) (st (c+mJ cs:Nat) sp' ht pk' (τ++(.list (fG c cs)::.dict (yE c D C cs)::.list (tD c cs)::μ')))) :
  kSs prog T bQ.body (bH bQ [.loc 9,.tup (cs.map Dc.v),ev]) (st c sp ht pk τ) (cG K):=by
 refine aZo F (R:=[bBh,aMc]) (D:=D) hd ?_
 refine aXb F hf (bs:=.tup (cs.map Dc.v)) b2 cs c sp pk D C [] [] [] (fun _=>none) ok hc (Nat.zero_le _) (by refine rwS List.length_nil ?_; lia) b0 b1 fun x sp' pk' μ' q e=>?_
 have hb:biE (st (c+mJ cs:Nat) sp' ht pk' (τ++(.list ([]++fG c cs)::.dict (yE c D C cs)::.list ([]++tD c cs)::μ'))) .tuple [.loc (11+τ.length)]=some (.tup (fG c cs)):=by
  show ((rP (st (c+mJ cs:Nat) sp' ht pk' (τ++(.list ([]++fG c cs)::.dict (yE c D C cs)::.list ([]++tD c cs)::μ')))[11+τ.length]?).bind cR).map V.tup=_
  refine rwS F.tau (rwS g0 ?_)
  show (cR (fG c cs)).map V.tup=_
  refine rwS (fC (wN cs c▸Nat.le_trans (Nat.le_trans (Nat.le_add_left ..) hc) (by decide))) ?_; rfl
 conv=>whnf
 refine aF _ hb ?_
 exact z sp' pk' μ' q e
end
section
variable{st:Stf}{τ τ' μ μ':St}{ct ct' sp ht pk x:Int}{f m n d z zb op s q c j:Nat}{v e nd ev r w bd rb:V}{D C:Env}{T:TabK}{σ:St}{K:V→St→Prop}{cs:List Dc}{l:List V}
theorem aXr(F:SF st)(hn:1≤n):DT st ⟨aE prog n⟩:=⟨fun k hk c hc sp ht pk τ K z=>eqn (F.fr k hk c hc · sp ht pk τ K) hn z⟩
theorem aKz(hn:1≤n)(h:σ[j]?=some (.list [v]))(z:K v σ):aE prog n 1 [.loc j] σ K:=aN (d:=oU) hn rfl rfl (by
 have ha:cH σ (.loc j)=some [v]:=by show rP σ[j]?=_; refine rwS h ?_; rfl
 have hl:biE σ .len [.loc j]=some (.int 1):=by
  show ((cH σ (.loc j)).bind cR).map _=_
  refine rwS ha ?_; rfl
 have hi:gJ σ (.loc j) (.int 0)=some v:=by
  show (cH σ (.loc j)).bind _=_
  refine rwS ha ?_; rfl
 generalize TabK.mk (aE prog (n - 1))=T
 conv=>whnf
 refine aF _ hl ?_
 conv=>whnf
 refine aF _ hi ?_
 exact z)
noncomputable def aXx(l:List V)(rb w:V):Prop:=l=[]∧w=rb∨∃f,l=[f]∧(cF 23 f=true∧w=chV f rb (n0V 0))
noncomputable def zA(told:List V)(w:V):V:=.tup [.str aJu,.tup told,w]
theorem aBr(h:σ[j]?=some (.list l)):iE σ (.loc j)=.list l:=by
 show yW j σ[j]?=_
 refine rwS h ?_; rfl
theorem yN(F:SF st)(cs:List Dc)(hl:cs.length≤10)(ok:∀n,m≤n→aLw st ⟨aE prog n⟩ c D C cs)(hc:c+mJ cs≤12)(lD:D.length≤900)(hd:20≤d)(hs:aXx (tD c cs) rb w)(hm:1≤m)(hb:Op st m 39 (yE c D C cs) (c+mJ cs:Nat) ct' d zb bd rb):Op st (m+3) 39 D c ct' (d+1) (20*cs.length+zb+1) (eT (cs.map Dc.v) bd) (zA (fG c cs) w):=Op.ofN F (m:=m+1) fun n hn sp ht pk τ ev K e h0 h1 h2 k=>by
 have b1:=(fL h1).1
 have hdx:∀K:V→St→Prop,(∀(sp' pk':Int) (μ':St),sp≤sp'∧sp'≤sp+20*cs.length→pk≤pk'∧(pk'≤pk∨pk'≤ht+20)→K (.tup [.tup (fG c cs),.loc (11+(τ.length+1)),.loc (11+(τ.length+2))]) (st (c+mJ cs:Nat) sp' ht pk' (τ++(.list (fG c cs)::.dict (yE c D C cs)::.list (tD c cs)::μ'))))→TabK.call ⟨aE prog n⟩ 30 [.loc 9,.tup (cs.map Dc.v),ev] (st c sp ht pk τ) K:=fun K z =>
  aN (d:=bQ) (up1 hn) rfl rfl (aZt F (aXr F (Nat.le_trans hm (dn1 hn))) cs (fun τ' p=>qA ((e.pre p).as F) (Nat.le_trans lD (by decide))) (ok (n - 1) (dn1 hn)) hc hl h0 (by lia) (by lia) z)
 have hb:=hb n (Nat.le_of_succ_le hn)
 have hall:∀(j:Nat) (v:V) (σ:St) (K:V→St→Prop),σ[j]?=some (.list [v])→K v σ→TabK.call ⟨aE prog n⟩ 1 [.loc j] σ K:=fun j v σ K h z=>aKz (up1 hn) h z
 generalize TabK.mk (aE prog n)=T at hdx hb hall ⊢
 conv=>whnf
 refine aF _ (aI F rfl rfl) ?_
 conv=>whnf
 refine hdx _ fun sp1 pk1 μ1 q1 e1=>?_
 conv=>whnf
 refine aF _ (aI F rfl rfl) ?_
 conv=>whnf
 refine hb sp1 ht pk1 _ _ _ ev1 (by lia) (by lia) h2 fun sp2 pk2 τ2 b2 p2 t2=>?_
 have ha:(st ct' sp2 ht pk2 τ2)[11+(τ.length+2)]?=some (.list (tD c cs)):=F.tau.trans (fY t2 g2)
 have kk:K (zA (fG c cs) w) (st ct' sp2 ht pk2 τ2):=k sp2 pk2 τ2 ⟨by lia,by lia⟩ ⟨by lia,by lia⟩ ((List.prefix_append ..).trans t2)
 rcases hs with ⟨e0,rfl⟩ | ⟨f,e0,hf,rfl⟩
 ·rw[e0]at ha
  conv=>whnf
  refine aF (!V.beq (.list []) (.list [])) (by show (nU (iE _ (.loc _)) _).map _=_; refine rwS (aBr ha) ?_; rfl) ?_
  exact kk
 ·rw[e0]at ha
  conv=>whnf
  refine aF (!V.beq (.list [f]) (.list [])) (by
   show (nU (iE _ (.loc _)) (.list [])).map _=_
   refine rwS (aBr ha) (rwS (yR (by show (cF 23 f&&true)=true; rw[hf]; rfl) rfl) ?_); rfl) ?_
  conv=>whnf
  refine hall _ _ _ _ ha ?_
  exact kk
end
structure Wo where
 a:List Int
 b:List Int
 f:List (Int × Int)
 ha:At1 a
 hb:At1 b
 hf:FOk f
noncomputable def Wo.v(w:Wo):V:=mS w.a w.b w.f
noncomputable def Vl(s:Nat)(v:V):Prop:=if s=bN then ∃i:Int,v=.int i∧i.natAbs≤3 else ∃l,v=.list (aJ l)∧At1 l
structure Ee(S E:Env):Prop where
 nm:∀{k s},aK (.str k) S=some (.str s)→∃v,aK (.str k) E=some v∧Vl s v
 kn:∀p∈E,∃s∈aM,p.1=.str s
 nd:(E.map (·.1)).Nodup
noncomputable def Agr(c:Nat)(e e':Env):Prop:=∀k∈aM,∀j<c,aK (.str (lab k (j+1))) e'=aK (.str (lab k (j+1))) e
noncomputable abbrev Gf:=Nat→V
structure Fi(q c:Nat)(S:Env)(g:Gf)(E:Env)(w:Wo)(e:Env):Prop where
 nm:∀{k s},aK (.str k) S=some (.str s)→∃v,aK (.str k) E=some v∧∀e',Dk e'→e'.length≤50→Agr c e e'→Td q (g k) e' w.v v
noncomputable def nmf(D:Env):Gf:=fun k=>if k=0 then .none else (aK (.str k) D).getD .none
noncomputable def eZ(g:Gf)(k:Nat)(r:V):Gf:=fun j=>if j=k then r else g j
section
variable{q c d k s z n m:Nat}{S D C E e e' e2:Env}{w:Wo}{v r nd a b:V}{ca cb:Int}
theorem Agr.refl:Agr c e e:=fun _ _ _ _=>rfl
theorem Agr.trans(h:Agr c e e')(h2:Agr c e' e2):Agr c e e2:=fun k m j l=>(h2 k m j l).trans (h k m j l)
theorem Agr.dn{c':Nat}(h:Agr c' e e')(l:c≤c'):Agr c e e':=fun k m j g=>h k m j (Nat.lt_of_lt_of_le g l)
theorem aIz:∀k∈aM,∀k'∈aM,∀j<12,∀j' < 12,lab k (j+1)=lab k' (j' + 1)→k=k'∧j=j':=by decide +kernel
theorem Agr.new(hk:k∈aM)(hc:c<12):Agr c e (aS (.str (lab k (c+1))) v e):=fun k' m j l=>dM fun q=>absurd (aIz k' m k hk j (Nat.lt_trans l hc) c hc q).2 (Nat.ne_of_lt l)
theorem Fi.agr{g:Gf}(h:Fi q c S g E w e)(a:Agr c e e'):Fi q c S g E w e':=⟨fun x=>(h.nm x).imp fun v y=>⟨y.1,fun e2 d l b=>y.2 e2 d l (a.trans b)⟩⟩
theorem Fi.up{q' c':Nat}{g:Gf}(h:Fi q c S g E w e)(a:q≤q')(l:c≤c'):Fi q' c' S g E w e:=⟨fun x=>(h.nm x).imp fun v y=>⟨y.1,fun e2 d l' b=>(y.2 e2 d l' (b.dn l)).up a⟩⟩
theorem Ee.dk(h:Ee S E):Dk E:=⟨fun p m=>(h.kn p m).imp fun s w=>w.2,h.nd⟩
theorem Ee.ln(h:Ee S E):E.length≤3:=by
 have w:=List.Nodup.length_le_of_subset (l₂:=aM.map V.str) h.nd fun a m=>by
  refine e12 (List.mem_map.mp m) fun p hp e_2=>?_; subst e_2
  refine e12 (h.kn p hp) fun s hs e=>?_
  refine rwS e ?_; exact List.mem_map.mpr ⟨s,hs,rfl⟩
 rw[List.length_map]at w; exact w
theorem tY:∀s∈uY++gE,∀k∈aM,s≠k∧s≠0:=by decide
theorem pH:∀k∈aM,k≠0:=by decide
theorem aMn:∀s∈uY,s ∉ aM:=by decide
theorem Ee.no(h:Ee S E)(hs:s∈uY):aK (.str s) E=none:=by
 cases e:aK (.str s) E with
 | none=>rfl
 | some v =>
  refine e12 (h.kn _ (kQ e)) fun k hk ek=>?_
  cases ek
  exact absurd hk (aMn s hs)
theorem Ee.set(h:Ee S E)(hk:k∈aM)(hv:Vl s v):Ee (aS (.str k) (.str s) S) (aS (.str k) v E):=by
 refine⟨fun {j t} x=>?_,fun p m=>?_,(h.dk.set k v).nd⟩
 ·rw[bT]at x ⊢
  by_cases e:j=k
  ·rw[if_pos e]at x ⊢
   cases Option.some.inj x
   exact⟨v,rfl,hv⟩
  ·rw[if_neg e]at x ⊢
   exact h.nm x
 ·rcases lB m with ⟨_,e | e⟩ | e
  ·exact⟨k,hk,e⟩
  ·refine e12 (List.mem_map.mp e) fun p' m' e'=>?_
   refine rwT e' ?_; exact h.kn p' m'
  ·exact h.kn p e
theorem aLi(hk:k≠0):nmf (rE D C k r ca cb)=eZ (nmf D) k r:=funext fun j=>by
 delta nmf eZ rE tE
 by_cases h0:j=0
 ·subst h0; rw[if_pos rfl,if_pos rfl,if_neg (Ne.symm hk)]
 ·refine rwS (if_neg h0) (rwS (if_neg h0) (rwS bT ?_))
  by_cases h:j=k
  ·refine rwS (if_pos h) (rwS (if_pos h) ?_); rfl
  ·exact rwS (if_neg h) (rwS (if_neg h) (rwS (dM h0) rfl))
theorem tQ(hk:k∈aM)(e:aK (.str k) D=some r):nmf D k=r:=by
 delta nmf; refine rwS (if_neg (pH k hk)) (rwS e ?_); rfl
theorem Do.let_(h:Do q S D)(hS:SOk S)(hk:k∈aM)(hC:Cs q D C)(hr:Sh (kd s) r)(hs:s≠aW)(hc:(0≤ca∧ca≤(q+4:Nat))∧(0≤cb∧cb≤(q+4:Nat))):Do (q+4) (aS (.str k) (.str s) S) (rE D C k r ca cb) where
 nm:=fun {j t} x=>by
  rw[bT]at x
  delta rE tE
  refine rwS bT ?_
  by_cases e:j=k
  ·rw[if_pos e]at x ⊢
   cases Option.some.inj x
   exact⟨r,rfl,hr,fun e=>absurd e hs⟩
  ·rw[if_neg e]at x ⊢
   refine rwS (dM (pH j (hS.at x).1)) ?_
   exact h.nm x
 no:=fun t m=>by
  delta rE tE
  refine rwS (dM (tY t m k hk).1) (rwS (dM (tY t m k hk).2) ?_); exact h.no t m
 cs:=⟨aS (.str k) (.tup [.int ca,.int cb]) C,by
  delta rE tE
  refine rwS (dM (Ne.symm (pH k hk))) (rwS mB ?_); rfl,hC.ks.set _ _,Nat.le_trans gN (by have:=hC.ln; lia),fun j hj=>by
  refine rwS bT ?_
  by_cases e:j=k
  ·refine rwS (if_pos e) ?_; exact⟨ca,cb,rfl,hc⟩
  ·refine rwS (if_neg e) ?_
   refine e22 (hC.c j hj) fun a b e1 e2=>?_
   exact⟨a,b,e1,by lia⟩⟩
 ln:=Nat.le_trans gN (Nat.le_trans (Nat.succ_le_succ gN) (by have:=h.ln; lia))
theorem Fi.set{g:Gf}{q':Nat}(h:Fi q c S g E w e)(hq:q≤q')(hT:∀e',Dk e'→e'.length≤50→Agr c e e'→Td q' r e' w.v v):Fi q' c (aS (.str k) (.str s) S) (eZ g k r) (aS (.str k) v E) w e:=⟨fun {j t} x=>by
 rw[bT]at x ⊢
 delta eZ
 by_cases b:j=k
 ·rw[if_pos b]at x
  refine rwS (if_pos b) (rwS (if_pos b) ?_)
  exact⟨v,rfl,hT⟩
 ·rw[if_neg b]at x
  refine rwS (if_neg b) (rwS (if_neg b) ?_)
  exact(h.up hq (Nat.le_refl c)).nm x⟩
end
noncomputable def TdA(z:Nat)(S:Env)(op:Gf→V)(E:Env)(w:Wo)(v:V):Prop:=∀q c g e,Fi q c S g E w e→Dk e→e.length≤50→Td (q+z) (op g) e w.v v
noncomputable def StO(z:Nat)(S:Env)(nd:V)(op:Gf→V):Prop:=∀(st:Stf),SF st→∀(q:Nat) (D:Env),Do q S D→(Sh dT (op (nmf D))∧(Fo st 12 D nd dT∧wF nd))∧∀ct:Int,Op st (9+z) 32 D ct ct (q+z) (q+z) nd (op (nmf D))
noncomputable def StI(z:Nat)(S:Env)(nd:V)(op:Gf→V)(E:Env)(w:Wo)(l:List Int):Prop:=At1 l∧(Nr z nd E w.v (.list (aJ l))∧TdA z S op E w (.list (aJ l)))
noncomputable def SetQ(z:Nat)(S:Env)(nd:V)(op:Gf→V):Prop:=StO z S nd op∧∀E w,Ee S E→∃l,StI z S nd op E w l
noncomputable def aWi(z:Nat)(S:Env)(nd:V):Prop:=∃op,SetQ z S nd op
section
variable{q c d k s z n m:Nat}{S D C E e e' e2:Env}{w:Wo}{v r nd a b:V}{st:Stf}{op h:Nat}
theorem SetQ.up{op:Gf→V}(x:SetQ 1 S nd op):SetQ 3 S nd op:=⟨fun st F q D g=>⟨(x.1 st F q D g).1,fun ct=>((x.1 st F q D g).2 ct).up (by decide) (by lia) (by lia)⟩,fun E w g=>(x.2 E w g).imp fun l y=>⟨y.1,y.2.1.up (by decide),fun q c g e f d1 d2=>(y.2.2 q c g e f d1 d2).up (by lia)⟩⟩
theorem pM:wF (nmV s):=⟨_,_,rfl,by decide⟩
theorem aDl:wF (bV op a b):=⟨_,_,rfl,by decide⟩
theorem aOn:SetQ 1 S (nmV 66) (fun _=>kK 0):=⟨fun st F q D g=>⟨⟨⟨_,_,rfl,.inr ⟨rfl,by decide⟩⟩,(aEt F (by decide) g.no).up (by decide),pM⟩,fun ct=>(tU F (s:=66) (by decide) g.no).up (by decide) (by lia) (by lia)⟩,
 fun E w g=>⟨w.a,w.ha,uG (s:=66) (by decide) (g.no (by decide)),fun q c g e _ _ _=>aWk.up (by lia)⟩⟩
theorem aGd:SetQ 1 S (nmV 67) (fun _=>kK 1):=⟨fun st F q D g=>⟨⟨⟨_,_,rfl,.inr ⟨rfl,by decide⟩⟩,(aEt F (by decide) g.no).up (by decide),pM⟩,fun ct=>(tU F (s:=67) (by decide) g.no).up (by decide) (by lia) (by lia)⟩,
 fun E w g=>⟨w.b,w.hb,uG (s:=67) (by decide) (g.no (by decide)),fun q c g e _ _ _=>bBn.up (by lia)⟩⟩
theorem aSg(h:Vl s v)(hs:s≠bN):∃l,v=.list (aJ l)∧At1 l:=by
 delta Vl at h; rw[if_neg hs]at h; exact h
theorem aRq(hs:s≠bN):kd s=dT:=if_neg hs
theorem aEg(hS:SOk S)(hk:aK (.str k) S=some (.str s))(hs:s≠bN):SetQ 1 S (nmV k) (fun g=>g k):=by
 have hk0:=(hS.at hk).1
 refine⟨fun st F q D g=>?_,fun E w g=>?_⟩
 ·refine e13 (g.nm hk) fun r e sh _=>?_
  refine e1 g.cs fun C hC=>?_
  rw[aRq hs]at sh
  show (Sh dT (nmf D k)∧_)∧∀ct:Int,Op st 10 32 D ct ct (q+1) (q+1) (nmV k) (nmf D k)
  refine rwS (tQ hk0 e) ?_
  exact⟨⟨sh,(aIj F e sh (.inr rfl)).up (by decide),pM⟩,fun ct=>(aRv F hC hk0 e sh).up (by decide) (Nat.le_refl _) (Nat.le_refl _)⟩
 ·refine e12 (g.nm hk) fun v ev hv=>?_
  refine e12 (aSg hv hs) fun l e_1 hl=>?_; subst e_1
  refine⟨l,hl,aEz ev,fun q c g e f d1 d2=>?_⟩
  refine e12 (f.nm hk) fun v' e2 e3=>?_
  rw[ev]at e2
  cases e2
  exact(e3 e d1 d2 Agr.refl).up (Nat.le_succ q)
theorem yZ:aW≠bN:=by decide
theorem aWx:dT≠bN:=by decide
theorem aJf(hS:SOk S)(h:aNf S s):aWi 1 S (nmV s):=by
 rcases h with rfl | h | h
 ·exact⟨_,aGd⟩
 ·exact⟨_,aEg hS h yZ⟩
 ·exact⟨_,aEg hS h aWx⟩
theorem aAj(opa opb:Gf→V)(ho:aHr op h)(hb:∀(st:Stf),SF st→∀D,yY D→Bg st 6 D (bV op a b) eX)(ha:∀(st:Stf),SF st→∀(q:Nat) (D:Env),Do q S D→∃za zb,za+zb≤q+2∧∀ct:Int,Op st 10 32 D ct ct (q+2) za a (opa (nmf D))∧Op st 10 32 D ct ct (q+2) zb b (opb (nmf D)))
  (hs:∀E w,Ee S E→∃v1 v2 m,(At1 m∧Rt 1 84 [.str h,v1,v2] (.list (aJ m)))∧((Nr 1 a E w.v v1∧Nr 1 b E w.v v2)∧∀q c g e,Fi q c S g E w e→Dk e→e.length≤50→Td (q+1) (opa g) e w.v v1∧Td (q+1) (opb g) e w.v v2)):SetQ 3 S (bV op a b) (fun g=>f2V h (opa g) (opb g)):=by
 refine⟨fun st F q D g=>⟨⟨⟨_,_,rfl,.inr ⟨rfl,?_⟩⟩,(aRk F ho (hb st F D g.no)).up (by decide),aDl⟩,fun ct=>?_⟩,fun E w g=>?_⟩
 ·rcases ho with ⟨_,rfl⟩ | ⟨_,rfl⟩ | ⟨_,rfl⟩ <;> decide
 ·refine e22 (ha st F q D g) fun za zb hz hab=>?_
  exact(aSz F ho (hb st F D g.no) (hab ct).1 (hab ct).2 (by decide)).up (by decide) (Nat.le_refl _) (by lia)
 ·obtain⟨v1,v2,m,⟨hm,hr⟩,⟨n1,n2⟩,t⟩:=hs E w g
  refine⟨m,hm,(aTu (m:=0) (by rcases ho with ⟨rfl,rfl⟩ | ⟨rfl,rfl⟩ | ⟨rfl,rfl⟩; exact .inl ⟨rfl,rfl⟩; exact .inr (.inl ⟨rfl,rfl⟩); exact .inr (.inr ⟨rfl,rfl⟩)) n1 n2 hr).up (by decide),fun q c g e f d1 d2=>?_⟩
  refine e02 (t q c g e f d1 d2) fun t1 t2=>?_
  exact(aVh (m:=q) (by rcases ho with ⟨rfl,rfl⟩ | ⟨rfl,rfl⟩ | ⟨rfl,rfl⟩; exact .inl rfl; exact .inr (.inl rfl); exact .inr (.inr rfl)) t1 t2 hr).up (by lia)
theorem aKx{op:Gf→V}(g:SetQ 1 S a op):SetQ 3 S (bV 47 a (nmV 103)) (fun g=>f2V sF (op g) (kK 2)):=by
 refine e02 g fun h1 h2=>?_
 refine aAj op (fun _=>kK 2) (.inl ⟨rfl,rfl⟩) (fun st F D hD=>aUs F (yO F (by decide) hD)) (fun st F q D g=>⟨q+1,1,Nat.le_refl _,fun ct=>⟨((h1 st F q D g).2 ct).up (Nat.le_refl _) (Nat.le_succ _) (Nat.le_refl _),(tU F (s:=103) (by decide) g.no).up (by decide) (by lia) (Nat.le_refl _)⟩⟩) fun E w g=>?_
 refine e13 (h2 E w g) fun l hl n1 t1=>?_
 refine e12 (aIo hl w.hf) fun m hm hr=>?_
 exact⟨_,_,m,⟨hm,hr⟩,⟨n1,uG (s:=103) (by decide) (g.no (by decide))⟩,fun q c g e f d1 d2=>⟨t1 q c g e f d1 d2,bAr.up (by lia)⟩⟩
theorem yT(ho:op=46∧h=kG∨op=44∧h=mE){opb:Gf→V}(g:SetQ 1 S b opb):SetQ 3 S (bV op (nmV 66) b) (fun g=>f2V h (kK 0) (opb g)):=by
 refine e02 g fun h1 h2=>?_
 refine aAj (fun _=>kK 0) opb (.inr ho.symm) (fun st F D hD=>(aYy (by rcases ho with ⟨rfl,_⟩ | ⟨rfl,_⟩; exact .inl rfl; exact .inr rfl)).up (by decide)) (fun st F q D g=>⟨1,q+1,by lia,fun ct=>⟨(tU F (s:=66) (by decide) g.no).up (by decide) (by lia) (Nat.le_refl _),((h1 st F q D g).2 ct).up (Nat.le_refl _) (Nat.le_succ _) (Nat.le_refl _)⟩⟩) fun E w g=>?_
 refine e13 (h2 E w g) fun l hl n1 t1=>?_
 refine e12 (aRd (op:=h) (by rcases ho with ⟨_,rfl⟩ | ⟨_,rfl⟩; exact .inr rfl; exact .inl rfl) w.ha hl) fun m hm hr=>?_
 exact⟨_,_,m,⟨hm,hr⟩,⟨uG (s:=66) (by decide) (g.no (by decide)),n1⟩,fun q c g e f d1 d2=>⟨aWk.up (by lia),t1 q c g e f d1 d2⟩⟩
theorem pA(hS:SOk S)(h:nN S nd):aWi 3 S nd:=by
 rcases h with rfl | ⟨s,hs,h⟩
 ·exact⟨_,aOn.up⟩
 ·refine e1 (aJf hS hs) fun op g=>?_
  rcases h with rfl | rfl | rfl | rfl
  ·exact⟨_,g.up⟩
  ·exact⟨_,aKx g⟩
  ·exact⟨_,yT (.inl ⟨rfl,rfl⟩) g⟩
  ·exact⟨_,yT (.inr ⟨rfl,rfl⟩) g⟩
noncomputable def DmO(S:Env)(nd:V)(op:Gf→V):Prop:=∀(st:Stf),SF st→∀(q:Nat) (D:Env),Do q S D→(∀ct:Int,Op st 12 32 D ct ct (q+3) (q+3) nd (op (nmf D)))∧∀n,6≤n→ArT st ⟨aE prog n⟩ (op (nmf D))
noncomputable def aYr(S:Env)(nd:V):Prop:=∃op:Gf→V,DmO S nd op∧∀E w,Ee S E→∃l,StI 3 S nd op E w l
theorem xT{i:Int}(F:SF st)(hi:i∈[(0:Int),1])(hn:5≤n):ArT st ⟨aE prog n⟩ (kK i):=fun ct sp ht pk τ K z=>eqn (F.art i hi · ct sp ht pk τ K) hn z
theorem aUm{l:Nat}(hn:1≤n):ArT st ⟨aE prog n⟩ (dH l):=fun ct sp ht pk τ K z=>aN (d:=gH) hn rfl rfl z
theorem aQz(F:SF st)(hn:6≤n):ArT st ⟨aE prog n⟩ (f2V kG (kK 0) b):=fun ct sp ht pk τ K z=>aN (d:=gH) (Nat.le_trans (by decide) hn) rfl rfl (by
 have h:=xT (i:=0) F (by decide) (Nat.le_sub_one_of_lt hn)
 generalize TabK.mk (aE prog (n - 1))=T at h ⊢
 conv=>whnf
 refine aF _ (aI F rfl rfl) ?_
 conv=>whnf
 exact h ct sp ht pk τ K z)
theorem SetQ.dom{op:Gf→V}(x:SetQ 3 S nd op)(ha:∀(st:Stf),SF st→∀(q:Nat) (D:Env),Do q S D→∀n,6≤n→ArT st ⟨aE prog n⟩ (op (nmf D))):aYr S nd :=
 ⟨op,fun st F q D g=>⟨(x.1 st F q D g).2,ha st F q D g⟩,x.2⟩
theorem tP(hS:SOk S)(h:rM S nd):aYr S nd:=by
 rcases h with rfl | rfl | rfl | ⟨s,hs,rfl⟩
 ·exact aOn.up.dom fun st F q D g n hn=>xT F (by decide) (Nat.le_of_succ_le hn)
 ·exact aGd.up.dom fun st F q D g n hn=>xT F (by decide) (Nat.le_of_succ_le hn)
 ·exact(yT (.inl ⟨rfl,rfl⟩) aGd).dom fun st F q D g n hn=>aQz F hn
 ·refine(aEg hS hs yZ).up.dom fun st F q D g n hn=>?_
  refine e13 (g.nm hs) fun r e _ h=>?_
  refine e1 (h rfl) fun l e_1=>?_; subst e_1
  show ArT st ⟨aE prog n⟩ (nmf D s)
  refine rwS (tQ (hS.at hs).1 e) ?_
  exact aUm (Nat.le_trans (by decide) hn)
end
noncomputable def N0O(S:Env)(nd:V)(op:Gf→V):Prop:=∀(st:Stf),SF st→∀(q:Nat) (D:Env),Do q S D→(Sh bN (op (nmf D))∧Fo st 14 D nd bN)∧∀ct:Int,Op st 14 39 D ct ct (q+4) (q+4) nd (op (nmf D))
noncomputable def N0I(S:Env)(nd:V)(op:Gf→V)(E:Env)(w:Wo)(i:Int):Prop:=i.natAbs≤3∧(Nr 4 nd E w.v (.int i)∧TdA 4 S op E w (.int i))
noncomputable def Nu0(S:Env)(nd:V):Prop:=∃op:Gf→V,N0O S nd op∧∀E w,Ee S E→∃i:Int,N0I S nd op E w i
noncomputable def bd:Nat→Nat
 | 0=>3
 | d+1=>9*bd d
noncomputable def NuO(d:Nat)(S:Env)(nd:V)(op:Gf→Nat→V)(kc:Nat):Prop:=∀(st:Stf),SF st→∀(q:Nat) (D:Env) (c:Nat),q+4*d≤16→c+2*d≤12→Do q S D→Op st (24+10*d) 39 D c (c+kc:Nat) (q+20+16*d) (q+4+200*d) nd (op (nmf D) c)
noncomputable def NuI(d:Nat)(S:Env)(nd:V)(op:Gf→Nat→V)(E:Env)(w:Wo)(i:Int):Prop:=i.natAbs≤bd d∧(Nr (8+10*d) nd E w.v (.int i)∧∀q c g e,q+4*d≤16→c+2*d≤12→Fi q c S g E w e→Dk e→e.length+2*d≤50→Td (q+4+16*d) (op g c) e w.v (.int i))
noncomputable def NuM(d:Nat)(S:Env)(nd:V)(op:Gf→Nat→V):Prop:=d≤4→∀E w,Ee S E→∃i:Int,NuI d S nd op E w i
noncomputable def NuG(d:Nat)(S:Env)(nd:V):Prop:=∃(op:Gf→Nat→V) (kc:Nat),kc≤2*d∧(NuO d S nd op kc∧NuM d S nd op)
noncomputable def NuP:Nat→Env→V→Prop
 | 0,S,nd=>Nu0 S nd
 | d+1,S,nd=>NuG (d+1) S nd
noncomputable def TrO(S:Env)(nd:V)(op:Gf→V):Prop:=∀(st:Stf),SF st→∀(q:Nat) (D:Env),Do q S D→∀ct:Int,Op st 24 26 D ct ct (q+8) (2*q+12) nd (op (nmf D))
noncomputable def TrP(S:Env)(nd:V):Prop:=∃op:Gf→V,TrO S nd op∧∀E w,Ee S E→∃t:Bool,Nr 8 nd E w.v (.bool t)∧TdA 8 S op E w (.bool t)
section
variable{q c d k s z n m i:Nat}{S D C E e e' e2:Env}{w:Wo}{v r nd a b:V}{st:Stf}{op h:Nat}
theorem aAp:∀d,3≤bd d
 | 0=>Nat.le_refl 3
 | d+1=>by show 3≤9*bd d; have:=aAp d; omega
theorem aZx:∀d<4,bd d≤1000000:=by decide
theorem aHg{i:Int}(hd:d+1≤4)(hi:i.natAbs≤bd d):i.natAbs≤1000000:=Nat.le_trans hi (aZx d hd)
theorem mF(h:n≤10):24+10*d+n≤24+10*(d+1):=by lia
theorem lF(h:n≤16):q+20+16*d+n≤q+20+16*(d+1):=by lia
theorem zF(h:n≤200):q+4+200*d+n≤q+4+200*(d+1):=by lia
theorem tF(h:n≤16):q+4+16*d+n≤q+4+16*(d+1):=by lia
theorem rF(h:n≤10):8+10*d+n≤8+10*(d+1):=by lia
theorem aq0(h:q+4*(d+1)≤16):q+4*d≤16:=by lia
theorem aq4(h:q+4*(d+1)≤16):q+4+4*d≤16:=by lia
theorem ac0(h:c+2*(d+1)≤12):c+2*d≤12:=by lia
theorem al5(h:m+2*d≤50):m≤50:=by lia
theorem al0(h:m+2*(d+1)≤50):m+2*d≤50:=by lia
theorem k20(h:k≤2*d):k≤2*(d+1):=by lia
theorem bF(h:n≤24):n≤24+10*d:=Nat.le_trans h (Nat.le_add_right ..)
theorem b8(h:n≤8):n≤8+10*d:=Nat.le_trans h (Nat.le_add_right ..)
theorem qL(h:n≤20):q+n≤q+20+16*d:=by lia
theorem nb9{i:Int}(h:i.natAbs≤bd d):i.natAbs≤bd (d+1):=by show _≤9*bd d; omega
theorem nbN{i:Int}(h:i.natAbs≤bd d):(0 - i).natAbs≤bd (d+1):=by show _≤9*bd d; omega
theorem nb3{i:Int}(h:i.natAbs≤3):i.natAbs≤bd (d+1):=Nat.le_trans h (aAp _)
theorem Nu0.g(h:Nu0 S nd):NuG d S nd:=by
 refine e12 h fun op h1 h2=>?_
 refine⟨fun g _=>op g,0,Nat.zero_le _,fun st F q D c hq hc g=>((h1 st F q D g).2 c).up (bF (by decide)) (qL (by decide)) (Nat.le_add_right ..),fun hd E w g=>?_⟩
 refine e13 (h2 E w g) fun i hi hn ht=>?_
 exact⟨i,Nat.le_trans hi (aAp d),hn.up (b8 (by decide)),fun q c g e hq hc f d1 d2=>(ht q c g e f d1 (al5 d2)).up (Nat.le_add_right ..)⟩
theorem NuP.g:∀{d:Nat},NuP d S nd→NuG d S nd
 | 0,h=>Nu0.g h
 | _+1,h=>h
theorem NuP.of0(h:Nu0 S nd):∀{d:Nat},NuP d S nd
 | 0=>h
 | _+1=>Nu0.g h
theorem aWv(hi:i<4):Nu0 S (aIm i):=⟨fun _=>n0V i,fun st F q D g=>⟨⟨⟨_,_,rfl,.inl ⟨rfl,by decide⟩⟩,aPv.up (by decide)⟩,fun ct=>(aTt F).up (by decide) (by lia) (by lia)⟩,
 fun E w g=>⟨i,by lia,aQp.up (by decide),fun q c g e _ _ _=>zU.up (by lia)⟩⟩
theorem aTw(hS:SOk S)(h:nN S a):Nu0 S (unV 36 a):=by
 refine e12 (pA hS h) fun op h1 h2=>?_
 refine⟨fun g=>aQo (op g),fun st F q D g=>⟨⟨⟨_,_,rfl,.inl ⟨rfl,by decide⟩⟩,aNj.up (by decide)⟩,fun ct=>aNi F ((h1 st F q D g).2 ct)⟩,fun E w g=>?_⟩
 refine e13 (h2 E w g) fun l hl hn ht=>?_
 exact⟨l.length,hl.len,aKt hl hn,fun q c g e f d1 d2=>aVm hl (ht q c g e f d1 d2)⟩
theorem aQm(hS:SOk S)(hk:aK (.str k) S=some (.str bN)):Nu0 S (nmV k):=by
 have hk0:=(hS.at hk).1
 refine⟨fun g=>g k,fun st F q D g=>?_,fun E w g=>?_⟩
 ·refine e13 (g.nm hk) fun r e sh _=>?_
  refine e1 g.cs fun C hC=>?_
  show (Sh bN (nmf D k)∧_)∧∀ct:Int,Op st 14 39 D ct ct (q+4) (q+4) (nmV k) (nmf D k)
  refine rwS (tQ hk0 e) ?_
  exact⟨⟨sh,(aIj F e sh (.inl rfl)).up (by decide)⟩,fun ct=>(aVn F hC hk0 e sh).up (by decide) (by lia) (by lia)⟩
 ·refine e12 (g.nm hk) fun v ev hv=>?_
  obtain⟨i,rfl,hi⟩:∃i:Int,v=.int i∧i.natAbs≤3:=by delta Vl at hv; rw[if_pos rfl]at hv; exact hv
  refine⟨i,hi,(aEz ev).up (by decide),fun q c g e f d1 d2=>?_⟩
  refine e12 (f.nm hk) fun v' e2 e3=>?_
  rw[ev]at e2
  cases e2
  exact(e3 e d1 d2 Agr.refl).up (Nat.le_add_right ..)
theorem aZw(h:NuP d S a):NuP (d+1) S (unV 46 a):=by
 refine e23 h.g fun op kc hk h1 h2=>?_
 refine⟨fun g c=>f2V wJ (n0V 0) (op g c),kc,k20 hk,fun st F q D c hq hc g=>(aRu F (h1 st F q D c (aq0 hq) (ac0 hc) g)).up (mF (by decide)) (lF (by decide)) (zF (by decide)),fun hd E w g=>?_⟩
 refine e13 (h2 (Nat.le_of_succ_le hd) E w g) fun i hi hn ht=>?_
 refine⟨0 - i,nbN hi,(aRo hn).up (rF (by decide)),fun q c g e hq hc f d1 d2=>?_⟩
 exact(vV (.inr (.inl ⟨rfl,rfl⟩)) (zU.up (Nat.le_trans (Nat.le_add_left 1 (q+3)) (Nat.le_add_right ..))) (ht q c g e (aq0 hq) (ac0 hc) f d1 (al0 d2)) (by decide) (aHg hd hi)).up (tF (by decide))
theorem bAj{w:Nat}(hS:SOk S)(hw:w∈kF)(h:nN S a):TrP S (unV w a):=by
 refine e12 (pA hS h) fun op h1 h2=>?_
 refine⟨fun g=>.tup [.str w,op g],fun st F q D g ct=>(aZm F hw ((h1 st F q D g).2 ct)).up (by decide) (by lia) (by lia),fun E w g=>?_⟩
 refine e13 (h2 E w g) fun l hl hn ht=>?_
 exact⟨_,(aYb hw hl hn).up (by decide),fun q c g e f d1 d2=>(aXa hw hl (ht q c g e f d1 d2)).up (by lia)⟩
theorem aRz(hS:SOk S)(ho:op=222298223∨op=62)(ha:nN S a)(hb:nN S b):TrP S (bV op a b):=by
 refine e12 (pA hS ha) fun opa a1 a2=>?_
 refine e12 (pA hS hb) fun opb b1 b2=>?_
 refine⟨fun g=>s2T op (opa g) (opb g),fun st F q D g ct=>(aMw F ho (b1 st F q D g).1.2.2 (a1 st F q D g).1.2.1 ((a1 st F q D g).2 ct) ((b1 st F q D g).2 ct)).up (by decide) (by lia) (by lia),fun E w g=>?_⟩
 refine e13 (a2 E w g) fun l hl n1 t1=>?_
 refine e13 (b2 E w g) fun l' hl' n2 t2=>?_
 refine e1 (aHx ho hl hl') fun t ht=>?_
 refine⟨t,(aBo (m:=2) (by rcases ho with rfl | rfl <;> decide) n1 n2 ht).up (by decide),fun q c g e f d1 d2=>?_⟩
 rcases ho with rfl | rfl
 ·exact(fV (m:=q+2) (op:=cIn) (.inl ⟨rfl,rfl⟩) (t1 q c g e f d1 d2) (t2 q c g e f d1 d2) ht).up (by lia)
 ·exact(fV (m:=q+2) (op:=sY) (.inr (.inl ⟨rfl,rfl⟩)) (t1 q c g e f d1 d2) (t2 q c g e f d1 d2) ht).up (by lia)
theorem aXf(ho:op∈rN)(ha:Nu0 S a)(hb:Nu0 S b):TrP S (bV op a b):=by
 refine e12 ha fun opa a1 a2=>?_
 refine e12 hb fun opb b1 b2=>?_
 refine⟨fun g=>cmT op (opa g) (opb g),fun st F q D g ct=>(aTy F ho (a1 st F q D g).1.2 ((a1 st F q D g).2 ct) ((b1 st F q D g).2 ct)).up (by decide) (by lia) (by lia),fun E w g=>?_⟩
 refine e13 (a2 E w g) fun i hi n1 t1=>?_
 refine e13 (b2 E w g) fun j hj n2 t2=>?_
 refine⟨aXd op i j,(aBo (m:=3) (List.mem_cons_of_mem _ ho) n1 n2 (gX ho)).up (by decide),fun q c g e f d1 d2=>?_⟩
 have t1:=t1 q c g e f d1 d2
 have t2:=t2 q c g e f d1 d2
 rcases List.mem_cons.mp ho with rfl | ho
 ·exact(fV (m:=q+3) (op:=cLt) (x:=61) (.inr (.inr (.inr (.inl ⟨rfl,rfl⟩)))) t1 t2 (gX (by decide))).up (by lia)
 rcases List.mem_cons.mp ho with rfl | ho
 ·exact(fV (m:=q+3) (op:=cLe) (x:=127926334) (.inr (.inr (.inr (.inr ⟨rfl,rfl⟩)))) t1 t2 (gX (by decide))).up (by lia)
 rcases List.mem_cons.mp ho with rfl | ho
 ·exact(fV (m:=q+3) (op:=cEq) (x:=62) (.inr (.inr (.inl ⟨rfl,rfl⟩))) t1 t2 (gX (by decide))).up (by lia)
 rcases List.mem_cons.mp ho with rfl | ho
 ·exact(aEm (fV (m:=q+3) (op:=cEq) (x:=62) (.inr (.inr (.inl ⟨rfl,rfl⟩))) t1 t2 (gX (by decide)))).up (by lia)
 rcases List.mem_cons.mp ho with rfl | ho
 ·exact(fV (m:=q+3) (op:=cLt) (x:=61) (.inr (.inr (.inr (.inl ⟨rfl,rfl⟩)))) t2 t1 (gX (by decide))).up (by lia)
 cases ho
theorem cz{y:Nat}(hq:q+4*(d+1)≤16)(h:y≤q+4):2*q+12+(y+(q+4+200*d))+1≤q+4+200*(d+1):=by lia
theorem aRl(hc:TrP S v)(ha:Nu0 S a)(hb:NuP d S b):NuP (d+1) S (ifV v a b):=by
 refine e12 hc fun opc c1 c2=>?_
 refine e12 ha fun opa a1 a2=>?_
 refine e23 hb.g fun opb kc hk b1 b2=>?_
 refine⟨fun g c=>chV (opc g) (opa g) (opb g c),kc,k20 hk,fun st F q D c hq hc g=>(aLx F (m:=24+10*d) (d:=q+20+16*d) ((c1 st F q D g c).up (Nat.le_add_right ..) (qL (by decide)) (Nat.le_refl _)) (((a1 st F q D g).2 c).up (bF (by decide)) (qL (by decide)) (Nat.le_refl _)) (b1 st F q D c (aq0 hq) (ac0 hc) g)).up (mF (by decide)) (lF (by decide)) (cz hq (Nat.le_refl _)),fun hd E w g=>?_⟩
 refine e12 (c2 E w g) fun t n1 t1=>?_
 refine e13 (a2 E w g) fun i hi n2 t2=>?_
 refine e13 (b2 (Nat.le_of_succ_le hd) E w g) fun j hj n3 t3=>?_
 refine⟨cond t i j,?_,?_,fun q c g e hq hc f d1 d2=>?_⟩
 ·cases t
  ·exact nb9 hj
  ·exact nb3 hi
 ·refine(aYs (m:=8+10*d) (n1.up (b8 (by decide))) (fun et=>?_) fun et=>?_).up (rF (by decide))
  ·refine rwS et ?_; exact n2.up (b8 (by decide))
  ·refine rwS et ?_; exact n3
 ·have d3:=al5 d2
  refine(aOp (m:=q+4+16*d+4) ((t1 q c g e f d1 d3).up (by lia)) (fun et=>?_) fun et=>?_).up (tF (n:=5) (by decide))
  ·refine rwS et ?_; exact(t2 q c g e f d1 d3).up (by lia)
  ·refine rwS et ?_; exact(t3 q c g e (aq0 hq) (ac0 hc) f d1 (al0 d2)).up (Nat.le_add_right ..)
theorem opv{i j:Int}(ho:op∈gE):opC op=1042241519551906840692∧V.int (opI op i j)=.int (i+j)∨(opC op=wJ∧V.int (opI op i j)=.int (i - j)∨opC op=xL∧V.int (opI op i j)=.int (i*j)):=by
 rcases op3 ho with rfl | rfl | rfl
 ·exact .inl ⟨rfl,rfl⟩
 ·exact .inr (.inl ⟨rfl,rfl⟩)
 ·exact .inr (.inr ⟨rfl,rfl⟩)
theorem aZj{i j:Int}(ho:op∈gE)(hi:i.natAbs≤bd d)(hj:j.natAbs≤3):(opI op i j).natAbs≤9*bd d:=by
 have:=aAp d
 rcases op3 ho with rfl | rfl | rfl
 ·show (i+j).natAbs≤_; omega
 ·show (i - j).natAbs≤_; omega
 ·show (i*j).natAbs≤_
  rw[Int.natAbs_mul]
  exact Nat.le_trans (Nat.mul_le_mul hi hj) (by lia)
theorem cz2:q+4+200*d+(q+4)+1≤q+4+200*(d+1) ↔ q+5≤200:=by lia
theorem q16(hq:q+4*(d+1)≤16):q≤12:=by lia
theorem yX{h:V}{l:List V}(ho:op∈gE)(hh:h=nmV op∧l=[a,b]∨(h=bV 47 a (nmV op)∧l=[b]∨h=qF (nmV op) [a]∧l=[b]))(ha:NuP d S a)(hb:Nu0 S b):NuP (d+1) S (qF h l):=by
 refine e23 ha.g fun opa kc hk a1 a2=>?_
 refine e12 hb fun opb b1 b2=>?_
 refine⟨fun g c=>f2V (opC op) (opa g c) (opb g),kc,k20 hk,fun st F q D c hq hc g=>(aNp F (m:=24+10*d) (d:=q+20+16*d) ho ?_ (a1 st F q D c (aq0 hq) (ac0 hc) g) (((b1 st F q D g).2 (c+kc:Nat)).up (bF (by decide)) (qL (by decide)) (Nat.le_refl _)) (bF (by decide))).up (mF (by decide)) (lF (by decide)) (cz2.mpr (Nat.le_trans (Nat.add_le_add_right (q16 hq) 5) (by decide))),fun hd E w g=>?_⟩
 ·rcases hh with ⟨rfl,rfl⟩ | ⟨rfl,rfl⟩ | ⟨rfl,rfl⟩
  ·exact(tX F ho (l:=[a,b]) (aGz F ho g.no) (by decide) (Nat.le_refl 2)).up (by decide)
  ·exact(tX F ho (l:=[b]) (aNq F ho g.no) (by decide) (Nat.le_refl 2)).up (by decide)
  ·exact(tX F ho (l:=[b]) (tX F ho (l:=[a]) (aGz F ho g.no) (by decide) (Nat.le_succ 1)) (by decide) (Nat.le_refl 2)).up (by decide)
 refine e13 (a2 (Nat.le_of_succ_le hd) E w g) fun i hi n1 t1=>?_
 refine e13 (b2 E w g) fun j hj n2 t2=>?_
 have bj:j.natAbs≤1000000:=Nat.le_trans hj (by decide)
 exact⟨opI op i j,aZj ho hi hj,(aRf (m:=8+10*d) hh ho n1 (n2.up (b8 (by decide))) (aHg hd hi) bj).up (rF (by decide)),fun q c g e hq hc f d1 d2=>(vV (m:=q+4+16*d) (opv ho) (t1 q c g e (aq0 hq) (ac0 hc) f d1 (al0 d2)) ((t2 q c g e f d1 (al5 d2)).up (Nat.le_add_right ..)) (aHg hd hi) bj).up (tF (by decide))⟩
theorem nk2(h:k=121∨k=111):k∈aM:=by rcases h with rfl | rfl <;> decide
theorem lz:q+4+(q+4+4+200*d)+1≤q+4+200*(d+1) ↔ q+9≤200:=by lia
theorem ll:q+4+20+16*d+1≤q+20+16*(d+1):=by lia
theorem lm:22+10*d+4≤24+10*(d+1):=by lia
theorem lm2:24+10*d≤22+10*d+2:=by lia
theorem lt4:q+4+4+16*d≤q+4+16*(d+1):=by lia
theorem ten(h:n≤10*q)(hq:q≤12):n≤120:=by lia
theorem aPf{s:Nat}(hS:SOk S)(hk:k∈aM)(hs:s≠aW)(op:Gf→V)(ha:∀(st:Stf),SF st→∀(q:Nat) (D:Env),Do q S D→Sh (kd s) (op (nmf D))∧Va st 22 D (q+4) (q+4) a (op (nmf D)))
  (hv:∀E w,Ee S E→∃v,Vl s v∧(Nr 4 a E w.v v∧∀q c g e,Fi q c S g E w e→Dk e→e.length≤50→Td (q+4) (op g) e w.v v)) (hb:NuP d (aS (.str k) (.str s) S) b):NuP (d+1) S (tN k a b):=by
 refine e23 hb.g fun opb kc hkc b1 b2=>?_
 refine⟨fun g c=>opb (eZ g k (op g)) c,kc,k20 hkc,fun st F q D c hq hc g=>?_,fun hd E w g=>?_⟩
 ·refine e02 (ha st F q D g) fun sh va=>?_
  refine e1 g.cs fun C hC=>?_
  have q12:=q16 hq
  refine(aTd F (m:=22+10*d) (d:=q+4+20+16*d) (dv:=q+4) (z:=q+4) (zb:=q+4+4+200*d) (r:=op (nmf D)) (C:=C) (fun ct=>(va ct).up (Nat.le_add_right ..) (Nat.le_refl _) (Nat.le_refl _)) (Nat.le_trans (Nat.le_add_right ..) (Nat.le_add_right ..)) (Nat.le_trans (ten g.ln q12) (by decide)) hC.z (Nat.le_trans (ten hC.ln q12) (by decide)) (pH k hk) fun ca cb hcc=>?_).up lm ll (lz.mpr (Nat.le_trans (Nat.add_le_add_right q12 9) (by decide)))
  have w:=b1 st F (q+4) (rE D C k (op (nmf D)) ca cb) c (aq4 hq) (ac0 hc) (g.let_ hS hk hC sh hs hcc)
  rw[aLi (pH k hk)]at w
  exact w.up lm2 (Nat.le_refl _) (Nat.le_refl _)
 ·refine e13 (hv E w g) fun v hvl n1 t1=>?_
  refine e13 (b2 (Nat.le_of_succ_le hd) (aS (.str k) v E) w (g.set hk hvl)) fun i hi n2 t2=>?_
  exact⟨i,nb9 hi,(aQy (m:=8+10*d) (Nat.le_trans g.ln (by decide)) (n1.up (b8 (by decide))) n2).up (rF (by decide)),fun q c g e hq hc f d1 d2=>(t2 (q+4) c (eZ g k (op g)) e (aq4 hq) (ac0 hc) (f.set (Nat.le_add_right q 4) fun e' k1 k2 a=>t1 q c g e' (f.agr a) k1 k2) d1 (al0 d2)).up lt4⟩
theorem aSn(hS:SOk S)(hk:k=121∨k=111)(ha:nN S a)(hb:NuP d (aS (.str k) (.str dT) S) b):NuP (d+1) S (tN k a b):=by
 refine e12 (pA hS ha) fun op h1 h2=>?_
 refine aPf (s:=dT) hS (nk2 hk) (by decide) op (fun st F q D g=>⟨(h1 st F q D g).1.1,fun ct=>(aSd F (h1 st F q D g).1.2.1 (h1 st F q D g).2 ct).up (by decide) (by lia) (by lia)⟩) (fun E w g=>?_) hb
 refine e13 (h2 E w g) fun l hl hn ht=>?_
 exact⟨_,⟨l,rfl,hl⟩,hn.up (by decide),fun q c g e f d1 d2=>(ht q c g e f d1 d2).up (by lia)⟩
theorem aVa(hS:SOk S)(hk:k=121∨k=111)(ha:Nu0 S a)(hb:NuP d (aS (.str k) (.str bN) S) b):NuP (d+1) S (tN k a b):=by
 refine e12 ha fun op h1 h2=>?_
 refine aPf (s:=bN) hS (nk2 hk) (by decide) op (fun st F q D g=>⟨(h1 st F q D g).1.1,fun ct=>(aSc F (h1 st F q D g).1.2 (h1 st F q D g).2 ct).up (by decide) (by lia) (by lia)⟩) (fun E w g=>?_) hb
 refine e13 (h2 E w g) fun i hi hn ht=>?_
 exact⟨_,⟨i,rfl,hi⟩,hn,ht⟩
end
theorem yD:∀(l:List Int) (a:Int),l.foldl (· + ·) a=a+fT l
 | [],a=>(Int.add_zero a).symm
 | x::l,a=>by
  show l.foldl (· + ·) (a+x)=a+l.foldl (· + ·) (0+x)
  rw[yD l (a+x),yD l (0+x),Int.zero_add,Int.add_assoc]
theorem zS(x:Int)(l:List Int):fT (x::l)=x+fT l:=by
 show l.foldl (· + ·) (0+x)=_
 rw[yD,Int.zero_add]
theorem aIt{α:Type}{p:α→Bool}{f:α→Int}:∀l:List α,fT ((l.filter p).map f)=fT (l.map fun x=>cond (p x) (f x) 0)
 | []=>rfl
 | x::l=>by
  rw[List.map_cons,zS,← aIt l]
  cases e:p x with
  | true=>rw[List.filter_cons_of_pos e,List.map_cons,zS]; rfl
  | false=>rw[List.filter_cons_of_neg (by rw[e]; exact Bool.false_ne_true),Bool.cond_false,Int.zero_add]
theorem aFf{B:Nat}:∀l:List Int,(∀x∈l,x.natAbs≤B)→(fT l).natAbs≤l.length*B
 | [],_=>Nat.zero_le _
 | x::l,h=>by
  have h1:=aFf l fun y m=>h y (List.mem_cons_of_mem _ m)
  have h2:=h x (List.mem_cons_self ..)
  rw[zS,List.length_cons,Nat.succ_mul]
  have:=Int.natAbs_add_le x (fT l)
  lia
theorem aEq{B n:Nat}{l:List Int}(h:∀x∈l,x.natAbs≤B)(hn:n≤9)(hl:l.length≤n):(fT l).natAbs≤9*B:=Nat.le_trans (aFf l h) (Nat.mul_le_mul_right B (Nat.le_trans hl hn))
noncomputable def atV:V→Int
 | .list [.tup [.int i]]=>i
 | _=>0
noncomputable def iV(o:Option V):Int:=atV (o.getD .none)
theorem aJt{l l':List Int}:Rt 1 85 [.str 62,.list (aJ l),.list (aJ l')] (.bool (decide (l=l'))):=fun n hn σ K z=>aN (d:=fO) hn rfl rfl (by
 generalize TabK.mk (aE prog (n - 1))=T
 conv=>whnf
 refine aF _ (aDb (oW _) (oW _)) ?_
 have e:(V.beq (.list (aJ l)) (.list (aJ l'))==true)=decide (l=l'):=by
  show (jQ (aJ l) (aJ l')==true)=_
  rw[mA]; cases decide (l=l') <;> rfl
 rw[← e]at z
 exact z)
section
variable{m n l1 l2 k c:Nat}{e E:Env}{w X Y b:V}{L:List Int}{L2:Int→List Int}{F:Int→Int}{G:Int→Int→Int}{i j:Int}
theorem cB{l:Nat}:aK (.str l) (aQ l e i)=some (.list [bS i]):=mB
theorem jA{l l':Nat}(h:l≠l'):aK (.str l) (aQ l' e i)=aK (.str l) e:=dM h
theorem Dk.add{l:Nat}(h:Dk e):Dk (aQ l e i):=h.set _ _
theorem cU{l:Nat}:(aQ l e i).length≤e.length+1:=gN
theorem aDk{R:Env→List Int}{l:Nat}:gO l R [e]=(R e).map fun i=>aQ l e i:=List.append_nil _
theorem aFw:[e].length≤100:=(by decide:1≤100)
theorem td1(hL:At1 L)(hX:Td m X e w (.list (aJ L)))(hb:∀i∈L,Td m b (aQ l1 e i) w (.int (F i)))(d1:Dk e)(d2:e.length≤90):Td (m+1) (zA [.tup [.str l1,X]] b) e w (.int (fT (L.map F))):=by
 have h:=aHa (m:=m) (w:=w) (e:=e) (b:=b) (ps:=[(l1,X,fun _=>L)]) (f:=fun d=>F (iV (aK (.str l1) d))) ⟨⟨aFw,fun d md=>by refine rwS (List.mem_singleton.mp md) ?_; exact⟨d1,Nat.le_trans d2 (by decide)⟩⟩,fun _=>hL,fun d md=>by refine rwS (List.mem_singleton.mp md) ?_; exact hX,by
  show (gO l1 (fun _=>L) [e]).length≤100
  rw[aDk,List.length_map]; exact Nat.le_trans hL.len (by decide)⟩ (fun d md=>by
  have md:d∈gO l1 (fun _=>L) [e]:=md
  rw[aDk]at md
  refine e12 (List.mem_map.mp md) fun i hi e_2=>?_; subst e_2
  refine rwS cB ?_
  exact hb i hi)
 have e1:(nL [e] [(l1,X,fun _=>L)]).map (fun d=>F (iV (aK (.str l1) d)))=L.map F:=by
  show (gO l1 (fun _=>L) [e]).map _=_
  refine rwS aDk (rwS List.map_map ?_)
  exact List.map_congr_left fun i _=>by
   show F (iV (aK (.str l1) (aQ l1 e i)))=F i
   refine rwS cB ?_; rfl
 rw[e1]at h
 exact h
theorem wS{A:List Int}{B:Int→List Int}(h1:At1 A)(h2:∀i,At1 (B i)){α:Type}{f:Int→Int→α}:(A.flatMap fun i=>(B i).map (f i)).length≤9 :=
 Nat.le_trans (qQ (c:=3) fun i _=>by rw[List.length_map]; exact(h2 i).len) (Nat.mul_le_mul_right 3 h1.len)
theorem td2(hne:l1≠l2)(hL:At1 L)(hL2:∀i,At1 (L2 i))(hX:Td m X e w (.list (aJ L)))(hY:∀i∈L,Td m Y (aQ l1 e i) w (.list (aJ (L2 i))))(hb:∀i∈L,∀j∈L2 i,Td m b (aQ l2 (aQ l1 e i) j) w (.int (G i j)))(d1:Dk e)(d2:e.length≤90) :
  Td (m+1) (zA [.tup [.str l1,X],.tup [.str l2,Y]] b) e w (.int (fT (L.flatMap fun i=>(L2 i).map (G i)))):=by
 have a1:∀d:Env,d∈gO l1 (fun _=>L) [e]→∃i∈L,d=aQ l1 e i:=fun d md=>by
  rw[aDk]at md
  refine e12 (List.mem_map.mp md) fun i hi q=>?_
  exact⟨i,hi,q.symm⟩
 have ea:gO l2 (fun d=>L2 (iV (aK (.str l1) d))) (gO l1 (fun _=>L) [e])=L.flatMap fun i=>(L2 i).map fun j=>aQ l2 (aQ l1 e i) j:=by
  refine rwS aDk ?_
  delta gO
  rw[List.flatMap_map]
  refine congrArg (List.flatMap · L) (funext fun i=>?_)
  show (L2 (iV (aK (.str l1) (aQ l1 e i)))).map _=_
  refine rwS cB ?_; rfl
 have h:=aHa (m:=m) (w:=w) (e:=e) (b:=b) (ps:=[(l1,X,fun _=>L),(l2,Y,fun d=>L2 (iV (aK (.str l1) d)))]) (f:=fun d=>G (iV (aK (.str l1) d)) (iV (aK (.str l2) d)))
  ⟨⟨aFw,fun d md=>by refine rwS (List.mem_singleton.mp md) ?_; exact⟨d1,Nat.le_trans d2 (by decide)⟩⟩,fun _=>hL,fun d md=>by refine rwS (List.mem_singleton.mp md) ?_; exact hX,
   ⟨by rw[aDk,List.length_map]; exact Nat.le_trans hL.len (by decide),fun d md=>by
    refine e12 (a1 d md) fun i hi e_2=>?_; subst e_2
    exact⟨d1.add,Nat.le_trans cU (Nat.le_trans (Nat.succ_le_succ d2) (by decide))⟩⟩,fun d=>hL2 _,fun d md=>by
    refine e12 (a1 d md) fun i hi e_2=>?_; subst e_2
    show Td m Y (aQ l1 e i) w (.list (aJ (L2 (iV (aK (.str l1) (aQ l1 e i))))))
    refine rwS cB ?_
    exact hY i hi,by
    show (gO l2 (fun d=>L2 (iV (aK (.str l1) d))) (gO l1 (fun _=>L) [e])).length≤100
    refine rwS ea ?_; exact Nat.le_trans (wS hL hL2) (by decide)⟩ (fun d md=>by
  have md:d∈gO l2 (fun d=>L2 (iV (aK (.str l1) d))) (gO l1 (fun _=>L) [e]):=md
  rw[ea]at md
  refine e12 (List.mem_flatMap.mp md) fun i hi md=>?_
  refine e12 (List.mem_map.mp md) fun j hj e_2=>?_; subst e_2
  refine rwS cB (rwS (jA hne) (rwS cB ?_))
  exact hb i hi j hj)
 have e1:(nL [e] [(l1,X,fun _=>L),(l2,Y,fun d=>L2 (iV (aK (.str l1) d)))]).map (fun d=>G (iV (aK (.str l1) d)) (iV (aK (.str l2) d)))=L.flatMap fun i=>(L2 i).map (G i):=by
  show (gO l2 (fun d=>L2 (iV (aK (.str l1) d))) (gO l1 (fun _=>L) [e])).map _=_
  refine rwS ea (rwS List.map_flatMap ?_)
  refine congrArg (List.flatMap · L) (funext fun i=>?_)
  refine rwS List.map_map ?_
  exact List.map_congr_left fun j _=>by
   show G (iV (aK (.str l1) (aQ l2 (aQ l1 e i) j))) (iV (aK (.str l2) (aQ l2 (aQ l1 e i) j)))=G i j
   refine rwS cB (rwS (jA hne) (rwS cB ?_)); rfl
 rw[e1]at h
 exact h
end
noncomputable def dW(E:Env):Way:=(.dict E,E)
section
variable{T:TabK}{σ σ':St}{m n k k' mk mk':Nat}{e E:Env}{w b s s':V}{L:List Int}{f:Env→Int}{d:Way}{R R':Env→List Int}{ap:Bool}{l:List Int}{W:List Way}{i j:Int}
theorem nm1:nmW l [d] [k]=l.map fun i=>dW (aQ k d.2 i):=List.append_nil _
theorem nm2:nmW l [d] [k,k']=l.flatMap fun i=>l.map fun j=>dW (aQ k' (aQ k d.2 i) j):=by
 show nM k' l (nM k l [d])=_
 refine rwS (show nM k l [d]=l.map fun i=>dW (aQ k d.2 i) from List.append_nil _) ?_
 delta nM
 rw[List.flatMap_map]; rfl
theorem aUc:dI false R [k] W=W.flatMap fun d=>(R d.2).map fun i=>dW (aQ k d.2 i):=by
 delta dI
 refine congrArg (List.flatMap · W) (funext fun d=>?_)
 delta aEu
 refine rwS nm1 ?_
 exact List.filter_eq_self.mpr fun p _=>rfl
theorem aIy(h:Dk E)(hl:E.length≤100):WOk σ (dW E):=⟨rfl,h,hl⟩
theorem aWh(ha:aO σ d.1=some d.2)(hd:Dk d.2)(hl:d.2.length≤90):[d].length≤100∧∀x∈[d],WOk σ x:=⟨(by decide:1≤100),fun x m=>by refine rwS (List.mem_singleton.mp m) ?_; exact⟨ha,hd,Nat.le_trans hl (by decide)⟩⟩
theorem aRp(h1:At1 (R d.2))(hN:NrT T s d.2 w (.list (aJ (R d.2))))(ha:aO σ d.1=some d.2)(hd:Dk d.2)(hl:d.2.length≤90):LapOk T σ false R [k] w s d where
 at1:=h1
 nr:=hN
 as:=ha
 le:=by rw[nm1,List.length_map]; exact Nat.le_trans h1.len (by decide)
 nx:=fun σ' p=>⟨⟨aWh (eH ha p) hd hl,trivial⟩,fun q mq=>by
  rw[nm1]at mq
  refine e12 (List.mem_map.mp mq) fun i hi e_2=>?_; subst e_2
  exact⟨aIy hd.add (Nat.le_trans cU (Nat.le_trans (Nat.succ_le_succ hl) (by decide))),fun e=>nomatch e⟩⟩
theorem bAg(h1:At1 (R d.2))(hN:NrT T s d.2 w (.list (aJ (R d.2))))(ha:aO σ d.1=some d.2)(hd:Dk d.2)(hl:d.2.length≤90):LapOk T σ ap R [121,122] w s d where
 at1:=h1
 nr:=hN
 as:=ha
 le:=by refine rwS nm2 ?_; exact Nat.le_trans (wS h1 fun _=>h1) (by decide)
 nx:=fun σ' p=>⟨⟨aWh (eH ha p) hd hl,⟨by
   show (nM 121 (R d.2) [d]).length≤100
   rw[show nM 121 (R d.2) [d]=(R d.2).map fun i=>dW (aQ 121 d.2 i) from List.append_nil _,List.length_map]; exact Nat.le_trans h1.len (by decide),fun x mx=>by
   rw[show nM 121 (R d.2) [d]=(R d.2).map fun i=>dW (aQ 121 d.2 i) from List.append_nil _]at mx
   refine e12 (List.mem_map.mp mx) fun i hi e_2=>?_; subst e_2
   exact aIy hd.add (Nat.le_trans cU (Nat.le_trans (Nat.succ_le_succ hl) (by decide)))⟩,trivial⟩,fun q mq=>by
  rw[nm2]at mq
  refine e12 (List.mem_flatMap.mp mq) fun i hi mq=>?_
  refine e12 (List.mem_map.mp mq) fun j hj e_2=>?_; subst e_2
  exact⟨aIy hd.add.add (Nat.le_trans cU (Nat.le_trans (Nat.succ_le_succ (Nat.le_trans cU (Nat.succ_le_succ hl))) (by decide))),fun _=>⟨i,j,(jA (by decide)).trans cB,cB⟩⟩⟩
theorem nr1(hL:At1 L)(hs:Nr m s E w (.list (aJ L)))(hb:∀i∈L,Nr (m+1) b (aQ k E i) w (.int (f (aQ k E i))))(hd:Dk E)(hl:E.length≤90):Nr (m+2) (eT [gB false [k] mk s] b) E w (.int (fT (L.map fun i=>f (aQ k E i)))):=by
 have ew:∀ev,jD [(ev,E)] [⟨false,[k],mk,s,fun _=>L⟩]=L.map fun i=>dW (aQ k E i):=fun ev=>aUc.trans (List.append_nil _)
 refine xY (ds:=[⟨false,[k],mk,s,fun _=>L⟩]) (f:=f) (fun n hn σ ev e=>⟨⟨?_,fun p mp=>?_⟩,trivial⟩) (fun σ ev e σ' p=>⟨?_,fun p mp=>?_⟩) fun ev=>?_
 ·rw[show dI false (fun _=>L) [k] [(ev,E)]=_ from ew ev,List.length_map]; exact Nat.le_trans hL.len (by decide)
 ·refine rwS (List.mem_singleton.mp mp) ?_
  exact aRp (d:=(ev,E)) hL (hs n hn) e hd hl
 ·rw[ew,List.length_map]; exact Nat.le_trans hL.len (by decide)
 ·rw[ew]at mp
  refine e12 (List.mem_map.mp mp) fun i hi e_2=>?_; subst e_2
  exact⟨rfl,hb i hi⟩
 ·rw[ew,List.map_map]; rfl
theorem nr2(hL:At1 L)(hs:Nr m s E w (.list (aJ L)))(hb:∀i∈L,∀j∈L,Nr (m+1) b (aQ 122 (aQ 121 E i) j) w (.int (f (aQ 122 (aQ 121 E i) j))))(hd:Dk E)(hl:E.length≤90) :
  Nr (m+2) (eT [gB ap [121,122] mk s] b) E w (.int (fT (L.flatMap fun i=>L.map fun j=>cond (!ap || !decide ([j]=[i])) (f (aQ 122 (aQ 121 E i) j)) 0))):=by
 have ew:∀ev,jD [(ev,E)] [⟨ap,[121,122],mk,s,fun _=>L⟩]=(L.flatMap fun i=>L.map fun j=>dW (aQ 122 (aQ 121 E i) j)).filter fun p=>zL ap p.2:=fun ev=>(List.append_nil _).trans (congrArg (List.filter _) nm2)
 have le:∀ev,(jD [(ev,E)] [⟨ap,[121,122],mk,s,fun _=>L⟩]).length≤9:=fun ev=>by rw[ew]; exact Nat.le_trans (List.length_filter_le ..) (wS hL fun _=>hL)
 have ei:fT (L.flatMap fun i=>L.map fun j=>cond (!ap || !decide ([j]=[i])) (f (aQ 122 (aQ 121 E i) j)) 0)=fT (((L.flatMap fun i=>L.map fun j=>dW (aQ 122 (aQ 121 E i) j)).filter fun p=>zL ap p.2).map fun p=>f p.2):=by
  rw[aIt,List.map_flatMap]
  refine congrArg fT (congrArg (List.flatMap · L) (funext fun i=>?_))
  refine rwS List.map_map ?_
  refine List.map_congr_left fun j _=>?_
  show cond _ _ _=cond (zL ap (aQ 122 (aQ 121 E i) j)) (f (aQ 122 (aQ 121 E i) j)) 0
  delta zL
  refine rwS (jA (by decide)) (rwS cB (rwS cB ?_))
  show _=cond (!ap || !jQ (aJ [i]) (aJ [j])) _ _
  rw[mA,decide_eq_decide.mpr (eq_comm (a:=[i]) (b:=[j]))]
 refine rwS ei ?_
 refine xY (ds:=[⟨ap,[121,122],mk,s,fun _=>L⟩]) (f:=f) (fun n hn σ ev e=>⟨⟨Nat.le_trans (le ev) (by decide),fun p mp=>?_⟩,trivial⟩) (fun σ ev e σ' p=>⟨Nat.le_trans (le ev) (by decide),fun p mp=>?_⟩) fun ev=>?_
 ·refine rwS (List.mem_singleton.mp mp) ?_
  exact bAg (d:=(ev,E)) hL (hs n hn) e hd hl
 ·rw[ew]at mp
  refine e12 (List.mem_flatMap.mp (List.mem_filter.mp mp).1) fun i hi mp=>?_
  refine e12 (List.mem_map.mp mp) fun j hj e_2=>?_; subst e_2
  exact⟨rfl,hb i hi j hj⟩
 ·rw[ew]
theorem nr3(hL:At1 L)(hR:∀E,At1 (R E))(hs:Nr m s E w (.list (aJ L)))(hs':∀i∈L,Nr m s' (aQ k E i) w (.list (aJ (R (aQ k E i)))))(hb:∀i∈L,∀j∈R (aQ k E i),Nr (m+1) b (aQ k' (aQ k E i) j) w (.int (f (aQ k' (aQ k E i) j))))(hd:Dk E)(hl:E.length≤80) :
  Nr (m+2) (eT [gB false [k] mk s,gB false [k'] mk' s'] b) E w (.int (fT (L.flatMap fun i=>(R (aQ k E i)).map fun j=>f (aQ k' (aQ k E i) j)))):=by
 have e1:∀ev,dI false (fun _=>L) [k] [(ev,E)]=L.map fun i=>dW (aQ k E i):=fun ev=>aUc.trans (List.append_nil _)
 have e2:dI false R [k'] (L.map fun i=>dW (aQ k E i))=L.flatMap fun i=>(R (aQ k E i)).map fun j=>dW (aQ k' (aQ k E i) j):=by
  rw[aUc,List.flatMap_map]; rfl
 have ew:∀ev,jD [(ev,E)] [⟨false,[k],mk,s,fun _=>L⟩,⟨false,[k'],mk',s',R⟩]=L.flatMap fun i=>(R (aQ k E i)).map fun j=>dW (aQ k' (aQ k E i) j):=fun ev=>(congrArg (dI false R [k']) (e1 ev)).trans e2
 have le:∀ev,(jD [(ev,E)] [⟨false,[k],mk,s,fun _=>L⟩,⟨false,[k'],mk',s',R⟩]).length≤9:=fun ev=>by rw[ew]; exact wS hL fun i=>hR _
 refine xY (ds:=[⟨false,[k],mk,s,fun _=>L⟩,⟨false,[k'],mk',s',R⟩]) (f:=f) (fun n hn σ ev e=>⟨⟨?_,fun p mp=>?_⟩,⟨Nat.le_trans (le ev) (by decide),fun p mp=>?_⟩,trivial⟩) (fun σ ev e σ' p=>⟨Nat.le_trans (le ev) (by decide),fun p mp=>?_⟩) fun ev=>?_
 ·rw[show dI false (fun _=>L) [k] [(ev,E)]=_ from e1 ev,List.length_map]; exact Nat.le_trans hL.len (by decide)
 ·refine rwS (List.mem_singleton.mp mp) ?_
  exact aRp (d:=(ev,E)) hL (hs n hn) e hd (Nat.le_trans hl (by decide))
 ·rw[show dI false (fun _=>L) [k] [(ev,E)]=_ from e1 ev]at mp
  refine e12 (List.mem_map.mp mp) fun i hi e_2=>?_; subst e_2
  exact aRp (d:=dW (aQ k E i)) (hR _) (hs' i hi n hn) rfl hd.add (Nat.le_trans cU (Nat.le_trans (Nat.succ_le_succ hl) (by decide)))
 ·rw[ew]at mp
  refine e12 (List.mem_flatMap.mp mp) fun i hi mp=>?_
  refine e12 (List.mem_map.mp mp) fun j hj e_2=>?_; subst e_2
  exact⟨rfl,hb i hi j hj⟩
 ·rw[ew,List.map_flatMap]
  refine congrArg (List.flatMap · L) (funext fun i=>?_)
  refine rwS List.map_map ?_; rfl
end
theorem sk{α β:Type}{Q:α→Prop}{P:α→β→Prop}(b:β)(h:∀x,Q x→∃y,P x y):∃f:α→β,∀x,Q x→P x (f x) :=
 Classical.skolem.mp (fun x=>(Classical.em (Q x)).elim (fun q=>(h x q).imp fun y p _=>p) fun n=>⟨b,fun q=>absurd q n⟩:∀x,∃y,Q x→P x y)
theorem sk2{α β:Type}{A:β→Prop}{Q:α→Prop}{P:α→β→Prop}{b:β}(hb:A b)(h:∀x,Q x→∃y,A y∧P x y):∃f:α→β,(∀x,A (f x))∧∀x,Q x→P x (f x) :=
 (Classical.skolem.mp (fun x=>(Classical.em (Q x)).elim (fun q=>(h x q).imp fun y p=>⟨p.1,fun _=>p.2⟩) fun n=>⟨b,hb,fun q=>absurd q n⟩:∀x,∃y,A y∧(Q x→P x y))).imp fun f w=>⟨fun x=>(w x).1,fun x=>(w x).2⟩
noncomputable def NmP(S D:Env):Prop:=∀{k s},aK (.str k) S=some (.str s)→∃r,aK (.str k) D=some r∧(Sh (kd s) r∧(s=aW→∃l,r=dH l))
section
variable{q q' c d k k' s z n m l:Nat}{S S' D C E e e' e2:Env}{w:Wo}{v r nd a b:V}{st:Stf}{g:Gf}{ns:List Nat}{i:Int}
theorem NmP.set(h:NmP S D):NmP (aS (.str k) (.str aW) S) (aS (.str k) (dH l) D):=fun {j t} x=>by
 rw[bT]at x ⊢
 by_cases e:j=k
 ·rw[if_pos e]at x ⊢
  cases Option.some.inj x
  exact⟨_,rfl,⟨_,_,rfl,.inr ⟨rfl,by decide⟩⟩,fun _=>⟨l,rfl⟩⟩
 ·rw[if_neg e]at x ⊢
  exact h x
noncomputable abbrev nin(ns:List Nat)(x:V):Bool:=!((ns.map V.str).any fun y=>V.beq y x)
theorem aJe{x:V}(h:nin ns x=true):flC ns ((x,v)::C)=(x,v)::flC ns C:=List.filter_cons_of_pos (p:=fun p:V × V=>nin ns p.1) (a:=(x,v)) h
theorem aPb{x:V}(h:nin ns x=false):flC ns ((x,v)::C)=flC ns C:=List.filter_cons_of_neg (p:=fun p:V × V=>nin ns p.1) (a:=(x,v)) (by show ¬nin ns x=true; refine rwS h ?_; exact Bool.false_ne_true)
theorem aIs(h:k ∉ ns):∀{C:Env},aK (.str k) (flC ns C)=aK (.str k) C
 | []=>rfl
 | (x,v)::C=>by
  by_cases hx:V.beq x (.str k)=true
  ·have ha:nin ns x=true:=by
    delta nin
    rw[fH hx,Bool.not_eq_true',List.any_eq_false]
    intro y my
    refine e12 (List.mem_map.mp my) fun j mj e_2=>?_; subst e_2
    exact fun q=>h (by have:=of_decide_eq_true q; exact this▸mj)
   refine rwS (aJe ha) ?_
   show (if V.beq x (.str k)=true then some v else _)=if V.beq x (.str k)=true then some v else _
   exact rwS (if_pos hx) (rwS (if_pos hx) rfl)
  ·refine rwS (show aK (.str k) ((x,v)::C)=aK (.str k) C from if_neg hx) ?_
   cases hp:nin ns x with
   | true =>
    refine rwS (aJe hp) ?_
    exact(if_neg hx).trans (aIs h (C:=C))
   | false =>
    refine rwS (aPb hp) ?_
    exact(aIs h (C:=C))
theorem aJa(h:k∈ns):∀{C:Env},aK (.str k) (flC ns C)=none
 | []=>rfl
 | (x,v)::C=>by
  cases hp:nin ns x with
  | true =>
   refine rwS (aJe hp) ?_
   refine(if_neg fun hx=>?_).trans (aJa h (C:=C))
   delta nin at hp
   have ha:((ns.map V.str).any fun y=>V.beq y (.str k))=true:=List.any_eq_true.mpr ⟨.str k,List.mem_map.mpr ⟨k,h,rfl⟩,iC _⟩
   rw[fH hx,ha]at hp
   cases hp
  | false =>
   refine rwS (aPb hp) ?_
   exact(aJa h (C:=C))
theorem Do.dcl(h:Do q S D)(hC:Cs q D C)(hq:q≤q')(h1:1≤q')(hl:D.length+3≤10*q')(hS':SOk S')(hn:∀k∈ns,k∈aM)(h2:ns.length≤2)(hx:NmP S' (ext D ((ns.zip (iO c ns)).map fun q=>(q.1,dH q.2)))):Do q' S' (nxD D C c ns)∧Cs q' (nxD D C c ns) (flC ns C):=by
 have cs:Cs q' (nxD D C c ns) (flC ns C):=⟨congrArg (Option.getD · _) mB,hC.ks.flC,Nat.le_trans tK (Nat.le_trans hC.ln (Nat.mul_le_mul_left 10 hq)),fun k hk=>by
  by_cases m:k∈ns
  ·refine rwS (aJa m) ?_; exact⟨1,1,rfl,by lia⟩
  ·refine rwS (aIs m) ?_
   refine e22 (hC.c k hk) fun a b e x=>?_
   exact⟨a,b,e,by lia⟩⟩
 refine⟨⟨fun {j t} x=>?_,fun t m=>?_,⟨_,cs⟩,Nat.le_trans (yV h2) hl⟩,cs⟩
 ·delta nxD
  refine rwS (dM (pH j (hS'.at x).1)) ?_
  exact hx x
 ·delta nxD
  rw[dM (tY t m 111 (by decide)).2,tZ fun p mp=>?_]
  ·exact h.no t m
  ·refine e12 (List.mem_map.mp mp) fun y my e_2=>?_; subst e_2
   exact fun e=>(tY t m y.1 (hn _ (List.of_mem_zip my).1)).1 e.symm
theorem kP(hk:k≠0):nmf (aS (.str k) r D)=eZ (nmf D) k r:=funext fun j=>by
 delta nmf eZ
 by_cases h0:j=0
 ·subst h0; rw[if_pos rfl,if_pos rfl,if_neg (Ne.symm hk)]
 ·refine rwS (if_neg h0) (rwS (if_neg h0) (rwS bT ?_))
  by_cases h:j=k
  ·refine rwS (if_pos h) (rwS (if_pos h) ?_); rfl
  ·exact rwS (if_neg h) (rwS (if_neg h) rfl)
theorem aBa:nmf (aS (.str 0) r D)=nmf D:=funext fun j=>by
 delta nmf
 by_cases h0:j=0
 ·exact rwS (if_pos h0) (rwS (if_pos h0) rfl)
 ·exact rwS (if_neg h0) (rwS (if_neg h0) (rwS (dM h0) rfl))
theorem Fi.step(h:Fi q c S g E w e)(h1:1≤q)(hk:k∈aM)(hc:c<12):Fi q (c+1) (aS (.str k) (.str aW) S) (eZ g k (dH (lab k (c+1)))) (aQ k E i) w (aQ (lab k (c+1)) e i) :=
 ((h.agr (Agr.new hk hc)).up (Nat.le_refl _) (Nat.le_succ c)).set (Nat.le_refl _) fun e' k1 k2 a=>(zR ((a k hk c (Nat.lt_succ_self c)).trans cB)).up h1
theorem Ee.step(h:Ee S E)(hk:k∈aM){L:List Int}(hL:At1 L)(hi:i∈L):Ee (aS (.str k) (.str aW) S) (aQ k E i) :=
 h.set hk (by delta Vl; refine rwS (if_neg yZ) ?_; exact⟨[i],rfl,At1.one (hL.mem hi)⟩)
theorem k21{x:Nat}(h:k≤2*d)(hx:x≤2):x+k≤2*(d+1):=by lia
theorem dl3(h:n≤10*q):n+3≤10*(q+4):=by lia
theorem ac1{x:Nat}(h:c+2*(d+1)≤12)(hx:x≤2):c+x+2*d≤12:=by lia
theorem ac2{x:Nat}(h:c+2*(d+1)≤12)(hx:x≤2):c+x≤12:=by lia
theorem q20{x:Nat}(h:q≤12)(hx:x≤8):q+x≤20:=Nat.le_trans (Nat.add_le_add h hx) (Nat.le_refl 20)
theorem l20:20≤q+24+16*d:=by lia
theorem lw4:q+4+20+16*d≤q+24+16*d:=by lia
theorem ls1:q+24+16*d+1≤q+20+16*(d+1):=by lia
theorem zs1{x:Nat}(hx:x≤50):x+(q+4+4+200*d)+1≤q+4+200*(d+1):=by lia
theorem ts3{x:Nat}(hx:x≤8):q+x≤q+8+16*d:=by lia
theorem ts4:q+4+4+16*d≤q+8+16*d:=by lia
theorem ts1{x:Nat}(hx:x≤12):q+8+16*d+x≤q+4+16*(d+1):=by lia
theorem al1{x:Nat}(h:n≤m+x)(h2:m+2*(d+1)≤50)(hx:x≤2):n+2*d≤50:=by lia
theorem aWj{x:Nat}(h:n≤m+x)(h2:m+2*(d+1)≤50)(hx:x≤2):n≤50:=Nat.le_trans (Nat.le_add_right ..) (al1 h h2 hx)
theorem al9(h2:m+2*(d+1)≤50):m≤90:=by lia
theorem c12{x:Nat}(h:c+2*(d+1)≤12)(hx:x≤1):c+x<12:=by lia
theorem aRs(hS:SOk S)(hk:k=121∨k=122)(ha:rM S a)(hb:NuP d (aS (.str k) (.str aW) S) b):NuP (d+1) S (eT [gB false [k] 0 a] b):=by
 have hk:k∈aM:=by rcases hk with rfl | rfl <;> decide
 refine e12 (tP hS ha) fun opS s1 s2=>?_
 refine e23 hb.g fun opb kc hkc b1 b2=>?_
 refine⟨fun g c=>zA [.tup [.str (lab k (c+1)),opS g]] (opb (eZ g k (dH (lab k (c+1)))) (c+1)),1+kc,k21 hkc (by decide),fun st F q D c hq hc g=>?_,fun hd E w g=>?_⟩
 ·refine e1 g.cs fun C hC=>?_
  have q12:=q16 hq
  have hx:=g.dcl (c:=c) (ns:=[k]) hC (Nat.le_add_right q 4) (Nat.le_add_left 1 (q+3)) (dl3 g.ln) (hS.set hk (q:=aW) (by decide)) (fun j m=>by refine rwS (List.mem_singleton.mp m) ?_; exact hk) (by decide:1≤2) (NmP.set g.nm)
  have w:=b1 st F (q+4) (nxD D C c [k]) (c+1) (aq4 hq) (ac1 hc (by decide)) hx.1
  rw[show nmf (nxD D C c [k])=eZ (nmf D) k (dH (lab k (c+1))) from aBa.trans (kP (pH k hk))]at w
  refine rwS (show c+(1+kc)=c+1+kc from (Nat.add_assoc ..).symm) ?_
  exact(yN F (m:=24+10*d) (d:=q+24+16*d) (zb:=q+4+4+200*d) [⟨false,[k],0,a,opS (nmf D)⟩] (by decide:1≤10) (fun n hn=>⟨⟨⟨rfl,fun j m=>by refine rwS (List.mem_singleton.mp m) ?_; exact hk,(by decide:1≤2)⟩,(((s1 st F q D g).1 c).up (m':=n) (Nat.le_trans (bF (by decide)) hn) (q20 q12 (by decide)) (q20 q12 (by decide))) n (Nat.le_refl n),(s1 st F q D g).2 n (Nat.le_trans (bF (by decide)) hn)⟩,⟨hC.z,hC.ks,Nat.le_trans (ten hC.ln q12) (by decide),Nat.le_trans (ten g.ln q12) (by decide)⟩,trivial⟩) (show c+1≤12 from ac2 hc (by decide)) (Nat.le_trans (ten g.ln q12) (by decide)) l20 (.inl ⟨rfl,rfl⟩) (bF (by decide)) (w.up (Nat.le_refl _) lw4 (Nat.le_refl _))).up (mF (by decide)) ls1 (zs1 (x:=20) (by decide))
 ·refine e13 (s2 E w g) fun L hL nS tS=>?_
  refine e1 (sk (0:Int) fun E' h=>b2 (Nat.le_of_succ_le hd) E' w h) fun f hf=>?_
  have ee:=fun i hi=>hf _ (g.step hk hL (i:=i) hi)
  refine⟨fT (L.map fun i=>f (aQ k E i)),aEq (n:=3) (fun x mx=>?_) (by decide) (by rw[List.length_map]; exact hL.len),(nr1 (m:=8+10*d) hL (nS.up (b8 (by decide))) (f:=f) (k:=k) (fun i hi=>(ee i hi).2.1.up (Nat.le_succ _)) g.dk (Nat.le_trans g.ln (by decide))).up (rF (by decide)),fun q c g' e hq hc fi d1 d2=>?_⟩
  ·refine e12 (List.mem_map.mp mx) fun i hi e_2=>?_; subst e_2
   exact(ee i hi).1
  ·exact(td1 (m:=q+8+16*d) hL ((tS q c g' e fi d1 (al5 d2)).up (ts3 (by decide))) (fun i hi=>((ee i hi).2.2 (q+4) (c+1) _ _ (aq4 hq) (ac1 hc (by decide)) ((fi.up (Nat.le_add_right q 4) (Nat.le_refl _)).step (Nat.le_add_left 1 (q+3)) hk (c12 (x:=0) hc (by decide))) d1.add (al1 cU d2 (by decide))).up ts4) d1 (al9 d2)).up (ts1 (by decide))
end
section
variable{q q' c d k k' s z n m l:Nat}{S S' D C E e e' e2:Env}{w:Wo}{v r nd a a' b X Y:V}{st:Stf}{g:Gf}{ns:List Nat}{i j:Int}{ap:Bool}
theorem aBx{L:List Int}{L2:Int→List Int}{G:Int→Int→Int}{B:Nat}(hL:At1 L)(hL2:∀i,At1 (L2 i))(h:∀i∈L,∀j∈L2 i,(G i j).natAbs≤B):(fT (L.flatMap fun i=>(L2 i).map (G i))).natAbs≤9*B :=
 aEq (n:=9) (fun x mx=>by
  refine e12 (List.mem_flatMap.mp mx) fun i hi mx=>?_
  refine e12 (List.mem_map.mp mx) fun j hj e_2=>?_; subst e_2
  exact h i hi j hj) (Nat.le_refl 9) (wS hL hL2)
theorem aWb(hk:k∈aM)(hk':k'∈aM)(hc:c+1<12):lab k (c+1)≠lab k' (c+1+1):=fun q=>absurd (aIz k hk k' hk' c (Nat.lt_of_succ_lt hc) (c+1) hc q).2 (Nat.ne_of_lt (Nat.lt_succ_self c))
noncomputable def apW(ap:Bool)(l1 l2:Nat)(r:V):V:=cond ap (chV (apV (l2,l1)) r (n0V 0)) r
theorem aXy{l1 l2:Nat}:aXx ((cond ap (prs [l1,l2]) []).map apV++[]) r (apW ap l1 l2 r):=by
 cases ap with
 | false=>exact .inl ⟨rfl,rfl⟩
 | true=>exact .inr ⟨_,rfl,rfl,rfl⟩
theorem aYn{l1 l2:Nat}{w:V}{x:Int}(h1:aK (.str l1) e=some (.list [bS i]))(h2:aK (.str l2) e=some (.list [bS j]))(hr:Td (m+3) r e w (.int x)):Td (m+4) (apW ap l1 l2 r) e w (.int (cond (!ap || !decide ([j]=[i])) x 0)):=by
 cases ap with
 | false=>exact hr.up (Nat.le_succ _)
 | true =>
  refine aOp (m:=m+3) (q:=!decide ([j]=[i])) ((aEm (fV (m:=0) (op:=sY) (x:=62) (.inr (.inl ⟨rfl,rfl⟩)) (zR h2) (zR h1) (aJt (l:=[j]) (l':=[i])))).up (Nat.le_add_left ..)) (fun t=>?_) fun t=>?_
  ·show Td _ _ _ _ (.int (cond (!decide ([j]=[i])) x 0))
   refine rwS t ?_; exact hr
  ·show Td _ _ _ _ (.int (cond (!decide ([j]=[i])) x 0))
   refine rwS t ?_; exact zU.up (Nat.le_add_left ..)
theorem dl6(h:n≤10*q):n+3+3≤10*(q+4):=by lia
theorem aQt(hS:SOk S)(ha:rM S a)(hb:NuP d (aS (.str 122) (.str aW) (aS (.str 121) (.str aW) S)) b):NuP (d+1) S (eT [gB ap [121,122] 0 a] b):=by
 have k1:121∈aM:=by decide
 have k2:122∈aM:=by decide
 refine e12 (tP hS ha) fun opS s1 s2=>?_
 refine e23 hb.g fun opb kc hkc b1 b2=>?_
 refine⟨fun g c=>zA [.tup [.str (lab 121 (c+1)),opS g],.tup [.str (lab 122 (c+1+1)),opS g]] (apW ap (lab 121 (c+1)) (lab 122 (c+1+1)) (opb (eZ (eZ g 121 (dH (lab 121 (c+1)))) 122 (dH (lab 122 (c+1+1)))) (c+2))),2+kc,k21 hkc (by decide),fun st F q D c hq hc g=>?_,fun hd E w g=>?_⟩
 ·refine e1 g.cs fun C hC=>?_
  have q12:=q16 hq
  have hn:∀j∈[121,122],j∈aM:=by decide
  have w:=b1 st F (q+4) (nxD D C c [121,122]) (c+2) (aq4 hq) (ac1 hc (by decide)) (g.dcl (c:=c) (ns:=[121,122]) hC (Nat.le_add_right q 4) (Nat.le_add_left 1 (q+3)) (dl3 g.ln) ((hS.set k1 (q:=aW) (by decide)).set k2 (q:=aW) (by decide)) hn (by decide) (NmP.set (NmP.set g.nm))).1
  rw[show nmf (nxD D C c [121,122])=eZ (eZ (nmf D) 121 (dH (lab 121 (c+1)))) 122 (dH (lab 122 (c+1+1))) from aBa.trans ((kP (pH 122 k2)).trans (congrArg (fun x=>eZ x 122 _) (kP (pH 121 k1))))]at w
  refine rwS (show c+(2+kc)=c+2+kc from (Nat.add_assoc ..).symm) ?_
  exact(yN F (m:=24+10*d) (d:=q+24+16*d) (zb:=q+4+4+200*d) [⟨ap,[121,122],0,a,opS (nmf D)⟩] (by show 1≤10; decide) (fun n hm=>⟨⟨⟨rfl,hn,Nat.le_refl 2⟩,(((s1 st F q D g).1 c).up (m':=n) (Nat.le_trans (bF (by decide)) hm) (q20 q12 (by decide)) (q20 q12 (by decide))) n (Nat.le_refl n),(s1 st F q D g).2 n (Nat.le_trans (bF (by decide)) hm)⟩,⟨hC.z,hC.ks,Nat.le_trans (ten hC.ln q12) (by decide),Nat.le_trans (ten g.ln q12) (by decide)⟩,trivial⟩) (show c+2≤12 from ac2 hc (by decide)) (Nat.le_trans (ten g.ln q12) (by decide)) l20 aXy (bF (by decide)) (w.up (Nat.le_refl _) lw4 (Nat.le_refl _))).up (mF (by decide)) ls1 (zs1 (x:=20) (by decide))
 ·refine e13 (s2 E w g) fun L hL nS tS=>?_
  refine e1 (sk (0:Int) fun E' h=>b2 (Nat.le_of_succ_le hd) E' w h) fun f hf=>?_
  have ee:=fun i hi j hj=>hf _ ((g.step k1 hL (i:=i) hi).step k2 hL (i:=j) hj)
  refine⟨_,aBx (G:=fun i j=>cond (!ap || !decide ([j]=[i])) (f (aQ 122 (aQ 121 E i) j)) 0) hL (fun _=>hL) (fun i hi j hj=>?_),(nr2 (m:=8+10*d) (f:=f) hL (nS.up (b8 (by decide))) (fun i hi j hj=>(ee i hi j hj).2.1.up (Nat.le_succ _)) g.dk (Nat.le_trans g.ln (by decide))).up (rF (by decide)),fun q c g' e hq hc fi d1 d2=>?_⟩
  ·show (cond _ _ _:Int).natAbs≤_
   cases (!ap || !decide ([j]=[i])) with
   | true=>exact(ee i hi j hj).1
   | false=>exact Nat.zero_le _
  ·have hne:=aWb (c:=c) k1 k2 (c12 hc (Nat.le_refl 1))
   have ag:=fun i=>fi.agr (Agr.new (v:=.list [bS i]) k1 (c12 (x:=0) hc (by decide)))
   have f1:=fun i j=>(((fi.up (Nat.le_add_right q 4) (Nat.le_refl _)).step (i:=i) (Nat.le_add_left 1 (q+3)) k1 (c12 (x:=0) hc (by decide))).step (i:=j) (Nat.le_add_left 1 (q+3)) k2 (c12 hc (Nat.le_refl 1)))
   exact(td2 (m:=q+8+16*d+4) hne hL (fun _=>hL) ((tS q c g' e fi d1 (al5 d2)).up (Nat.le_trans (ts3 (by decide)) (Nat.le_add_right ..))) (fun i hi=>(tS q c g' (aQ (lab 121 (c+1)) e i) (ag i) d1.add (aWj cU d2 (by decide))).up (Nat.le_trans (ts3 (by decide)) (Nat.le_add_right ..))) (fun i hi j hj=>(aYn (m:=q+8+16*d) ((jA hne).trans cB) cB (((ee i hi j hj).2.2 (q+4) (c+2) _ _ (aq4 hq) (ac1 hc (by decide)) (f1 i j) d1.add.add (al1 (x:=2) (Nat.le_trans cU (Nat.succ_le_succ cU)) d2 (by decide))).up (Nat.le_trans ts4 (Nat.le_add_right ..))))) d1 (al9 d2)).up (ts1 (x:=5) (by decide))
theorem aSp(hS:SOk S)(hk:k=121∨k=122)(hk':k'=111∨k'=121)(ha:rM S a)(ha':rM (aS (.str k) (.str aW) S) a')(hb:NuP d (aS (.str k') (.str aW) (aS (.str k) (.str aW) S)) b):NuP (d+1) S (eT [gB false [k] 0 a,gB false [k'] aDp a'] b):=by
 have k1:k∈aM:=by rcases hk with rfl | rfl <;> decide
 have k2:k'∈aM:=by rcases hk' with rfl | rfl <;> decide
 have hS1:=hS.set k1 (q:=aW) (by decide)
 refine e12 (tP hS ha) fun opS s1 s2=>?_
 refine e12 (tP hS1 ha') fun opT t1 t2=>?_
 refine e23 hb.g fun opb kc hkc b1 b2=>?_
 refine⟨fun g c=>zA [.tup [.str (lab k (c+1)),opS g],.tup [.str (lab k' (c+1+1)),opT (eZ g k (dH (lab k (c+1))))]] (opb (eZ (eZ g k (dH (lab k (c+1)))) k' (dH (lab k' (c+1+1)))) (c+2)),2+kc,k21 hkc (by decide),fun st F q D c hq hc g=>?_,fun hd E w g=>?_⟩
 ·refine e1 g.cs fun C hC=>?_
  have q12:=q16 hq
  have hn1:∀j∈[k],j∈aM:=fun j m=>by refine rwS (List.mem_singleton.mp m) ?_; exact k1
  have hn2:∀j∈[k'],j∈aM:=fun j m=>by refine rwS (List.mem_singleton.mp m) ?_; exact k2
  have hx:=g.dcl (c:=c) (ns:=[k]) hC (Nat.le_add_right q 4) (Nat.le_add_left 1 (q+3)) (dl3 g.ln) hS1 hn1 (by show 1≤2; decide) (NmP.set g.nm)
  have e1:nmf (nxD D C c [k])=eZ (nmf D) k (dH (lab k (c+1))):=aBa.trans (kP (pH k k1))
  have w:=b1 st F (q+4) (nxD (nxD D C c [k]) (flC [k] C) (c+1) [k']) (c+2) (aq4 hq) (ac1 hc (by decide)) (hx.1.dcl (c:=c+1) (ns:=[k']) hx.2 (Nat.le_refl _) (Nat.le_add_left 1 (q+3)) (Nat.le_trans (Nat.add_le_add_right (yV (D:=D) (C:=C) (ns:=[k]) (c:=c) (by show 1≤2; decide)) 3) (dl6 g.ln)) (hS1.set k2 (q:=aW) (by decide)) hn2 (by show 1≤2; decide) (NmP.set hx.1.nm)).1
  rw[show nmf (nxD (nxD D C c [k]) (flC [k] C) (c+1) [k'])=eZ (eZ (nmf D) k (dH (lab k (c+1)))) k' (dH (lab k' (c+1+1))) from aBa.trans ((kP (pH k' k2)).trans (congrArg (fun x=>eZ x k' _) e1))]at w
  have tt:=t1 st F (q+4) (nxD D C c [k]) hx.1
  rw[e1]at tt
  refine rwS (show c+(2+kc)=c+2+kc from (Nat.add_assoc ..).symm) ?_
  exact(yN F (m:=24+10*d) (d:=q+24+16*d) (zb:=q+4+4+200*d) [⟨false,[k],0,a,opS (nmf D)⟩,⟨false,[k'],aDp,a',opT (eZ (nmf D) k (dH (lab k (c+1))))⟩] (by show 2≤10; decide) (fun n hm=>⟨⟨⟨rfl,hn1,(by show 1≤2; decide)⟩,(((s1 st F q D g).1 c).up (m':=n) (Nat.le_trans (bF (by decide)) hm) (q20 q12 (by decide)) (q20 q12 (by decide))) n (Nat.le_refl n),(s1 st F q D g).2 n (Nat.le_trans (bF (by decide)) hm)⟩,⟨hC.z,hC.ks,Nat.le_trans (ten hC.ln q12) (by decide),Nat.le_trans (ten g.ln q12) (by decide)⟩,
   ⟨⟨rfl,hn2,(by show 1≤2; decide)⟩,((tt.1 (c+1:Nat)).up (m':=n) (Nat.le_trans (bF (by decide)) hm) (q20 (x:=7) q12 (by decide)) (q20 (x:=7) q12 (by decide))) n (Nat.le_refl n),tt.2 n (Nat.le_trans (bF (by decide)) hm)⟩,⟨hx.2.z,hx.2.ks,Nat.le_trans tK (Nat.le_trans (ten hC.ln q12) (by decide)),Nat.le_trans (Nat.le_trans (yV (D:=D) (C:=C) (ns:=[k]) (c:=c) (by show 1≤2; decide)) (Nat.add_le_add_right (ten g.ln q12) 3)) (by decide)⟩,trivial⟩) (show c+2≤12 from ac2 hc (by decide)) (Nat.le_trans (ten g.ln q12) (by decide)) l20 (.inl ⟨rfl,rfl⟩) (bF (by decide)) (w.up (Nat.le_refl _) lw4 (Nat.le_refl _))).up (mF (by decide)) ls1 (zs1 (x:=40) (by decide))
 ·refine e13 (s2 E w g) fun L hL nS tS=>?_
  refine e12 (sk2 (A:=At1) (b:=[]) (List.nil_sublist _) fun E' h=>t2 E' w h) fun R hR nR=>?_
  refine e1 (sk (0:Int) fun E' h=>b2 (Nat.le_of_succ_le hd) E' w h) fun f hf=>?_
  have e1:=fun i hi=>g.step k1 hL (i:=i) hi
  have ee:=fun i hi j hj=>hf _ ((e1 i hi).step k2 (hR (aQ k E i)) (i:=j) hj)
  refine⟨_,aBx (L2:=fun i=>R (aQ k E i)) (G:=fun i j=>f (aQ k' (aQ k E i) j)) hL (fun i=>hR _) (fun i hi j hj=>(ee i hi j hj).1),(nr3 (m:=8+10*d) (f:=f) hL hR (nS.up (b8 (by decide))) (fun i hi=>(nR _ (e1 i hi)).1.up (b8 (by decide))) (fun i hi j hj=>(ee i hi j hj).2.1.up (Nat.le_succ _)) g.dk (Nat.le_trans g.ln (by decide))).up (rF (by decide)),fun q c g' e hq hc fi d1 d2=>?_⟩
  have f1:=fun i=>(fi.up (Nat.le_add_right q 4) (Nat.le_refl _)).step (i:=i) (Nat.le_add_left 1 (q+3)) k1 (c12 (x:=0) hc (by decide))
  exact(td2 (m:=q+8+16*d) (aWb (c:=c) k1 k2 (c12 hc (Nat.le_refl 1))) hL (fun i=>hR (aQ k E i)) ((tS q c g' e fi d1 (al5 d2)).up (ts3 (by decide))) (fun i hi=>((nR _ (e1 i hi)).2 (q+4) (c+1) _ _ (f1 i) d1.add (aWj cU d2 (by decide))).up (ts3 (x:=7) (by decide))) (fun i hi j hj=>((ee i hi j hj).2.2 (q+4) (c+2) _ _ (aq4 hq) (ac1 hc (by decide)) ((f1 i).step (Nat.le_add_left 1 (q+3)) k2 (c12 hc (Nat.le_refl 1))) d1.add.add (al1 (x:=2) (Nat.le_trans cU (Nat.succ_le_succ cU)) d2 (by decide))).up ts4) d1 (al9 d2)).up (ts1 (by decide))
end
theorem aRh:Alg (fun d S nd=>SOk S→NuP d S nd) (fun S nd=>SOk S→TrP S nd) where
 num:=fun h _=>NuP.of0 (aWv h)
 card:=fun h hS=>NuP.of0 (aTw hS h)
 name:=fun h hS=>NuP.of0 (aQm hS h)
 neg:=fun h hS=>aZw (h hS)
 cond:=fun hc ha hb hS=>aRl (hc hS) (ha hS) (hb hS)
 letS:=fun hS hk ha hb _=>aSn hS hk ha (hb (hS.set (nk2 hk) (by decide)))
 letN:=fun hS hk ha hb _=>aVa hS hk (ha hS) (hb (hS.set (nk2 hk) (by decide)))
 call0:=fun ho ha hb hS=>yX ho (.inl ⟨rfl,rfl⟩) (ha hS) (hb hS)
 call1:=fun ho ha hb hS=>yX ho (.inr (.inl ⟨rfl,rfl⟩)) (ha hS) (hb hS)
 call2:=fun ho ha hb hS=>yX ho (.inr (.inr ⟨rfl,rfl⟩)) (ha hS) (hb hS)
 sum1:=fun hS hk ha hb _=>aRs hS hk ha (hb (hS.set (by rcases hk with rfl | rfl <;> decide) (by decide)))
 sum2:=fun hS ha hb _=>aQt hS ha (hb ((hS.set (by decide) (by decide)).set (by decide) (by decide)))
 sum3:=fun hS hk hk' ha ha' hb _=>aSp hS hk hk' ha ha' (hb ((hS.set (by rcases hk with rfl | rfl <;> decide) (by decide)).set (by rcases hk' with rfl | rfl <;> decide) (by decide)))
 un:=fun hw h hS=>bAj hS hw h
 set2:=fun ho ha hb hS=>aRz hS ho ha hb
 cmp:=fun ho ha hb hS=>aXf ho (ha hS) (hb hS)
noncomputable def Two(p:V × V):Prop:=∀w:Wo,∃i:Int,Nr 38 p.1 [] w.v (.int i)∧Td 53 p.2 [] w.v (.int i)
theorem aTj:Do 1 [] []:=⟨fun x=>(nomatch x),fun s m=>rfl,⟨[],rfl,⟨(fun p m=>nomatch m),List.nodup_nil⟩,Nat.zero_le _,fun k hk=>⟨1,1,rfl,by decide⟩⟩,Nat.zero_le _⟩
theorem aSs:Ee [] []:=⟨fun x=>(nomatch x),(fun p m=>nomatch m),List.nodup_nil⟩
section
variable{st:Stf}{n k c:Nat}{L:List V}{nd t:V}{T:TabK}{K:V→St→Prop}{ct sp ht pk l:Int}{τ:St}
theorem aIi(h:NuP 3 [] nd)(hc:c≤6):∃(t:V) (kc:Nat),kc≤6∧(Two (nd,t)∧∀(st:Stf),SF st→Op st 54 39 [] c (c+kc:Nat) 69 605 nd t):=by
 refine e23 h.g fun op kc hk h1 h2=>?_
 exact⟨op (nmf []) c,kc,hk,fun w=>(h2 (by decide) [] w aSs).imp fun i x=>⟨x.2.1,x.2.2 1 c (nmf []) [] (by decide) (by lia) ⟨fun x=>(nomatch x)⟩ ⟨(fun p m=>nomatch m),List.nodup_nil⟩ (by decide)⟩,fun st F=>h1 st F 1 [] c (by decide) (by lia) aTj⟩
noncomputable def opR(ct sp ht pk:Int)(τ:St):St:=aWu++(.inst 1 (opF ct sp ht pk)::.dict []::τ)
theorem qI{t:SObj}:stt t ct sp ht pk τ=t::opR ct sp ht pk τ:=by delta stt; rfl
theorem aJq{μ:St}:opR ct sp ht pk τ++μ=opR ct sp ht pk (τ++μ):=by
 delta opR
 rw[List.append_assoc]; rfl
theorem aSe(h:NumT T L (fun d S nd=>SOk S→NuP d S nd) 3)(hk:k≤500)(z:∀nd k' l' μ,k≤k'∧k'≤k+39→NuP 3 [] nd→K nd (stt (aT L k' l') ct sp ht pk (τ++μ))):T.call 82 [.loc 0,.dict [],.int 3] (stt (aT L k l) ct sp ht pk τ) K:=by
 refine rwS qI ?_
 refine h [] (.dict []) k l _ K .nil (.inl rfl) (by lia) fun nd k' l' ρ' hk' p hN=>?_
 obtain⟨μ,rfl⟩:=p
 have z:=z nd k' l' μ hk' (hN .nil)
 rw[qI,← aJq]at z
 exact z
noncomputable abbrev lw(s a1 a2 a3 a4 a5 a6 a7 a8 a9 a10 a11:Option V):aP:=[s,a1,a2,a3,a4,a5,a6,a7,a8,a9,a10,a11]
noncomputable def aFi:List S:=[.asg (.item (.var 1) (.cst (.str 1005348000618130702453))) (.cst (.int 8)),
   .mth .app (.var 5) (.call 82 [(.var 1),(.dict []),(.cst (.int 3))]),
   .mth .app (.var 6) (.meth (.var 4) 4502697214463632837895632474603635 [(.item (.var 5) (.cst (.int (-1)))),(.dict [])])]
structure LF(T:TabK)(S2:Nat→Int→Stf):Prop where
 F:∀k l,SF (S2 k l)
 left:∀{k l ct sp ht pk τ},lZ (.loc 0) (.str 1005348000618130702453) (.int 8) (S2 k l ct sp ht pk τ)=some (S2 k 8 ct sp ht pk τ)
 draw:∀{k:Nat} {l ct sp ht pk:Int} {τ:St} {K:V→St→Prop},k≤500→(∀nd k' l' μ,k≤k'∧k'≤k+39→NuP 3 [] nd→K nd (S2 k' l' ct sp ht pk (τ++μ)))→T.call 82 [.loc 0,.dict [],.int 3] (S2 k l ct sp ht pk τ) K
 op:∀{nd:V} {c:Nat},NuP 3 [] nd→c≤6→∃(t:V) (kc:Nat),kc≤6∧(Two (nd,t)∧∀k l,OpT (S2 k l) T 39 [] c (c+kc:Nat) 69 605 nd t)
theorem aYk(hL:okL L)(hn:54≤n):LF ⟨aE prog n⟩ (fun k l=>stt (aT L k l)) where
 F:=fun k l=>sO _
 left:=by intro k l ct sp ht pk τ; show lZ _ _ _ (stt _ _ _ _ _ _)=some (stt _ _ _ _ _ _); refine rwS qI (rwS qI ?_); rfl
 draw:=fun hk z=>aSe (aCd hL aRh 3 n (Nat.le_trans (by decide) hn)) hk z
 op:=fun h hc=>(aIi h hc).imp fun t x=>x.imp fun kc x=>⟨x.1,x.2.1,fun k l=>x.2.2 _ (sO _) n hn⟩
theorem aJv{σ:St}{j:Nat}{l:List V}{v:V}(h:σ[j]?=some (.list (l++[v])))(hl:l.length≤1000):gJ σ (.loc j) (.int (-1))=some v:=by
 show (cH σ (.loc j)).bind _=_
 refine rwS (show cH σ (.loc j)=some (l++[v]) by show rP σ[j]?=_; rw[h]; rfl) ?_
 exact(uW (v:=v) hl σ)
theorem aZy{a b:SObj}{μ τ':St}(p:a::b::μ <+: τ'):∃μ',τ'=a::b::μ':=p.elim fun u e=>⟨μ++u,e.symm⟩
theorem aAr{S2:Nat→Int→Stf}{kt:Out→Prop}{a0 a2 a3 a7 a8 a9 a10 a11:Option V}{nds tds:List V}{μ:St}(H:LF T S2)(hk:k≤500)(hc:c≤6)(h0:0≤sp)(hs:sp≤1000)(hn:nds.length≤100)(ht:tds.length≤100)
  (z:∀(nd t:V) (k':Nat) (l':Int) (c':Nat) (sp' pk':Int) (μ':St),Two (nd,t)→k≤k'∧k'≤k+39→c'≤c+6→sp≤sp'∧sp'≤sp+605→kt (.next (lw a0 (some (.loc 0)) a2 a3 (some (.loc 9)) (some (.loc 11)) (some (.loc 12)) a7 a8 a9 a10 a11) (S2 k' l' c' sp' 0 pk' (.list (nds++[nd])::.list (tds++[t])::μ')))) :
  kSs prog T aFi (lw a0 (some (.loc 0)) a2 a3 (some (.loc 9)) (some (.loc 11)) (some (.loc 12)) a7 a8 a9 a10 a11) (S2 k l c sp 0 pk (.list nds::.list tds::μ)) kt:=by
 have at0:∀{k l c sp pk a b μ},(S2 k l c sp 0 pk (a::b::μ))[11]?=some a:=fun {k l c sp pk a b μ}=>(H.F k l).tau (i:=0)
 have at1:∀{k l c sp pk a b μ},(S2 k l c sp 0 pk (a::b::μ))[12]?=some b:=fun {k l c sp pk a b μ}=>(H.F k l).tau (i:=1)
 have s0:∀{k l c sp pk a b μ x},(S2 k l c sp 0 pk (a::b::μ)).set 11 x=S2 k l c sp 0 pk (x::b::μ):=fun {k l c sp pk a b μ x}=>(H.F k l).tset (i:=0)
 have s1:∀{k l c sp pk a b μ x},(S2 k l c sp 0 pk (a::b::μ)).set 12 x=S2 k l c sp 0 pk (a::x::μ):=fun {k l c sp pk a b μ x}=>(H.F k l).tset (i:=1)
 have le:∀{l:List V} {v:V},l.length≤100→(l++[v]).length≤aU:=fun h=>by refine rwS List.length_append ?_; exact Nat.le_trans (Nat.succ_le_succ h) (by decide)
 conv=>whnf
 refine aF _ H.left ?_
 conv=>whnf
 refine cA (aBg rfl at0) ?_
 conv=>whnf
 refine H.draw hk fun nd k1 l1 μ1 hk1 hN=>?_
 refine e23 (H.op hN hc) fun t kc hkc h2 ho=>?_
 conv=>whnf
 refine aF _ ((aIk at0 (le hn)).trans (congrArg some s0)) ?_
 conv=>whnf
 refine cA (aBg rfl at1) ?_
 conv=>whnf
 refine aF _ (aI (H.F _ _) rfl rfl) ?_
 conv=>whnf
 refine aF _ (aJv at0 (Nat.le_trans hn (by decide))) ?_
 conv=>whnf
 refine ho k1 l1 sp 0 pk _ (.dict []) _ (.inl rfl) h0 (by lia) (by decide) fun sp2 pk2 τ2 b2 _ t2=>?_
 refine e1 (aZy t2) fun μ2 e_1=>?_; subst e_1
 conv=>whnf
 refine aF _ ((aIk at1 (le ht)).trans (congrArg some s1)) ?_
 exact z nd t k1 l1 (c+kc) sp2 pk2 μ2 h2 hk1 (Nat.add_le_add_left hkc c) b2
end
section
variable{n k c:Nat}{L:List V}{nd t:V}{T:TabK}{K:V→St→Prop}{ct sp ht pk l:Int}{τ ρ:St}{kt:Out→Prop}{a0 a2 a3 a4 a7 a8 a9 a10 a11:Option V}{Ps:List (V × V)}
noncomputable def uD:List S:=[.asg (.name 8) (.call 83 [(.var 1)]),
   .ite (.cmp .ne (.comp (.gen (.one 10) (.val (.var 6)) [] (.elt (.call 88 [(.var 10),(.dict []),(.var 8)])))) (.comp (.gen (.one 11) (.val (.var 5)) [] (.elt (.call 86 [(.var 11),(.dict []),(.var 8)]))))) [.raise] []]
noncomputable def TwT(T:TabK)(p:V × V):Prop:=∀w:Wo,∃i:Int,NrT T p.1 [] w.v (.int i)∧TdT T p.2 [] w.v (.int i)
theorem Two.tk{p:V × V}(h:Two p)(hn:53≤n):TwT ⟨aE prog n⟩ p:=fun w=>(h w).imp fun i x=>⟨x.1 n (Nat.le_trans (by decide) hn),x.2.tk hn⟩
theorem aPj{σ:St}{j:Nat}{l:List V}(h:σ[j]?=some (.list l)):cH σ (.loc j)=some l:=by show rP σ[j]?=_; refine rwS h ?_; rfl
theorem aAx(hw:WoT T L)(h2:∀p∈Ps,TwT T p)(hP:Ps.length≤100)(hk:k≤900)(e1:ρ[10]?=some (.list (Ps.map (·.1))))(e2:ρ[11]?=some (.list (Ps.map (·.2))))(z:∀a8 ρ',ρ <+: ρ'→kt (.next (lw a0 (some (.loc 0)) a2 a3 a4 (some (.loc 11)) (some (.loc 12)) a7 a8 a9 a10 a11) (aT L (k+3) l::ρ'))) :
  kSs prog T uD (lw a0 (some (.loc 0)) a2 a3 a4 (some (.loc 11)) (some (.loc 12)) a7 a8 a9 a10 a11) (aT L k l::ρ) kt:=by
 conv=>whnf
 refine hw k l ρ _ (by lia) fun a b F ha hb hF=>?_
 obtain⟨f,hf⟩:=sk (Q:=fun p=>p∈Ps) (0:Int) fun p mp=>h2 p mp ⟨a,b,F,ha,hb,hF⟩
 have eS:∀{o:SObj},(o::ρ)[12]?=some (.list (Ps.map (·.2))):=fun {o}=>e2
 have eN:∀{o:SObj},(o::ρ)[11]?=some (.list (Ps.map (·.1))):=fun {o}=>e1
 have hc:Ps.length≤aU:=Nat.le_trans hP (by decide)
 conv=>whnf
 refine aF _ (aPj eS) ?_
 refine cP (α:=V × V) (fun p=>p.2) (fun p=>V.int (f p)) hc (aBv eS) (fun p mp=>⟨_,rfl,fun ds kk b zz=>?_⟩) ?_
 ·conv=>whnf
  refine(hf p mp).2 _ _ ?_
  exact cA (le1 b) zz
 conv=>whnf
 refine aF _ (aPj eN) ?_
 refine aBf (α:=V × V) (fun p=>p.1) (fun p=>V.int (f p)) (aT L (k+3) l::ρ <+: ·) hc (List.prefix_refl _) (fun σ p=>aBv (fY p eN)) (fun p mp=>⟨_,rfl,fun σ ds kk p2 b zz=>?_⟩) fun σ' p=>?_
 ·conv=>whnf
  refine(hf p mp).1 _ (.dict []) _ rfl fun σ2 p3=>?_
  exact cA (le1 b) (zz _ (p2.trans p3))
 ·obtain⟨u,rfl⟩:=p
  have ie:∀y∈Ps.map fun p=>V.int (f p),cF 23 y=true:=fun y m=>(List.mem_map.mp m).elim fun a q=>q.2▸rfl
  conv=>whnf
  refine aF _ (aIu ie ie) ?_
  conv=>whnf
  refine kJ (b:=!V.beq (.list (Ps.map fun p=>V.int (f p))) (.list (Ps.map fun p=>V.int (f p)))) (by rw[iC]; rfl) ?_
  exact z _ _ (List.prefix_append ..)
end
noncomputable def lwD(i:Nat):List S:=sP.body.drop i
section
variable{n k c:Nat}{L:List V}{nd t:V}{T:TabK}{K:V→St→Prop}{ct sp ht pk l:Int}{τ ρ:St}{kt:Out→Prop}{a0 a2 a3 a4 a7 a8 a9 a10 a11:Option V}{Ps:List (V × V)}
theorem aZe{is:List Int}(h:is.length≤63):xS (.list (is.map V.int)) .none (.int 63)=some (.list (is.map V.int)):=by
 show (if (is.map V.int).length≤aU then some (V.list (cut (is.map V.int) none (some 63))) else none)=_
 rw[List.length_map,if_pos (Nat.le_trans h (by decide))]
 show some (V.list (((is.map V.int).take (iQ (is.map V.int).length 63)).drop 0))=_
 rw[List.drop_zero,List.length_map]
 have e:iQ is.length 63=is.length:=by
  show (max 0 (min (if (63:Int)<0 then (63:Int)+is.length else 63) is.length)).toNat=is.length
  refine rwS (if_neg (by decide)) (rwS (Int.min_eq_right (show (is.length:Int)≤63 from Int.ofNat_le.mpr h)) (rwS (Int.max_eq_right (Int.natCast_nonneg _)) ?_)); rfl
 exact rwS e (rwS (List.take_of_length_le (by rw[List.length_map]; exact Nat.le_refl _)) rfl)
noncomputable def aZf:S:=.asg (.name 1) (.mut (.dict [(.cst (.str 1934282252167833826015314036)),(.comp (.gen (.one 9) (.val (.sl (.var 0) (.cst .none) (.cst (.int 63)))) [] (.elt (.bi .abs [(.var 9)])))),(.cst (.str 1069911653254644629621)),(.cst (.int 0)),(.cst (.str 1005348000618130702453)),(.cst (.int 0))]))
theorem aZh{is:List Int}(hx:is.length≤63)(z:∀L,okL L→kSs prog T (lwD 1) (lw (some (.list (is.map V.int))) (some (.loc 0)) none none none none none none none none none none) [aT L 0 0] kt) :
  kSs prog T sP.body (bH sP [.list (is.map V.int)]) [] kt:=by
 have z:=z (is.map fun i=>V.int (if i<0 then -i else i)) ⟨by rw[List.length_map]; exact hx,fun x q=>(List.mem_map.mp q).elim fun i q=>⟨_,q.2.symm⟩⟩
 refine rwS (show sP.body=aZf::lwD 1 from rfl) ?_
 generalize lwD 1=X at z ⊢
 conv=>whnf
 refine aF _ (aZe hx) ?_
 refine cP (α:=Int) V.int (fun i=>V.int (if i<0 then -i else i)) (Nat.le_trans hx (by decide)) rfl (fun i _=>⟨_,rfl,fun ds kk b zz=>?_⟩) ?_
 ·exact cA (le1 b) zz
 ·exact z
noncomputable def aXo:S:=.asg (.name 2) (.tup [(.cst (.int 0)),(.cst (.bool false)),(.tup [(.cst (.str 103))]),(.cst (.str 510173609197685)),(.tup [(.cst (.str 1023794727099668889702)),(.cst (.int 0)),(.cst (.str 66))])])
noncomputable def aGv:S:=.asg (.name 3) (.list [(.tup [(.cst (.str 510173617586280)),(.cst (.int 0)),(.tup [(.cst (.str 66))]),(.cst (.bool false)),(.cst (.str 0)),(.cst (.str 0)),(.tup []),(.tup [(.var 2)]),(.tup [])]),(.tup [(.cst (.str 510173617586280)),(.cst (.int 0)),(.tup [(.cst (.str 67))]),(.cst (.bool false)),(.cst (.str 0)),(.cst (.str 66)),(.tup []),(.tup []),(.tup [])])])
noncomputable def aYz:S:=.asgTs true [4,5,6] [aLs,(.mut (.list [])),(.mut (.list []))]
theorem aTb(T:TabK)(X:List S)(a0 a1:Option V)(σ:St)(kt:Out→Prop):kSs prog T (aXo::aGv::aYz::X) (lw a0 a1 none none none none none none none none none none) σ kt=kE prog T aLs (lw a0 a1 (some own) (some (.list pI)) none none none none none none none none) σ (fun v σ=>kSs prog T X (lw a0 a1 (some own) (some (.list pI)) (some v) (some (.loc σ.length)) (some (.loc (σ++[SObj.list []]).length)) none none none none none) ((σ++[.list []])++[.list []]) kt):=by kernel_rfl!
theorem aVs{body rest:List S}{i:Nat}{r:aP}{σ:St}(h:dP (fun _=>true) (fun v r=>dQ r (.one i) v) (fun r σ k=>kSs prog T body r σ k) [.int 0,.int 1] r σ fun o=>match o with
   | .next r σ=>kSs prog T rest r σ kt
   | .ret v σ=>kt (.ret v σ)):kSs prog T (.for_ (.one i) (.range (.cst (.int 2))) body::rest) r σ kt:=h
theorem aWr{S2:Nat→Int→Stf}(H:LF T S2)(he:∀{k l ct sp ht pk τ},S2 k l ct sp ht pk τ=aT L k l::opR ct sp ht pk τ)(hw:WoT T L)(h2:∀p,Two p→TwT T p)(hK:∀σ,K (.bool true) σ):kSs prog T (lwD 4) (lw a0 (some (.loc 0)) a2 a3 (some (.loc 9)) (some (.loc 11)) (some (.loc 12)) a7 a8 a9 a10 a11) (S2 0 0 0 0 0 0 [.list [],.list []]) (cG K):=by
 have at0:∀{c sp pk a b μ},(opR c sp 0 pk (a::b::μ))[10]?=some a:=rfl
 have at1:∀{c sp pk a b μ},(opR c sp 0 pk (a::b::μ))[11]?=some b:=rfl
 refine rwS (show lwD 4=[.for_ (.one 7) (.range (.cst (.int 2))) aFi,.for_ (.one 7) (.range (.cst (.int 2))) uD,.ret (.cst (.bool true))] from rfl) ?_
 have fin:∀(Ps:List (V × V)) (k:Nat) (l:Int) (ρ:St) (a7 a8:Option V),(∀p∈Ps,Two p)→Ps.length≤100→k≤500→ρ[10]?=some (.list (Ps.map (·.1)))→ρ[11]?=some (.list (Ps.map (·.2)))→kSs prog T [.for_ (.one 7) (.range (.cst (.int 2))) uD,.ret (.cst (.bool true))] (lw a0 (some (.loc 0)) a2 a3 (some (.loc 9)) (some (.loc 11)) (some (.loc 12)) a7 a8 a9 a10 a11) (aT L k l::ρ) (cG K):=by
  intro Ps k l ρ a7 a8 hT hP hk e1 e2
  refine aVs (gS (v:=.int 0) (l:=[.int 1]) rfl rfl ?_)
  refine aAx hw (fun p mp=>h2 p (hT p mp)) hP (by lia) e1 e2 fun a8 ρ1 p1=>?_
  refine gS (v:=.int 1) (l:=[]) rfl rfl ?_
  refine aAx hw (fun p mp=>h2 p (hT p mp)) hP (by lia) (fY p1 e1) (fY p1 e2) fun a8 ρ2 p2=>?_
  refine lN rfl ?_
  exact hK _
 generalize ([.for_ (.one 7) (.range (.cst (.int 2))) uD,.ret (.cst (.bool true))]:List S)=X at fin ⊢
 refine aVs (gS (v:=.int 0) (l:=[.int 1]) rfl rfl ?_)
 refine aAr (k:=0) (c:=0) H (by decide) (by decide) (by decide) (by decide) (by decide) (by decide) fun nd t k1 l1 c1 sp1 pk1 μ1 w1 hk1 hc1 hs1=>?_
 refine gS (v:=.int 1) (l:=[]) rfl rfl ?_
 refine aAr (c:=c1) H (by lia) (by lia) (by lia) (by lia) (show 1≤100 by decide) (show 1≤100 by decide) fun nd' t' k2 l2 c2 sp2 pk2 μ2 w2 hk2 hc2 hs2=>?_
 refine lN rfl ?_
 refine rwS he ?_
 exact fin [(nd,t),(nd',t')] k2 l2 _ _ _ (fun p mp=>by
  rcases List.mem_cons.mp mp with rfl | mp
  ·exact w1
  ·refine rwS (List.mem_singleton.mp mp) ?_; exact w2) (show 2≤100 by decide) (by lia) at0 at1
theorem aRx{is:List Int}(hn:56≤n)(hx:is.length≤63)(hK:∀σ,K (.bool true) σ):aE prog n 89 [.list (is.map V.int)] [] K:=by
 have p:55≤n - 1:=dn1 hn
 refine aN (d:=sP) (up1 hn) rfl rfl (aZh hx fun L hL=>?_)
 have H:=aYk (n:=n - 1) hL (Nat.le_of_succ_le p)
 have hw:=aXm (n:=n - 1) hL (Nat.le_trans (by decide) p)
 have h2:∀q,Two q→TwT ⟨aE prog (n - 1)⟩ q:=fun q h=>h.tk (Nat.le_trans (by decide) p)
 have hN:∀(a0 a1 a2:Option V) (r:aP) (K:V→St→Prop),K (.loc 9) (stt (aT L 0 0) 0 0 0 0 [])→kE prog ⟨aE prog (n - 1)⟩ aLs (a0::a1::a2::some (.list pI)::r) [aT L 0 0] K:=fun a0 a1 a2 r K hk=>by
  obtain⟨m,e⟩:∃m,n - 1=m+8:=⟨n - 1 - 8,by lia⟩
  rw[e,aJy]
  exact hk
 have he:∀{k l ct sp ht pk τ},stt (aT L k l) ct sp ht pk τ=aT L k l::opR ct sp ht pk τ:=qI
 generalize TabK.mk (aE prog (n - 1))=T at H hN hw h2 ⊢
 rw[show lwD 1=aXo::aGv::aYz::lwD 4 from rfl,aTb]
 refine hN _ _ _ _ _ ?_
 refine rwS ((sO _).push) (rwS ((sO _).push) (rwS ((sO _).len) (rwS ((sO _).len) ?_)))
 exact aWr (S2:=fun k l=>stt (aT L k l)) H he hw h2 hK
theorem hC(script:List Int)(h:script.length≤63):∃N,N≤90∧∀K:V→St→Prop,(∀σ,K (.bool true) σ)→aE P2.prog N 89 [.list (script.map V.int)] [] K :=
 ⟨56,by decide,fun K hK=>aRx (by decide) h hK⟩
end
end P2
end Mine.Internal
namespace Mine.Internal
open PySem PySem.W PyProof.Rows
namespace P2
noncomputable def gt:Gt:={ fns:=fnN,clss:=bAi,consts:=yQ,flds:=flds,mths:=mths }
noncomputable abbrev K(H:Params→Frag)(p:Params)(ob:Obj):Frag:=(builtinsNs,ob)::H p
theorem aOj:(aMd.all fun q=>decide (q.1<3)&&q.2.all fun r=>r.1 != 0 || (q.1==1&&r.2==3))=true:=by decide +kernel
theorem biNe:(lR.all fun q=>!(q.1==("__name__":Str)))=true:=by decide +kernel
theorem boot:(lR.all fun q=>bootBuiltins q.1==some q.2)=true:=by kernel_rfl!
theorem aXe:((PySem.Challenge.rw_nz0397_02.row.prog.main.file:Str) == "/claim/cut.py")=true:=by decide +kernel
theorem bBs:(PySem.Challenge.rw_nz0397_02.row.prog.main.scope.names.lookup ("super":Str)).isSome=false:=by decide +kernel
noncomputable def aJb:List (Str × Tok × PV):=[("+",368,.str "union" 369),("&",370,.str "meet" 371),("-",372,.str "minus" 373),(".",374,.str "join" 375),("++",376,.str "override" 377),("<:",378,.str "ahead" 379),(":>",380,.str "behind" 381)]
noncomputable def aFq:List (Str × Tok × PV):=[("plus",315,.str "plus" 316),("minus",317,.str "less" 318),("mul",319,.str "times" 320)]
noncomputable def aOy:List (Nat × V):=aFq.map fun t=>(aL t.1,match t.2.2 with | .str x _=>.str (aL x) | _=>.none)
noncomputable def aPl:List (Nat × V):=aJb.map fun t=>(aL t.1,match t.2.2 with | .str x _=>.str (aL x) | _=>.none)
theorem bCd:prog.glob 7=some (.dict (aPl.map fun q=>(.str q.1,q.2))):=by kernel_rfl!
theorem bBl:(yQ.all fun q=>q.2 != 7 || q.1==("SET_SIGNS":Str))=true:=by decide +kernel
theorem bBq:prog.glob 3=some (.dict (aOy.map fun q=>(.str q.1,q.2))):=by kernel_rfl!
theorem bAy:(yQ.all fun q=>q.2 != 3 || q.1==("NUMBER_CALLS":Str))=true:=by decide +kernel
structure Top(H:Params→Frag):Prop where
 chk:∀(p:Params) (ob:Obj),(fnL.all fun q=>q.1==15 || aPo prog gt (K H p ob) (nms q.1) (fa q.1) q.2)=true
 fact:∀(p:Params) (ob:Obj),aPp (K H p ob) prog gt fa ca 3 (fnL.map (·.1))=true
 sup:∀(p:Params) (ob:Obj),aYv (K H p ob) prog gt fa ca 15 3 1 cC (nms 15) [.var 1,.var 2,.var 3,.var 4] cC.body.tail "/claim/cut.py"=true
 noGlob:∀(p:Params) (ob:Obj),(lR.all fun q=>nsIn (K H p ob) mainGlobals q.1==some none)=true
 co:∀(p:Params) (ob:Obj),(yQ.all fun q=>match prog.glob q.2 with
 | none=>true
 | some d=>q.2==7 || (q.2==3 || oB (nsIn (K H p ob) mainGlobals q.1) fun v=>oB v fun v=>rvB (K H p ob) d v))=true
 co7:∀(p:Params) (ob:Obj),(K H p ob).lookup 108=some ⟨.type "dict",none,.dict (aNd p aJb).toArray 7,#[]⟩
 co7n:∀(p:Params) (ob:Obj),nsIn (K H p ob) mainGlobals "SET_SIGNS"=some (some (.ref 108))
 co7r:∀(p:Params) (ob:Obj),aMu (K H p ob) aPl aJb=true
 co3:∀(p:Params) (ob:Obj),(K H p ob).lookup 104=some ⟨.type "dict",none,.dict (aNd p aFq).toArray 3,#[]⟩
 co3n:∀(p:Params) (ob:Obj),nsIn (K H p ob) mainGlobals "NUMBER_CALLS"=some (some (.ref 104))
 co3r:∀(p:Params) (ob:Obj),aMu (K H p ob) aOy aFq=true
 fn:∀(p:Params) (ob:Obj),((K H p ob).lookup 470).isSome=true
 law:∀(p:Params) (ob:Obj),nsIn (K H p ob) mainGlobals "law"=some (some (.ref 732))
theorem Facts{H:Params→Frag}(tp:Top H){B:Bd}{ob:Obj}(hP:B.P=prog)(hK:B.D.K=K H B.D.w.params ob)(hfa:B.D.fa=fa)(hca:B.D.ca=ca)(hnc:B.D.nc=3)(X:B.D.K.In B.D.base)(lim:B.D.base.NoLimit):Mine.Internal.Facts B gt:=by
 obtain⟨D,P,T,n⟩:=B
 cases (hP:P=prog)
 refine aEe (live:=fnL.map (·.1)) X lim (fun i h=>?_) (fun i k f h=>?_) (by refine rwS hK (rwS hfa (rwS hca (rwS hnc ?_))); exact tp.fact _ ob) fun x k h d hd=>?_
 ·refine e1 (Option.isSome_iff_exists.mp h) fun d e=>?_
  exact List.mem_map.mpr ⟨_,aC (l:=fnL) e,rfl⟩
 ·refine e12 (Option.bind_eq_some_iff.mp (show (aMd.lookup i).bind _=some f from h)) fun l e _=>?_
  refine rwS hnc ?_; exact of_decide_eq_true (aB (List.all_eq_true.mp aOj _ (aC e)))
 ·have w:=List.all_eq_true.mp (tp.co D.w.params ob) _ (aC (l:=yQ) h)
  have hd:prog.glob k=some d:=hd
  simp only[hd]at w
  rcases Bool.or_eq_true_iff.mp w with e | e
  ·have e:k=7:=aG e
   refine nnG fun nG=>?_; subst e
   have hx:x="SET_SIGNS":=(Bool.or_eq_true_iff.mp (List.all_eq_true.mp bBl _ (aC (l:=yQ) h))).elim (fun n=>absurd rfl (bne_iff_ne.mp n)) aG
   cases bCd.symm.trans hd
   refine nG ?_; refine rwS hx (rwS hK ?_)
   exact⟨_,tp.co7n _ ob,fun N m=>aAd X m (by refine rwS hK ?_; exact tp.co7 _ ob) (by decide) (by decide +kernel) (by refine rwS hK ?_; exact tp.co7r _ ob)⟩
  rcases Bool.or_eq_true_iff.mp e with e | e
  ·have e:k=3:=aG e
   subst e
   have hx:x="NUMBER_CALLS":=(Bool.or_eq_true_iff.mp (List.all_eq_true.mp bAy _ (aC (l:=yQ) h))).elim (fun n=>absurd rfl (bne_iff_ne.mp n)) aG
   cases bBq.symm.trans hd
   refine rwS hx (rwS hK ?_)
   exact⟨_,tp.co3n _ ob,fun N m=>aAd X m (by refine rwS hK ?_; exact tp.co3 _ ob) (by decide) (by decide +kernel) (by refine rwS hK ?_; exact tp.co3r _ ob)⟩
  ·rw[← hK]at e
   cases hv:nsIn D.K mainGlobals x with
   | none=>rw[hv]at e; cases e
   | some v=>cases v with
    | none=>rw[hv]at e; cases e
    | some v=>rw[hv]at e; exact⟨v,rfl,fun N m=>yS X m d v e⟩
theorem go{H:Params→Frag}(tp:Top H){B:Bd}{ob:Obj}(hP:B.P=prog)(hK:B.D.K=K H B.D.w.params ob)(hfa:B.D.fa=fa)(hca:B.D.ca=ca)(hpr:B.D.prog=PySem.Challenge.rw_nz0397_02.row.prog)(hbt:nsIn B.D.K builtinsNs "super"=some (some (.type "super")))(h:Hs B 40 gt)(f:Nat)(d:FDef)(hd:B.P.fn f=some d):aCr B f d:=by
 rw[hP]at hd
 have hd:fnL.lookup f=some d:=hd
 cases e:f==15 with
 | true =>
  have e:f=15:=aG e
  subst e
  have hd:some cC=some d:=hd
  cases hd
  refine aRe (f2:=3) (c1:=1) (xs:=[.var 1,.var 2,.var 3,.var 4]) (ss:=cC.body.tail) (names:=nms 15) (file:="/claim/cut.py") h rfl (fun i f' hm=>?_) hbt (by refine rwS hpr ?_; exact aXe) (by refine rwS hpr ?_; exact bBs) (by refine rwS hP (rwS hK (rwS hfa (rwS hca ?_))); exact tp.sup _ ob)
  rw[hP]at hm
  refine e12 (Option.bind_eq_some_iff.mp (show (aMd.lookup i).bind (fun l=>l.lookup 0)=some f' from hm)) fun l e1 e2=>?_
  rcases Bool.or_eq_true_iff.mp (List.all_eq_true.mp (aA (List.all_eq_true.mp aOj _ (aC e1))) _ (aC e2)) with n | n
  ·exact absurd rfl (bne_iff_ne.mp n)
  ·exact⟨aG (aB n),aG (aA n)⟩
 | false =>
  refine aYd h (by decide) (names:=nms f) ?_
  rcases Bool.or_eq_true_iff.mp (List.all_eq_true.mp (tp.chk B.D.w.params ob) _ (aC hd)) with n | n
  ·rw[show (f==15)=true from n]at e; cases e
  ·refine rwS hP (rwS hK (rwS hfa ?_)); exact n
end P2
end Mine.Internal
set_option tactic.hygienic true
set_option hygiene true
namespace Mine.Internal.law2
abbrev P:=True
theorem q:P:=⟨⟩
theorem tw10010129415637133159:P:=q
theorem tw10038215175152967042:P:=q
theorem tw1007760933741984993:P:=q
theorem tw10081703482673967069:P:=q
theorem tw10082537537936394242:P:=q
theorem tw10106305123278033123:P:=q
theorem tw10107310596934329094:P:=q
theorem tw10129291886723805746:P:=q
theorem tw10137398991245703295:P:=q
theorem tw10150263836185763542:P:=q
theorem tw10153666670636357833:P:=q
theorem tw10162154746402544960:P:=q
theorem tw10184322108482187545:P:=q
theorem tw10201294665934475856:P:=q
theorem tw10202363185815628424:P:=q
theorem tw10205044434053853294:P:=q
theorem tw10260217286314890753:P:=q
theorem tw10267229978433331880:P:=q
theorem tw10311472138512380167:P:=q
theorem tw1031634981112351374:P:=q
theorem tw10319721855492424922:P:=q
theorem tw10327749383978757759:P:=q
theorem tw10331144568719968264:P:=q
theorem tw10336788539962917906:P:=q
theorem tw10340222593912834324:P:=q
theorem tw10354932019304072353:P:=q
theorem tw10463430795433709131:P:=q
theorem tw10469241211071172729:P:=q
theorem tw10508006248829296147:P:=q
theorem tw10517775458687612652:P:=q
theorem tw10523862299002687527:P:=q
theorem tw10534096241115310800:P:=q
theorem tw10571895427174820540:P:=q
theorem tw10581725699491358285:P:=q
theorem tw10603045104589617574:P:=q
theorem tw10617865963335133734:P:=q
theorem tw10638541252434146098:P:=q
theorem tw10639627475091938050:P:=q
theorem tw10643971282610148286:P:=q
theorem tw10659907943594945279:P:=q
theorem tw10669229525687203857:P:=q
theorem tw10675730687458083270:P:=q
theorem tw10719979352719366663:P:=q
theorem tw10729779433033255453:P:=q
theorem tw10738837124690405269:P:=q
theorem tw10749069618980094043:P:=q
theorem tw10754494525260048501:P:=q
theorem tw10769477925992724897:P:=q
theorem tw10836980590891944884:P:=q
theorem tw10887654337714531060:P:=q
theorem tw10922262006137546733:P:=q
theorem tw10970750068894555302:P:=q
theorem tw10987986578456225102:P:=q
theorem tw110110697321319807:P:=q
theorem tw11019887738612689699:P:=q
theorem tw11064540856184649055:P:=q
theorem tw11108862922397129113:P:=q
theorem tw11110199191984659592:P:=q
theorem tw11139538183342631108:P:=q
theorem tw11189961391279837206:P:=q
theorem tw11201406869359125087:P:=q
theorem tw11219102612453731914:P:=q
theorem tw11241775615416693:P:=q
theorem tw11247532349918672047:P:=q
theorem tw11250223688494688432:P:=q
theorem tw11255065130751765366:P:=q
theorem tw11255388595778737956:P:=q
theorem tw11278649039330843342:P:=q
theorem tw11283094737052130104:P:=q
theorem tw11289758226645325075:P:=q
theorem tw11300595139908722279:P:=q
theorem tw11350952829295073275:P:=q
theorem tw11356503424964775641:P:=q
theorem tw11363228401483678:P:=q
theorem tw11371556367783224156:P:=q
theorem tw11380085420469094180:P:=q
theorem tw11385525890682562731:P:=q
theorem tw11386056157090141061:P:=q
theorem tw1140140342243810346:P:=q
theorem tw11405739465583489136:P:=q
theorem tw11410065089952718744:P:=q
theorem tw11436021220130649210:P:=q
theorem tw11442047975601487544:P:=q
theorem tw11448264007376305012:P:=q
theorem tw11485979739158222170:P:=q
theorem tw11489112099820846404:P:=q
theorem tw11490757328414485086:P:=q
theorem tw11498058220889485479:P:=q
theorem tw11522520765249153849:P:=q
theorem tw11523268339634828905:P:=q
theorem tw11531469200125982660:P:=q
theorem tw1154859516009050171:P:=q
theorem tw11588013501920641717:P:=q
theorem tw11597385987810098117:P:=q
theorem tw11597729109235390846:P:=q
theorem tw11608020849781528581:P:=q
theorem tw11611118072254241557:P:=q
theorem tw11611965616128770041:P:=q
theorem tw11634326191479160505:P:=q
theorem tw11649204113934415846:P:=q
theorem tw11650094470782965900:P:=q
theorem tw11663195541137348730:P:=q
theorem tw11664823503197699816:P:=q
theorem tw11672721845539419631:P:=q
theorem tw11673752942149456965:P:=q
theorem tw1168888187622976440:P:=q
theorem tw11694599503172592365:P:=q
theorem tw11714143587619558969:P:=q
theorem tw11717965483116558110:P:=q
theorem tw11738016414175678803:P:=q
theorem tw11750134576946790730:P:=q
theorem tw11750966917238922579:P:=q
theorem tw1175346546602321518:P:=q
theorem tw11810492726256749079:P:=q
theorem tw11819182064949905314:P:=q
theorem tw11826267750314076102:P:=q
theorem tw11869953878735089080:P:=q
theorem tw11873930659781667080:P:=q
theorem tw11883444031484386983:P:=q
theorem tw11893231176514124134:P:=q
theorem tw11904158847960573541:P:=q
theorem tw11905653483920379240:P:=q
theorem tw11909372081595393265:P:=q
theorem tw11917010262760885320:P:=q
theorem tw11929944275206981580:P:=q
theorem tw11946764008061960149:P:=q
theorem tw1197769898536032530:P:=q
theorem tw11997727010552695617:P:=q
theorem tw12000601714762624149:P:=q
theorem tw12002217399117614967:P:=q
theorem tw12028347703368908816:P:=q
theorem tw1209755514884677628:P:=q
theorem tw12103264326291814577:P:=q
theorem tw12177009653473711879:P:=q
theorem tw12188572903233573092:P:=q
theorem tw12198496015132639668:P:=q
theorem tw12219911914819138678:P:=q
theorem tw12233665491532547895:P:=q
theorem tw12257806082312379537:P:=q
theorem tw12260865276713587403:P:=q
theorem tw12278622792851265720:P:=q
theorem tw12322305796301778029:P:=q
theorem tw12333305206303168849:P:=q
theorem tw12345644357353382432:P:=q
theorem tw12347505610392877946:P:=q
theorem tw12413236917898640101:P:=q
theorem tw12421483450924879217:P:=q
theorem tw12440793641081981157:P:=q
theorem tw12449094986859866200:P:=q
theorem tw12463597527630217708:P:=q
theorem tw12464892720101737878:P:=q
theorem tw12465641629692668997:P:=q
theorem tw12522856124631561490:P:=q
theorem tw12573781498519701368:P:=q
theorem tw12604497552276211588:P:=q
theorem tw12619778408105321675:P:=q
theorem tw12651522710158115256:P:=q
theorem tw1265936006278329276:P:=q
theorem tw12665763115884056706:P:=q
theorem tw12696330563749092465:P:=q
theorem tw12780542489721364216:P:=q
theorem tw12781296432800855539:P:=q
theorem tw12783506199069595893:P:=q
theorem tw12791798180770141795:P:=q
theorem tw12794495255803246980:P:=q
theorem tw12804103908052404391:P:=q
theorem tw12871563629719378578:P:=q
theorem tw12873329800310001857:P:=q
theorem tw12891981066646538087:P:=q
theorem tw12915516290011642193:P:=q
theorem tw12935235663810168307:P:=q
theorem tw12954817592737237479:P:=q
theorem tw12957062268937975966:P:=q
theorem tw13011121818655611163:P:=q
theorem tw13039700846679495488:P:=q
theorem tw13044014456099841238:P:=q
theorem tw13074783892157236319:P:=q
theorem tw13114528207911876274:P:=q
theorem tw13116365444921413660:P:=q
theorem tw13137589667516579278:P:=q
theorem tw13156139351043472838:P:=q
theorem tw13175363642672172653:P:=q
theorem tw13179917395256711874:P:=q
theorem tw13181675149841097710:P:=q
theorem tw13210554335889825081:P:=q
theorem tw13211790511288839715:P:=q
theorem tw13245722819558966926:P:=q
theorem tw13254214530127069785:P:=q
theorem tw13254568490912069873:P:=q
theorem tw13270932816698396802:P:=q
theorem tw13306834948584361318:P:=q
theorem tw13320487929484265251:P:=q
theorem tw13322185034718025095:P:=q
theorem tw13328453227546422738:P:=q
theorem tw13373444263630958929:P:=q
theorem tw13385316109719217353:P:=q
theorem tw13409677211185146660:P:=q
theorem tw13440853257420550835:P:=q
theorem tw1345829245745449307:P:=q
theorem tw13466324352122383493:P:=q
theorem tw13473166368950056831:P:=q
theorem tw1348089938179880118:P:=q
theorem tw13490507870548447041:P:=q
theorem tw13516275720014143958:P:=q
theorem tw13529026942275834140:P:=q
theorem tw13556860331545180611:P:=q
theorem tw13562090565427676906:P:=q
theorem tw13565436044353218664:P:=q
theorem tw13587726180989683710:P:=q
theorem tw1359277212382934458:P:=q
theorem tw13596679364270490885:P:=q
theorem tw13628751588354212009:P:=q
theorem tw13629744459459204544:P:=q
theorem tw13641957952955383426:P:=q
theorem tw1365470626081958516:P:=q
theorem tw13684106976753319943:P:=q
theorem tw13705600782908229006:P:=q
theorem tw13706550587236077455:P:=q
theorem tw13734194610760587249:P:=q
theorem tw13741747695250014310:P:=q
theorem tw13767909386175278483:P:=q
theorem tw13821537694727866268:P:=q
theorem tw13821655356126719543:P:=q
theorem tw13843503138232053426:P:=q
theorem tw13853250030558317951:P:=q
theorem tw1390401557043266074:P:=q
theorem tw13923339926305699724:P:=q
theorem tw13940035295310136375:P:=q
theorem tw13967380285435708734:P:=q
theorem tw13983702591455852667:P:=q
theorem tw13997771060917132522:P:=q
theorem tw14006801974159627038:P:=q
theorem tw14041504430564106967:P:=q
theorem tw14044667321594110453:P:=q
theorem tw14055958209680110005:P:=q
theorem tw14084294928137360017:P:=q
theorem tw14099621442370996332:P:=q
theorem tw14103960504891168455:P:=q
theorem tw14124618679367685788:P:=q
theorem tw14130272191590695778:P:=q
theorem tw14153747251811713763:P:=q
theorem tw14165757616199392013:P:=q
theorem tw14202322545793063754:P:=q
theorem tw1421254677252394144:P:=q
theorem tw14218005902234551338:P:=q
theorem tw14221888607505730107:P:=q
theorem tw1422620640640008978:P:=q
theorem tw14272215288453129638:P:=q
theorem tw14277186039361663727:P:=q
theorem tw14317249334371619769:P:=q
theorem tw14358809209609482137:P:=q
theorem tw14375561153800957253:P:=q
theorem tw14375697765764972988:P:=q
theorem tw14405557876184723789:P:=q
theorem tw14405613078744558705:P:=q
theorem tw14406613804774163908:P:=q
theorem tw14415981490198259554:P:=q
theorem tw14450092381025398078:P:=q
theorem tw14478707821331856891:P:=q
theorem tw14505958169941411654:P:=q
theorem tw14548256118764765761:P:=q
theorem tw14552814864132072826:P:=q
theorem tw14556890358220487120:P:=q
theorem tw14576748146260006574:P:=q
theorem tw14616606673611691925:P:=q
theorem tw14618830429246656853:P:=q
theorem tw14654816471307225781:P:=q
theorem tw14702457186349750124:P:=q
theorem tw14709430442179537441:P:=q
theorem tw14723452902278001771:P:=q
theorem tw14767539318315290341:P:=q
theorem tw14809852225490951514:P:=q
theorem tw148528342264626107:P:=q
theorem tw14864979019182265778:P:=q
theorem tw1486557230833157909:P:=q
theorem tw14866266958561607877:P:=q
theorem tw14890495199244150412:P:=q
theorem tw14902494530040612795:P:=q
theorem tw1491936873364205072:P:=q
theorem tw14920087794422841468:P:=q
theorem tw14940350633560133833:P:=q
theorem tw14982578619249763977:P:=q
theorem tw14988432050689544450:P:=q
theorem tw15004752177076236210:P:=q
theorem tw15038702523722351250:P:=q
theorem tw15039520671819000474:P:=q
theorem tw15061146995402909783:P:=q
theorem tw15066238799228246078:P:=q
theorem tw15085823427233986308:P:=q
theorem tw1509685646075713975:P:=q
theorem tw15110857355801736109:P:=q
theorem tw15118189632139758892:P:=q
theorem tw15140009335193087970:P:=q
theorem tw15182479443154413556:P:=q
theorem tw15193061586674388279:P:=q
theorem tw15200113062840380890:P:=q
theorem tw15210707627015950779:P:=q
theorem tw15214981831555881153:P:=q
theorem tw15242836973828399726:P:=q
theorem tw15278280066800252388:P:=q
theorem tw15291650684367786235:P:=q
theorem tw15296274398591597865:P:=q
theorem tw15302567695888983759:P:=q
theorem tw15303348663246140617:P:=q
theorem tw15333791281514915833:P:=q
theorem tw15348045801528848926:P:=q
theorem tw15363516454134530141:P:=q
theorem tw15366251066150306644:P:=q
theorem tw15408623584482279053:P:=q
theorem tw15415470294490335866:P:=q
theorem tw15475492102001007451:P:=q
theorem tw15521749511039154542:P:=q
theorem tw15522680914609970427:P:=q
theorem tw15534927054330765250:P:=q
theorem tw15543858955531589846:P:=q
theorem tw15557489465660376085:P:=q
theorem tw15561919592134812331:P:=q
theorem tw155721071650975565:P:=q
theorem tw15572326872294599184:P:=q
theorem tw15595384871576384297:P:=q
theorem tw15607492574917102575:P:=q
theorem tw15615594445475954434:P:=q
theorem tw15646358675248225486:P:=q
theorem tw1566605535740207057:P:=q
theorem tw15673507894128877973:P:=q
theorem tw15674246234970463955:P:=q
theorem tw15714321490354521524:P:=q
theorem tw15714992176994839523:P:=q
theorem tw15722549870236989318:P:=q
theorem tw15736538780501872612:P:=q
theorem tw15788632764473402221:P:=q
theorem tw15831406195701518522:P:=q
theorem tw15834539023237227958:P:=q
theorem tw15838191760427589862:P:=q
theorem tw15910191658005193321:P:=q
theorem tw15915113237967526278:P:=q
theorem tw15932015697239205052:P:=q
theorem tw15995681671328455614:P:=q
theorem tw15996907418453140348:P:=q
theorem tw1601506053409355232:P:=q
theorem tw16035273130138097417:P:=q
theorem tw16055172024142024857:P:=q
theorem tw1610126894133134866:P:=q
theorem tw16129019861322156951:P:=q
theorem tw1613014794432851112:P:=q
theorem tw16141139419918732589:P:=q
theorem tw16142757404017704432:P:=q
theorem tw1614861742432892964:P:=q
theorem tw16174426122874549373:P:=q
theorem tw16196380286565711331:P:=q
theorem tw16217301565592491344:P:=q
theorem tw1623515361173720226:P:=q
theorem tw16247409169124062425:P:=q
theorem tw16276517056835685674:P:=q
theorem tw16284962886301988435:P:=q
theorem tw16289675081213983607:P:=q
theorem tw163083477194592479:P:=q
theorem tw16319051136505542364:P:=q
theorem tw1632113011634006095:P:=q
theorem tw16328013899326756395:P:=q
theorem tw16373089261847335525:P:=q
theorem tw16410759681328433993:P:=q
theorem tw16421744547374998140:P:=q
theorem tw16448216990483967153:P:=q
theorem tw1644969939980259702:P:=q
theorem tw16453462801688587973:P:=q
theorem tw1647530739929167965:P:=q
theorem tw16486835126412222913:P:=q
theorem tw16494977831956049048:P:=q
theorem tw16499740525266331438:P:=q
theorem tw16523271865497575902:P:=q
theorem tw1654281888851966751:P:=q
theorem tw16543362457849626541:P:=q
theorem tw16570134342694702248:P:=q
theorem tw16583755175350043868:P:=q
theorem tw16605553048842072811:P:=q
theorem tw1661958869475155924:P:=q
theorem tw16648694451907071675:P:=q
theorem tw16649462980569287048:P:=q
theorem tw16731604855232775653:P:=q
theorem tw16780345207464654975:P:=q
theorem tw16793171886286056490:P:=q
theorem tw16804633071473155837:P:=q
theorem tw16809518245084664828:P:=q
theorem tw16820261061786958526:P:=q
theorem tw16829359510483562566:P:=q
theorem tw16899891679413658753:P:=q
theorem tw16924776552243169968:P:=q
theorem tw16947140805187723120:P:=q
theorem tw16952962063817682788:P:=q
theorem tw16954852334145685008:P:=q
theorem tw16972522815840184565:P:=q
theorem tw16976041877810539355:P:=q
theorem tw17007946362563647020:P:=q
theorem tw17044284033880840839:P:=q
theorem tw17099757137312920998:P:=q
theorem tw17136771899672121314:P:=q
theorem tw17139507304878195357:P:=q
theorem tw1714240913349969481:P:=q
theorem tw17152612788331634080:P:=q
theorem tw17172071280286197455:P:=q
theorem tw17233041499575176023:P:=q
theorem tw17245757163862531878:P:=q
theorem tw17246158885117778835:P:=q
theorem tw17254858726794401202:P:=q
theorem tw17279655029765822090:P:=q
theorem tw17291284191069776448:P:=q
theorem tw17295087094473400632:P:=q
theorem tw17305817600999817935:P:=q
theorem tw17307629509337898553:P:=q
theorem tw17311406370369636171:P:=q
theorem tw17331139385846861238:P:=q
theorem tw17348666094310416700:P:=q
theorem tw17375391885569798195:P:=q
theorem tw1737645298701189720:P:=q
theorem tw17392581791361577699:P:=q
theorem tw17398494883750277582:P:=q
theorem tw17403128459098860439:P:=q
theorem tw17406959203049509191:P:=q
theorem tw17433348429595446843:P:=q
theorem tw17436962938735454530:P:=q
theorem tw17446727344508471953:P:=q
theorem tw17462792020534406:P:=q
theorem tw17526163606340347223:P:=q
theorem tw17531884671864669822:P:=q
theorem tw17533716114250949315:P:=q
theorem tw17562543180125918652:P:=q
theorem tw17610359781174254394:P:=q
theorem tw17636887880648335942:P:=q
theorem tw17650826678418339705:P:=q
theorem tw17677525603350567459:P:=q
theorem tw17688769554451651926:P:=q
theorem tw17706668203938974397:P:=q
theorem tw17714314277980578365:P:=q
theorem tw17717591770373413986:P:=q
theorem tw17729641743971720929:P:=q
theorem tw1773624752237944635:P:=q
theorem tw17742914908396033896:P:=q
theorem tw17749093452307603939:P:=q
theorem tw17751165495788406467:P:=q
theorem tw17783113222965697643:P:=q
theorem tw17798894784364486561:P:=q
theorem tw17834680752875534401:P:=q
theorem tw17854222660144625735:P:=q
theorem tw17860649180301978370:P:=q
theorem tw17873822120826071501:P:=q
theorem tw17901455829918473863:P:=q
theorem tw17923251025922969380:P:=q
theorem tw17980083492926093115:P:=q
theorem tw17988178988295022527:P:=q
theorem tw17990570037744027022:P:=q
theorem tw1801775072038361811:P:=q
theorem tw18020191634226370372:P:=q
theorem tw18022063500581388014:P:=q
theorem tw18038910577711022775:P:=q
theorem tw1806015880748622339:P:=q
theorem tw18067185992414874678:P:=q
theorem tw18069964401782513702:P:=q
theorem tw18078016935376079443:P:=q
theorem tw18091156531120198694:P:=q
theorem tw1813844858665106896:P:=q
theorem tw18139051726179953713:P:=q
theorem tw18151497225986968251:P:=q
theorem tw18168700370790856313:P:=q
theorem tw18179567289093077600:P:=q
theorem tw18180509726562404678:P:=q
theorem tw18191539326300466520:P:=q
theorem tw18193011913535102169:P:=q
theorem tw18205030192759719238:P:=q
theorem tw18234253258426718205:P:=q
theorem tw18234267090915776843:P:=q
theorem tw18237649996825220040:P:=q
theorem tw18239724984623538809:P:=q
theorem tw1824103098732867442:P:=q
theorem tw18279572655302032811:P:=q
theorem tw18332968703379765402:P:=q
theorem tw18382379096207486192:P:=q
theorem tw18384966144173699697:P:=q
theorem tw18390089692388863302:P:=q
theorem tw18395157477839794351:P:=q
theorem tw18427205411234487059:P:=q
theorem tw18436443731011834781:P:=q
theorem tw1848206019555773677:P:=q
theorem tw1850155979986327588:P:=q
theorem tw1850919634709299174:P:=q
theorem tw1870503140799511810:P:=q
theorem tw1895218188830162396:P:=q
theorem tw191424189173304131:P:=q
theorem tw1920856984425604255:P:=q
theorem tw1951712568272410387:P:=q
theorem tw1953474724159452530:P:=q
theorem tw1968491580757194397:P:=q
theorem tw1974709057672870265:P:=q
theorem tw1984329640965508333:P:=q
theorem tw1988858528793589114:P:=q
theorem tw1989000748208663579:P:=q
theorem tw2045986930082111731:P:=q
theorem tw2073887607200867572:P:=q
theorem tw2095520682086954608:P:=q
theorem tw2112677135783033766:P:=q
theorem tw2116464354340363496:P:=q
theorem tw2125793527264977229:P:=q
theorem tw2144083669692701527:P:=q
theorem tw2168137662814038452:P:=q
theorem tw2172667633270704917:P:=q
theorem tw217972291519605772:P:=q
theorem tw2209360616293555323:P:=q
theorem tw222213813777313051:P:=q
theorem tw2226606846146612742:P:=q
theorem tw2233540005368292798:P:=q
theorem tw2242473008017227433:P:=q
theorem tw2264569131381634635:P:=q
theorem tw2266470581839062084:P:=q
theorem tw229130502367889503:P:=q
theorem tw2298849862517601501:P:=q
theorem tw2310336523368948223:P:=q
theorem tw23547972364498955:P:=q
theorem tw2375638278109754140:P:=q
theorem tw2427305258078044870:P:=q
theorem tw2462355555345475111:P:=q
theorem tw2469227820173681343:P:=q
theorem tw2471863910680282527:P:=q
theorem tw2515599895543540507:P:=q
theorem tw2518430025902445190:P:=q
theorem tw2518579990578718033:P:=q
theorem tw2571165375970088042:P:=q
theorem tw2574764292521277410:P:=q
theorem tw2632229802057594733:P:=q
theorem tw2633807589982857112:P:=q
theorem tw2636106449340239874:P:=q
theorem tw2696772536919375843:P:=q
theorem tw2717790822087785206:P:=q
theorem tw2754823358304485073:P:=q
theorem tw2783251844718750550:P:=q
theorem tw2841210804887089970:P:=q
theorem tw2864646529339051873:P:=q
theorem tw2874853211662632317:P:=q
theorem tw2884692764578458737:P:=q
theorem tw2900997876540544237:P:=q
theorem tw290619613421719102:P:=q
theorem tw290876882612274958:P:=q
theorem tw2946420293484713778:P:=q
theorem tw2946764485937458657:P:=q
theorem tw2973219071553914915:P:=q
theorem tw3027798266413441792:P:=q
theorem tw3030757623439045377:P:=q
theorem tw3041904399031396828:P:=q
theorem tw3068684098184117141:P:=q
theorem tw3078678339684663652:P:=q
theorem tw307935590814937245:P:=q
theorem tw309148617546310563:P:=q
theorem tw3152358974919206810:P:=q
theorem tw3161836863110386721:P:=q
theorem tw320483574050167818:P:=q
theorem tw3206196330090099299:P:=q
theorem tw3210104730300558277:P:=q
theorem tw3212229811089690901:P:=q
theorem tw327923447603953670:P:=q
theorem tw3292703022991383369:P:=q
theorem tw3325926307581673680:P:=q
theorem tw3388970565060956122:P:=q
theorem tw3411754042885874584:P:=q
theorem tw3432890361638471156:P:=q
theorem tw3446920238440860063:P:=q
theorem tw3456260458425636988:P:=q
theorem tw3479483563001494227:P:=q
theorem tw351543701992968701:P:=q
theorem tw3536532169677350703:P:=q
theorem tw3539235033843372557:P:=q
theorem tw3547571518122072609:P:=q
theorem tw3549166030758216206:P:=q
theorem tw3549762362471122451:P:=q
theorem tw3554589329639708831:P:=q
theorem tw3559798307116103575:P:=q
theorem tw3604092442490202876:P:=q
theorem tw3610688693783158581:P:=q
theorem tw3651055216447983666:P:=q
theorem tw365949117232607208:P:=q
theorem tw3681510723185518862:P:=q
theorem tw3702051371459324586:P:=q
theorem tw3706983682186885718:P:=q
theorem tw3720577117473210471:P:=q
theorem tw3720788481144350250:P:=q
theorem tw3731761006514198080:P:=q
theorem tw3732591500497080058:P:=q
theorem tw3746283405110605983:P:=q
theorem tw376621670045401099:P:=q
theorem tw3793309723636491767:P:=q
theorem tw3799012523300180794:P:=q
theorem tw3809449145594616468:P:=q
theorem tw3815801972085011478:P:=q
theorem tw384854297446390133:P:=q
theorem tw3858314046566805972:P:=q
theorem tw3858937036862380523:P:=q
theorem tw3877201998567198231:P:=q
theorem tw389309354855699418:P:=q
theorem tw3893803742382790435:P:=q
theorem tw3898035496627512108:P:=q
theorem tw3901004288435117257:P:=q
theorem tw3901641273477799484:P:=q
theorem tw3923639810461458626:P:=q
theorem tw3947019360999021107:P:=q
theorem tw3982016862440353655:P:=q
theorem tw3988802073067678657:P:=q
theorem tw3990222544874988214:P:=q
theorem tw399484702752760116:P:=q
theorem tw3995932940762298125:P:=q
theorem tw4005650945752585288:P:=q
theorem tw401898023392841604:P:=q
theorem tw4030792191793247443:P:=q
theorem tw4032767167901053240:P:=q
theorem tw4049626607834857591:P:=q
theorem tw4073877769938905019:P:=q
theorem tw4075054814393349281:P:=q
theorem tw40753427584491200:P:=q
theorem tw4112994816733519363:P:=q
theorem tw4136951909420974678:P:=q
theorem tw4143760456637365253:P:=q
theorem tw4195804903123592937:P:=q
theorem tw4237879132785270163:P:=q
theorem tw4245736425391809293:P:=q
theorem tw4250160279514965649:P:=q
theorem tw4277186797116476214:P:=q
theorem tw4313366863446327736:P:=q
theorem tw4317294031308915591:P:=q
theorem tw4348373773168848033:P:=q
theorem tw4355120758765306848:P:=q
theorem tw4378816911961087278:P:=q
theorem tw438938875104045978:P:=q
theorem tw439287126127765654:P:=q
theorem tw4422642688882367969:P:=q
theorem tw4440836695275775104:P:=q
theorem tw4450300120968233998:P:=q
theorem tw44610302225701054:P:=q
theorem tw459416136373207860:P:=q
theorem tw4601685165644783838:P:=q
theorem tw4605942784953174268:P:=q
theorem tw4607821537827870395:P:=q
theorem tw4701487251527749338:P:=q
theorem tw47044087434202904:P:=q
theorem tw4711813613759449013:P:=q
theorem tw4720689599299116153:P:=q
theorem tw4732297615276007804:P:=q
theorem tw4759336577056104021:P:=q
theorem tw4760451575827984323:P:=q
theorem tw4788124284172731436:P:=q
theorem tw4788626083712959358:P:=q
theorem tw4798152752285434676:P:=q
theorem tw4814418916566149497:P:=q
theorem tw4818365284777777398:P:=q
theorem tw4820025145682519303:P:=q
theorem tw4852137668096209477:P:=q
theorem tw485654903498581754:P:=q
theorem tw4861362698029798904:P:=q
theorem tw4873310993685755029:P:=q
theorem tw4924126620401942407:P:=q
theorem tw4939419822802497473:P:=q
theorem tw4941031673759934129:P:=q
theorem tw5005579604335973283:P:=q
theorem tw5012816786188859661:P:=q
theorem tw5014678619821207016:P:=q
theorem tw5025174626633147547:P:=q
theorem tw5037899848692544859:P:=q
theorem tw5070425865789333129:P:=q
theorem tw5082393650940614459:P:=q
theorem tw5088946724065720895:P:=q
theorem tw5096637354722227578:P:=q
theorem tw5099449399053336068:P:=q
theorem tw5132247446650618792:P:=q
theorem tw51566641152841858:P:=q
theorem tw5157741539895353089:P:=q
theorem tw5160110005766373894:P:=q
theorem tw5180798628052054723:P:=q
theorem tw518848228965880536:P:=q
theorem tw5208509575984381075:P:=q
theorem tw522603734176376896:P:=q
theorem tw5233561915292390454:P:=q
theorem tw5272366731836634358:P:=q
theorem tw5274774213345745221:P:=q
theorem tw5275037217722065764:P:=q
theorem tw5277609369452525016:P:=q
theorem tw5349491596888451930:P:=q
theorem tw5396385755644539574:P:=q
theorem tw5426974180532635457:P:=q
theorem tw5441727196251974926:P:=q
theorem tw5454093986636288154:P:=q
theorem tw5468453783258580383:P:=q
theorem tw5481325534108695589:P:=q
theorem tw5499360433392675055:P:=q
theorem tw5535426376700163919:P:=q
theorem tw5595704644719380546:P:=q
theorem tw5616900970309922207:P:=q
theorem tw5629707164185624363:P:=q
theorem tw5653484063976689628:P:=q
theorem tw5665278302240787004:P:=q
theorem tw572871313194910825:P:=q
theorem tw5729062892668852715:P:=q
theorem tw5808722569982139794:P:=q
theorem tw5809660997971482020:P:=q
theorem tw5815078472431078187:P:=q
theorem tw5819375420691633141:P:=q
theorem tw5831349402101089325:P:=q
theorem tw5878747524890092192:P:=q
theorem tw5899135897701747734:P:=q
theorem tw5935131785023083068:P:=q
theorem tw5958903948518279883:P:=q
theorem tw5960220678852437508:P:=q
theorem tw5974523663830427063:P:=q
theorem tw5986992609675791999:P:=q
theorem tw5993957167011438054:P:=q
theorem tw6023228968020767663:P:=q
theorem tw603916422754823197:P:=q
theorem tw6040342275227685978:P:=q
theorem tw6046486116331747318:P:=q
theorem tw604878120965613472:P:=q
theorem tw6060669112380332514:P:=q
theorem tw6073051154079222908:P:=q
theorem tw6095026953842328:P:=q
theorem tw6096992533784415039:P:=q
theorem tw6120506318549495728:P:=q
theorem tw6145863314904058544:P:=q
theorem tw6146155590162794015:P:=q
theorem tw6170036730397825019:P:=q
theorem tw6173459400449130302:P:=q
theorem tw6224181360252635901:P:=q
theorem tw6273660431756854382:P:=q
theorem tw6276723438735455370:P:=q
theorem tw6280334875049125459:P:=q
theorem tw6285022106272071315:P:=q
theorem tw6292025486182401660:P:=q
theorem tw6324004176426712690:P:=q
theorem tw6332299081278154023:P:=q
theorem tw6341142940734303524:P:=q
theorem tw6350130622490760742:P:=q
theorem tw6361512863368740185:P:=q
theorem tw6362336682323078136:P:=q
theorem tw6367426135661648727:P:=q
theorem tw6367775379341307364:P:=q
theorem tw6380543234884787531:P:=q
theorem tw6394481063558370109:P:=q
theorem tw6397242870764401758:P:=q
theorem tw6399536500083883599:P:=q
theorem tw6405226135285997332:P:=q
theorem tw6416015311009366921:P:=q
theorem tw6434599761744509567:P:=q
theorem tw6462610160210057497:P:=q
theorem tw6467443356616136215:P:=q
theorem tw6484053413744411624:P:=q
theorem tw6495465580324262523:P:=q
theorem tw6512668378225807359:P:=q
theorem tw6554891576778039017:P:=q
theorem tw6575535691643565784:P:=q
theorem tw6584803645617820819:P:=q
theorem tw659374763581119798:P:=q
theorem tw6601718768894542167:P:=q
theorem tw6611052345069363586:P:=q
theorem tw6652272011066097149:P:=q
theorem tw6682008042619688412:P:=q
theorem tw6747116942990928639:P:=q
theorem tw6790570168656159065:P:=q
theorem tw6801358800403830211:P:=q
theorem tw6803184319786934457:P:=q
theorem tw6805958787088910847:P:=q
theorem tw6811259172377449018:P:=q
theorem tw6822963918088029922:P:=q
theorem tw6851223341723130960:P:=q
theorem tw6853861692029766985:P:=q
theorem tw687528927847173472:P:=q
theorem tw6893721674137626910:P:=q
theorem tw690268439251818846:P:=q
theorem tw6918195131327328950:P:=q
theorem tw691824090285358603:P:=q
theorem tw6919859504480113726:P:=q
theorem tw7003060219249972453:P:=q
theorem tw7028855267994993676:P:=q
theorem tw7029459825771882388:P:=q
theorem tw7029807480451036149:P:=q
theorem tw7035546523071587987:P:=q
theorem tw7035744016528495896:P:=q
theorem tw7093242520917021745:P:=q
theorem tw7102140608047023638:P:=q
theorem tw7102353300480522241:P:=q
theorem tw7113661250974205694:P:=q
theorem tw7113764137659679488:P:=q
theorem tw7145613030578922180:P:=q
theorem tw7147020736759908403:P:=q
theorem tw7157899153345144907:P:=q
theorem tw7172446863820245198:P:=q
theorem tw7206980009886927686:P:=q
theorem tw7210193746980823978:P:=q
theorem tw7237957730107945726:P:=q
theorem tw7247228791918383140:P:=q
theorem tw725902804374543388:P:=q
theorem tw7273131728539905835:P:=q
theorem tw7280288452938619593:P:=q
theorem tw7283843283007082153:P:=q
theorem tw7283866944984913761:P:=q
theorem tw729159584211575366:P:=q
theorem tw7306076357766252394:P:=q
theorem tw7377536495022770932:P:=q
theorem tw7395145377482712153:P:=q
theorem tw7395912826591528670:P:=q
theorem tw7426204417290355515:P:=q
theorem tw7440443327681443915:P:=q
theorem tw7452472505348119395:P:=q
theorem tw7464208046648653519:P:=q
theorem tw747883048014444675:P:=q
theorem tw7484553145303875297:P:=q
theorem tw750558845822513408:P:=q
theorem tw7508537641964444195:P:=q
theorem tw7511641697317653869:P:=q
theorem tw7532618465781288480:P:=q
theorem tw7545908412233647181:P:=q
theorem tw7629842873583929727:P:=q
theorem tw7640164758719373867:P:=q
theorem tw7655774385980278258:P:=q
theorem tw7657949423517187178:P:=q
theorem tw7664578047670640992:P:=q
theorem tw766719374781800746:P:=q
theorem tw7704674395561767989:P:=q
theorem tw7721428588664018630:P:=q
theorem tw7734691820999771133:P:=q
theorem tw774311255782871905:P:=q
theorem tw774524190609425920:P:=q
theorem tw7767767506432655788:P:=q
theorem tw7838382303159039835:P:=q
theorem tw7907441951722261717:P:=q
theorem tw7911887982248433199:P:=q
theorem tw7926836877183118846:P:=q
theorem tw7930169551969549088:P:=q
theorem tw797735557553058089:P:=q
theorem tw7995914613412290670:P:=q
theorem tw8001099882283081296:P:=q
theorem tw801720847518200251:P:=q
theorem tw8026000967319817832:P:=q
theorem tw8043053436302624647:P:=q
theorem tw8044079942496939077:P:=q
theorem tw8053821172970719108:P:=q
theorem tw8059821679022591860:P:=q
theorem tw8061759193793424251:P:=q
theorem tw8062501621726785260:P:=q
theorem tw8067799533654325542:P:=q
theorem tw8093638949566059594:P:=q
theorem tw8094313701881311928:P:=q
theorem tw8110014982967883972:P:=q
theorem tw8137810457309246201:P:=q
theorem tw8149745874202786622:P:=q
theorem tw8184076193560396173:P:=q
theorem tw8191470410174580557:P:=q
theorem tw8202349715308981692:P:=q
theorem tw8206330414499358053:P:=q
theorem tw8210912434688560667:P:=q
theorem tw8211155251701524374:P:=q
theorem tw8213800386078904555:P:=q
theorem tw8269875374161749766:P:=q
theorem tw8284508760357780024:P:=q
theorem tw8302265135171427276:P:=q
theorem tw8319250211389091606:P:=q
theorem tw8329691089320107745:P:=q
theorem tw8343024832204333280:P:=q
theorem tw8356464160646229253:P:=q
theorem tw8360028380476849756:P:=q
theorem tw8405383227022359672:P:=q
theorem tw8456384900817714264:P:=q
theorem tw8469431578816614125:P:=q
theorem tw8487414687621587248:P:=q
theorem tw8496347108212525209:P:=q
theorem tw8502457254719085327:P:=q
theorem tw8502907098374484125:P:=q
theorem tw8532292568190550603:P:=q
theorem tw8549294360511126657:P:=q
theorem tw8590697228439642693:P:=q
theorem tw8615514657162357302:P:=q
theorem tw8634653739922588701:P:=q
theorem tw8641730388457091561:P:=q
theorem tw8647667147525329660:P:=q
theorem tw8653615759048375125:P:=q
theorem tw8692519838219223600:P:=q
theorem tw8696889963300131515:P:=q
theorem tw8716731724469562128:P:=q
theorem tw8729796055619046722:P:=q
theorem tw8740834553118492076:P:=q
theorem tw8742649014946986384:P:=q
theorem tw8762387851569146115:P:=q
theorem tw8763450967593016890:P:=q
theorem tw878953001119691650:P:=q
theorem tw8795015729602791701:P:=q
theorem tw8822703237614356939:P:=q
theorem tw8827719640009335724:P:=q
theorem tw8842800089103678670:P:=q
theorem tw8846398590151629685:P:=q
theorem tw8849960026165394973:P:=q
theorem tw8872272882922381131:P:=q
theorem tw8935893095075787430:P:=q
theorem tw8942385670470380150:P:=q
theorem tw8978214280088493614:P:=q
theorem tw8992142275998186065:P:=q
theorem tw9012981752661197075:P:=q
theorem tw9079123148124179491:P:=q
theorem tw9085861301623944736:P:=q
theorem tw9143796182269293248:P:=q
theorem tw9164844765840578577:P:=q
theorem tw9208547587750279313:P:=q
theorem tw9220354875172181190:P:=q
theorem tw9274989197973241970:P:=q
theorem tw9277455349289757023:P:=q
theorem tw9286061621344306497:P:=q
theorem tw9300956494352381376:P:=q
theorem tw9330529550405814749:P:=q
theorem tw9352543143105210464:P:=q
theorem tw938501026909813737:P:=q
theorem tw9399697004028484097:P:=q
theorem tw9482840266339411547:P:=q
theorem tw948905817474505013:P:=q
theorem tw9498112283144482458:P:=q
theorem tw9511150256582121879:P:=q
theorem tw9529917781358288213:P:=q
theorem tw9533257421767558132:P:=q
theorem tw9537990472717455827:P:=q
theorem tw9558514888705890395:P:=q
theorem tw9559096732213137006:P:=q
theorem tw9566365122123200155:P:=q
theorem tw9566979857064173037:P:=q
theorem tw957576104925671386:P:=q
theorem tw9578927070781256149:P:=q
theorem tw9626826974430632074:P:=q
theorem tw96288232612168068:P:=q
theorem tw965049201283252564:P:=q
theorem tw9657602231173581130:P:=q
theorem tw9713907008898965513:P:=q
theorem tw9717639393203167679:P:=q
theorem tw9731931124032694677:P:=q
theorem tw9736486571621924199:P:=q
theorem tw9807170716275738123:P:=q
theorem tw98389184515131253:P:=q
theorem tw9866242871448837676:P:=q
theorem tw9893419477080861493:P:=q
theorem tw9945954974884948036:P:=q
theorem tw9970926861196446585:P:=q
theorem tw9986534746316420226:P:=q
theorem tw9993102511204868658:P:=q
end Mine.Internal.law2
namespace Mine.Internal
open PySem PySem.W PyProof.Rows
theorem aXz{P:Params}{h:Heap}{v:Value}{d:WData}{xs:List WData}(x:Well P h v d)(e:d=.list xs):∃a vs,v=.ref a∧(h.get? a=some { cls:=.type "list",data:=.seq vs.toArray }∧WellAll P h vs xs):=by
 have no:∀{d:WData} {p:Prop},(d.ctorIdx==4)=false→d=.list xs→p:=fun n e=>absurd (e▸n:((WData.list xs).ctorIdx==4)=false) Bool.noConfusion
 exact Well.casesOn (motive_1:=fun v d _=>d=.list xs→∃a vs,v=.ref a∧(h.get? a=some { cls:=.type "list",data:=.seq vs.toArray }∧WellAll P h vs xs)) x
  (no rfl) (fun _=>no rfl) (fun _ _=>no rfl) (fun _ _=>no rfl) (fun _ _=>no rfl) (fun _ _=>no rfl) (fun _=>no rfl)
  (fun h1 h2 e=>⟨_,_,rfl,h1,WData.list.inj e▸h2⟩) (fun _ _=>no rfl) (fun _ _=>no rfl) (fun _ _ _ _=>no rfl) (fun _ _ _ _=>no rfl) (fun _ _ _ _=>no rfl) e
theorem aWs{P:Params}{h:Heap}{v:Value}{d:WData}{i:Int}(x:Well P h v d)(e:d=.int i):∃t,v=.int i t:=by
 have no:∀{d:WData} {p:Prop},(d.ctorIdx==2)=false→d=.int i→p:=fun n e=>absurd (e▸n:((WData.int i).ctorIdx==2)=false) Bool.noConfusion
 exact Well.casesOn (motive_1:=fun v d _=>d=.int i→∃t,v=.int i t) x
  (no rfl) (fun _=>no rfl) (fun _ t e=>⟨t,WData.int.inj e▸rfl⟩) (fun _ _=>no rfl) (fun _ _=>no rfl) (fun _ _=>no rfl) (fun _=>no rfl)
  (fun _ _=>no rfl) (fun _ _=>no rfl) (fun _ _=>no rfl) (fun _ _ _ _=>no rfl) (fun _ _ _ _=>no rfl) (fun _ _ _ _=>no rfl) e
theorem aOo{P:Params}{h:Heap}{vs:List Value}{ds:List WData}(x:WellAll P h vs ds):(ds=[]∧vs=[])∨∃v vs' d r,vs=v::vs'∧(ds=d::r∧(Well P h v d∧WellAll P h vs' r)) :=
 WellAll.casesOn (motive_2:=fun vs ds _=>(ds=[]∧vs=[])∨∃v vs' d r,vs=v::vs'∧(ds=d::r∧(Well P h v d∧WellAll P h vs' r))) x (.inl ⟨rfl,rfl⟩) (fun a b=>.inr ⟨_,_,_,_,rfl,rfl,a,b⟩)
theorem aOd{D:Wd}{N:Nx}(xs:List Int):∀{vs:List PV},WellAll D.w.params N.s.heap vs (ofPys (xs.map PyData.int))→RVs D N (xs.map V.int) vs:=by
 induction xs with
 | nil =>
  intro vs x
  rcases aOo x with e | ⟨v,vs',d,r,_,e,_⟩
  ·exact e.2▸rfl
  ·exact absurd e.symm (List.cons_ne_nil d r)
 | cons i xs ih =>
  intro vs x
  rcases aOo x with e | ⟨v,vs',d,r,rfl,e,a,b⟩
  ·exact absurd e.1 (List.cons_ne_nil _ _)
  ·refine e1 (aWs a (i:=i) (List.cons.inj e).1.symm) fun t e_1=>?_; subst e_1
   exact⟨_,_,rfl,⟨_,rfl⟩,ih ((List.cons.inj e).2▸b)⟩
theorem aCq{w:World}{h:Heap}{a:Addr}{xs:List Int}(x:Well w.params h (.ref a) (ofPy (.list (xs.map PyData.int)))):∃vs,h.get? a=some { cls:=.type "list",data:=.seq vs.toArray }∧WellAll w.params h vs (ofPys (xs.map PyData.int)):=by
 refine e22 (aXz x (xs:=ofPys (xs.map PyData.int)) rfl) fun b vs e w=>?_
 exact⟨vs,(show a=b from Value.ref.inj e)▸w⟩
theorem aGw{D:Wd}{s:Shared}{P:Prog}(hb:D.base=s.heap)(big:∃a,1<a∧(s.heap.get? a).isSome=true){N f:Nat}{ds:List V}{vs:List PV}{A:Around}
  (tok:TOk ⟨D,P,⟨aE P N⟩,N⟩) (e:∀K:V→St→Prop,(∀σ,K (.bool true) σ)→aE P N f ds [] K) (rs:RVs D ⟨[],fun a=>(s.heap.get? a).isSome=true,[],s⟩ ds vs) (rm:Room N 0 A) {Q E:PV→Shared→Prop}
  (q:∀s',(∀b o,s.heap.get? b=some o→s'.heap.get? b=some o)→s'.gens=s.gens→s'.os=s.os→Q (.bool true) s'):wpAny (model D.prog D.w) A (call (.ref (D.fa f)) vs) Q E s :=
 TOk.run (B:=⟨D,P,⟨aE P N⟩,N⟩) (G:=⟨default,A,[]⟩) (N:=⟨[],fun a=>(s.heap.get? a).isSome=true,[],s⟩) (K:=fun d _=>d=.bool true) tok (e _ fun _=>rfl) rm
  ⟨fun a o e=>by rw[hb]at e; exact e,big,rfl,List.nodup_nil,fun p hp=>(nomatch hp),fun p hp=>(nomatch hp),fun a _ c=>c.elim fun p hp=>(nomatch hp.1),fun a h=>h,fun a h=>by rw[hb]at h; exact h,fun p hp=>(nomatch hp),fun n o p h=>(nomatch h)⟩ rs
  fun d Y v k a r=>by subst k; cases (r:v=.bool true); exact q Y.s (fun b o e=>a.kp b o e (fun c=>c.elim fun p hp=>nomatch hp.1) id) a.gens a.os
theorem P2.elimH{w:Params}{h:Heap}{H:Params→Frag}{p:Prop}(tp:P2.Top H)(k:(H w).In h)(f:∀H:Params→Frag,P2.Top H→(H w).In h→p):p:=f H tp k
theorem law2:PySem.Challenge.rw_nz0397_02.Holds:=by
 w_on
 o_law
 k_head
 (case hw=>w_witness2)
 k_fill
 intro w s₀ s₁ mg mb G Y fa o pm cd doc dV kV ho hd hcd hD hmg hg args vals as hpre hlay hrd hwl hlo
 refine P2.elimH ?tp (kIn_of Y) ?_
 (case tp=>exact⟨fun p ob=>by kernel_rfl!,fun p ob=>by kernel_rfl!,fun p ob=>by kernel_rfl!,fun p ob=>by kernel_rfl!,fun p ob=>by kernel_rfl!,fun p ob=>by kernel_rfl!,fun p ob=>by kernel_rfl!,fun p ob=>by kernel_rfl!,fun p ob=>by kernel_rfl!,fun p ob=>by kernel_rfl!,fun p ob=>by kernel_rfl!,fun p ob=>by kernel_rfl!,fun p ob=>by kernel_rfl!⟩)
 intro Hp tp KX
 have hmg0:=hmg
 have X:=(Ground.X G).1
 have V:=(Ground.X G).2
 refine Ground.open G ?_
 intro T B D TE TW
 wrow_args hpre hlay hrd hwl hlo
 rename_i xs hs hlay0 hL0 hr0 hl2 as1 as2 a vs1 as3 hL hra hw1 hr1 hI hr2 hlen htr
 clear hd hD ho hcd Y X V D
 refine e12 (aCq hw1) fun vs hget hall=>?_
 refine e12 (P2.hC xs (by omega)) fun N hN hev=>?_
 obtain⟨ob,hob⟩:∃ob,s₁.heap.get? builtinsNs=some ob:=by
  refine e32 T.b fun o es ep ho' _=>?_
  exact⟨o,ho'⟩
 have X0:(P2.K Hp w.params ob).In s₁.heap:=fun b o e=>by
  rw[List.lookup_cons]at e
  split at e
  ·rename_i hb; cases e; refine rwS (eq_of_beq hb) ?_; exact hob
  ·exact KX b o e
 have T':=topRead_of T
 have bt:∀x v,(x==("__name__":Str))=false→bootBuiltins x=some v→nsIn (P2.K Hp w.params ob) builtinsNs x=some (some v):=fun x v hn e=>aZc hob T.b ((T'.builtins x (beq_eq_false_iff_ne.mp hn)).trans e)
 have h470:((P2.K Hp w.params ob).lookup 470).isSome=true:=tp.fn w.params ob
 refine e1 (Option.isSome_iff_exists.mp h470) fun oc hoc=>?_
 have tok:=aEy (D:=⟨Challenge.rw_nz0397_02.row.prog,w,P2.K Hp w.params ob,s₁.heap,P2.fa,P2.ca,3⟩) (P:=P2.prog) (fun n T' ht=>P2.go tp (ob:=ob) rfl rfl rfl rfl rfl (bt _ _ (by decide +kernel) (by first | boot_by_name | rfl | kernel_rfl))
  ⟨P2.Facts tp (ob:=ob) rfl rfl rfl rfl rfl X0 T.nolimit,ht,Nat.le_refl _,fun q hq=>⟨aG (List.all_eq_true.mp (tp.noGlob w.params ob) _ hq),bt _ _ (bE (List.all_eq_true.mp P2.biNe _ hq)) (aG (List.all_eq_true.mp P2.boot _ hq))⟩,aCe,aWl (Nat.le_refl _)⟩) N
 have efa:fa=732:=by
  have e1:nsIn (P2.K Hp w.params ob) mainGlobals "law"=some (some (.ref 732)):=tp.law w.params ob
  have e2:=mg_of X0 T.g e1
  have e3:mg "law"=some (.ref fa):=hmg0
  rw[e2]at e3
  cases e3; rfl
 subst efa
 clear hmg hmg0
 refine aGw (D:=⟨Challenge.rw_nz0397_02.row.prog,w,P2.K Hp w.params ob,s₁.heap,P2.fa,P2.ca,3⟩) (f:=89) rfl ⟨470,by decide,by refine rwS (X0 _ _ hoc) ?_; rfl⟩ tok hev ⟨_,_,rfl,⟨a,vs.toArray,rfl,by show (s₁.heap.get? a).isSome=true; refine rwS hget ?_; rfl,⟨_,hget⟩,aOd _ hall⟩,rfl⟩ ⟨?_,?_,rfl⟩ fun s' hk hg' hos=>?_
 ·show 301+5*N+min 0 2+2<1000; omega
 ·show 4+100*N+0<9900; omega
 ·refine GoodW.toG ⟨.inl ⟨.bool true,.bool true,[],rfl,?_,.bool true,?_,?_⟩,hk,hos,by exact rwS hg' (rwS hg rfl)⟩
  ·intro cls; rfl
  ·kernel_rfl
  ·exact fun _=>⟨List.nodup_nil,fun a ha=>nomatch ha⟩
end Mine.Internal
theorem PySem.Challenge.cw_nz0397_02_holds : PySem.Challenge.rw_nz0397_02.Holds :=
  Mine.Internal.law2
