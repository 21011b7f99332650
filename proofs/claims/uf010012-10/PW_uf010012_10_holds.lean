import PyProof.Rows.All
import KE.KItem
import Open.Line
import PySem.Challenge.RW_uf010012_10
set_option Elab.async false
set_option maxRecDepth 100000
set_option genSizeOf false
set_option genInjectivity false
namespace Mini
inductive V where
 | none
 | bool (b:Bool)
 | int (i:Int)
 | str (s:List Nat)
 | ref (a:Nat)
 | tup (vs:List V)
 | frz (ns:List Int)
abbrev Heap:=List (List V)
abbrev Env:=List (Option V)
noncomputable def lim:Nat:=16777216
inductive Op where
 | add | sub | mul | fdiv | mod | pow
inductive Cmp where
 | eq | ne | lt | le | gt | ge | isin | notin
inductive Cst where
 | none | tt | ff
inductive Ty where
 | str | int | bool | list | tuple
inductive E where
 | none
 | bool (b:Bool)
 | int (i:Int)
 | str (s:List Nat)
 | var (x:Nat)
 | glob (g:String) (i:Int)
 | bin (o:Op) (l r:E)
 | neg (i:Int)
 | cmp (o:Cmp) (l r:E)
 | cmp2 (o₁ o₂:Cmp) (a b c:E)
 | is (e:E) (c:Cst)
 | isnot (e:E) (c:Cst)
 | and (es:List E)
 | or (es:List E)
 | not (e:E)
 | idx (o i:E)
 | slc (o l h:E)
 | slcL (o l:E)
 | slcH (o h:E)
 | call (f:String) (es:List E)
 | isinst (e:E) (t:Ty)
 | len (e:E)
 | toInt (e:E)
 | ord (e:E)
 | append (o e:E)
 | extend (o e:E)
 | pop (o:E)
 | find (o a b:E)
 | replace (o a b:E)
 | join (o a:E)
 | lstrip (o a:E)
 | list (es:List E)
 | tup (es:List E)
 | comp (elt:E) (x:Nat) (src:E) (ifs:List E)
 | compR (elt:E) (x:Nat) (n:E) (ifs:List E)
inductive S where
 | assign (x:Nat) (e:E)
 | setIdx (o i e:E)
 | expr (e:E)
 | ite (c:E) (t f:List S)
 | whl (c:E) (b:List S)
 | forIn (x:Nat) (e:E) (b:List S)
 | forR (x:Nat) (e:E) (b:List S)
 | ret (e:E)
 | retNone
 | cont
 | pass
 | raise (c:String) (m:List Nat)
structure Fn where
 names:List String
 params:Nat
 lits:List Nat:=[]
 bump:Bool:=false
 body:List S
abbrev Prg:=String->Option Fn
noncomputable def place (i:Int) (n:Nat):Option Nat :=
 if 0<=i then (if i<n then some i.toNat else none)
 else if -(n:Int)<=i then some (i+n).toNat else none
noncomputable def clamp (i:Int) (n:Nat):Nat :=
 if i<0 then (i+n).toNat else min i.toNat n
noncomputable def loOf (lo:Option Int) (n:Nat):Nat:=match lo with
 | some i=>clamp i n
 | none=>0
noncomputable def hiOf (hi:Option Int) (n:Nat):Nat:=match hi with
 | some i=>clamp i n
 | none=>n
noncomputable def slice {α:Type}(l:List α) (lo hi:Option Int):List α:=(l.take (hiOf hi l.length)).drop (loOf lo l.length)
noncomputable def idx? (c:Nat):List Nat->Option Nat
 | []=>none
 | x::l=>if x=c then some 0 else (idx? c l).map (· + 1)
noncomputable def findC (s:List Nat) (c:Nat) (i:Nat):Int:=match idx? c (s.drop i) with
 | some k=>((i+k:Nat):Int)
 | none=>-1
noncomputable def replace1 (s:List Nat) (a b:Nat):List Nat:=s.map fun c=>if c=a then b else c
noncomputable def splitAt (c:Nat):List Nat->List (List Nat)
 | []=>[[]]
 | x::l=>if x=c then []::splitAt c l else match splitAt c l with
  | []=>[[x]]
  | w::r=>(x::w)::r
noncomputable def joinWith (sep:List Nat):List (List Nat)->List Nat
 | []=>[]
 | [w]=>w
 | w::r=>w++sep++joinWith sep r
noncomputable def strL:List V->Option (List (List Nat))
 | []=>some []
 | .str s::r=>(strL r).map (s::·)
 | _::_=>Option.none
inductive D where
 | none
 | bool (b:Bool)
 | int (i:Int)
 | str (s:List Nat)
 | list (l:List D)
 | tup (l:List D)
noncomputable def rdL (f:V->Option D):List V->Option (List D)
 | []=>some []
 | v::l=>match f v with
  | some d=>(rdL f l).map (d::·)
  | Option.none=>Option.none
noncomputable def rd (H:Heap):Nat->V->Option D
 | 0,_=>Option.none
 | n+1,v=>match v with
  | .none=>some .none
  | .bool b=>some (.bool b)
  | .int i=>some (.int i)
  | .str s=>if s.all (fun c=>decide (c<1114112)) then some (.str s) else Option.none
  | .tup l=>(rdL (rd H n) l).map .tup
  | .ref a=>match H[a]? with
   | some l=>(rdL (rd H n) l).map .list
   | Option.none=>Option.none
  | .frz _=>Option.none
mutual
noncomputable def eqD:D->D->Bool
 | .none,e=>match e with | .none=>true | _=>false
 | .bool a,e=>match e with | .bool b=>a==b | .int j=>(if a then 1 else 0)==j | _=>false
 | .int i,e=>match e with | .int j=>i==j | .bool b=>i==(if b then 1 else 0) | _=>false
 | .str a,e=>match e with | .str b=>a==b | _=>false
 | .list a,e=>match e with | .list b=>eqDs a b | _=>false
 | .tup a,e=>match e with | .tup b=>eqDs a b | _=>false
noncomputable def eqDs:List D->List D->Bool
 | [],e=>match e with | []=>true | _=>false
 | x::l,e=>match e with | y::r=>eqD x y&&eqDs l r | _=>false
end
noncomputable def eqDeep:Nat:=100
abbrev Res:=Option (V×Heap)
section
variable {α:Type}
noncomputable def onInt (v:V) (f:Int->Option α):Option α:=match v with
 | .int i=>f i
 | _=>Option.none
noncomputable def onStr (v:V) (f:List Nat->Option α):Option α:=match v with
 | .str i=>f i
 | _=>Option.none
noncomputable def onRef (v:V) (f:Nat->Option α):Option α:=match v with
 | .ref i=>f i
 | _=>Option.none
noncomputable def onBool (v:V) (f:Bool->Option α):Option α:=match v with
 | .bool i=>f i
 | _=>Option.none
noncomputable def onOne (s:List Nat) (f:Nat->Option α):Option α:=match s with
 | [c]=>f c
 | _=>Option.none
theorem onInt_ok {v:V}{f:Int->Option α}{r:α}(h:onInt v f=some r):∃ i,v=.int i/\f i=some r:=by
 cases v with
 | int i=>exact ⟨i,rfl,h⟩
 | _=>exact nomatch (show Option.none=some r from h)
theorem onStr_ok {v:V}{f:List Nat->Option α}{r:α}(h:onStr v f=some r):∃ i,v=.str i/\f i=some r:=by
 cases v with
 | str i=>exact ⟨i,rfl,h⟩
 | _=>exact nomatch (show Option.none=some r from h)
theorem onRef_ok {v:V}{f:Nat->Option α}{r:α}(h:onRef v f=some r):∃ i,v=.ref i/\f i=some r:=by
 cases v with
 | ref i=>exact ⟨i,rfl,h⟩
 | _=>exact nomatch (show Option.none=some r from h)
theorem onBool_ok {v:V}{f:Bool->Option α}{r:α}(h:onBool v f=some r):∃ i,v=.bool i/\f i=some r:=by
 cases v with
 | bool i=>exact ⟨i,rfl,h⟩
 | _=>exact nomatch (show Option.none=some r from h)
theorem onOne_ok {s:List Nat}{f:Nat->Option α}{r:α}(h:onOne s f=some r):∃ c,s=[c]/\f c=some r:=by
 match s,h with
 | [c],h=>exact ⟨c,rfl,h⟩
 | [],h=>exact nomatch (show Option.none=some r from h)
 | _::_::_,h=>exact nomatch (show Option.none=some r from h)
theorem ite_ok {c:Prop} [Decidable c] {x r:α}(h:(if c then some x else Option.none)=some r):c/\x=r:=by
 by_cases hc:c
 ·rw [if_pos hc] at h;cases h;exact ⟨hc,rfl⟩
 ·rw [if_neg hc] at h;cases h
end
noncomputable def pOne (v:V) (f:Nat->Prop):Prop:=match v with
 | .str [c]=>f c
 | _=>False
noncomputable def pInt (v:V) (f:Int->Prop):Prop:=match v with
 | .int c=>f c
 | _=>False
theorem pOne_ok {v:V}{f:Nat->Prop}(h:pOne v f):∃ c,v=.str [c]/\f c:=by
 cases v with
 | str s =>
  match s,h with
  | [c],h=>exact ⟨c,rfl,h⟩
  | [],h=>exact False.elim h
  | _::_::_,h=>exact False.elim h
 | _=>exact False.elim h
theorem pInt_ok {v:V}{f:Int->Prop}(h:pInt v f):∃ c,v=.int c/\f c:=by
 cases v with
 | int i=>exact ⟨i,rfl,h⟩
 | _=>exact False.elim h
noncomputable def addV (a b:V) (H:Heap):Res:=match a with
 | .int a=>onInt b fun b=>some (.int (a+b),H)
 | .str a=>onStr b fun b=>if a.length+b.length<=lim then some (.str (a++b),H) else Option.none
 | .ref a=>onRef b fun b=>(H[a]?).bind fun l=>(H[b]?).bind fun r=>if l.length+r.length<=lim then some (.ref H.length,H++[l++r]) else Option.none
 | _=>Option.none
noncomputable def mulV (a b:V) (H:Heap):Res:=match a with
 | .int a=>onInt b fun b=>if a.natAbs<1152921504606846976∨b.natAbs<1152921504606846976 then some (.int (a * b),H) else Option.none
 | .str a=>onInt b fun n=>if a.length * n.toNat<=lim/\-4611686018427387904<n/\n<4611686018427387904 then some (.str (List.replicate n.toNat a).flatten,H) else Option.none
 | .ref a=>onInt b fun n=>(H[a]?).bind fun l=>if l.length * n.toNat<=lim/\-4611686018427387904<n/\n<4611686018427387904 then some (.ref H.length,H++[(List.replicate n.toNat l).flatten]) else Option.none
 | _=>Option.none
noncomputable def binV (o:Op) (a b:V) (H:Heap):Res :=
 match o with
 | .add=>addV a b H
 | .sub=>onInt a fun a=>onInt b fun b=>some (.int (a - b),H)
 | .mul=>mulV a b H
 | .fdiv=>onInt a fun a=>onInt b fun b=>if 0<b/\b<1073741824 then some (.int (a / b),H) else Option.none
 | .mod=>onInt a fun a=>onInt b fun b=>if 0<b then some (.int (a % b),H) else Option.none
 | .pow=>Option.none
noncomputable def flatEq (a b:V):Option Bool:=match a with
 | .int a=>onInt b fun b=>some (a==b)
 | .bool a=>onBool b fun b=>some (a==b)
 | .str a=>onStr b fun b=>some (a==b)
 | _=>Option.none
noncomputable def deepEq (a b:V) (H:Heap):Option Bool:=(rd H eqDeep a).bind fun x=>(rd H eqDeep b).bind fun y=>some (eqD x y)
noncomputable def eqV (a b:V) (H:Heap):Option Bool:=match flatEq a b with
 | some t=>some t
 | Option.none=>deepEq a b H
noncomputable def memV (a t:V) (H:Heap):Option Bool :=
 match rd H eqDeep a,rd H eqDeep t with
 | some x,some (.tup l)=>some (l.any fun y=>eqD y x)
 | _,_=>Option.none
noncomputable def inV (a b:V) (H:Heap):Option Bool:=match b with
 | .str b=>onStr a fun s=>onOne s fun c=>some (b.contains c)
 | .tup l=>memV a (.tup l) H
 | _=>Option.none
noncomputable def cmpV (o:Cmp) (a b:V) (H:Heap):Option Bool :=
 match o with
 | .eq=>eqV a b H
 | .ne=>(eqV a b H).map (!·)
 | .lt=>onInt a fun a=>onInt b fun b=>some (decide (a<b))
 | .le=>onInt a fun a=>onInt b fun b=>some (decide (a<=b))
 | .gt=>onInt a fun a=>onInt b fun b=>some (decide (b<a))
 | .ge=>onInt a fun a=>onInt b fun b=>some (decide (b<=a))
 | .isin=>inV a b H
 | .notin=>(inV a b H).map (!·)
noncomputable def isV (a:V) (c:Cst):Bool :=
 match a,c with
 | .none,.none=>true
 | .bool true,.tt=>true
 | .bool false,.ff=>true
 | _,_=>false
noncomputable def isinstV (a:V) (t:Ty):Bool :=
 match a,t with
 | .str _,.str=>true
 | .int _,.int=>true
 | .bool _,.int=>true
 | .bool _,.bool=>true
 | .ref _,.list=>true
 | .frz _,.list=>true
 | .tup _,.tuple=>true
 | _,_=>false
noncomputable def lenV (a:V) (H:Heap):Option Int :=
 match a with
 | .str s=>some (s.length:Int)
 | .tup l=>some (l.length:Int)
 | .frz l=>some (l.length:Int)
 | .ref a=>(H[a]?).map fun l=>(l.length:Int)
 | _=>Option.none
noncomputable def idxV (o i:V) (H:Heap):Option V:=onInt i fun i=>match o with
 | .str s=>(place i s.length).bind fun k=>(s[k]?).map fun c=>.str [c]
 | .tup l=>(place i l.length).bind fun k=>l[k]?
 | .frz l=>(place i l.length).bind fun k=>(l[k]?).map .int
 | .ref a=>(H[a]?).bind fun l=>(place i l.length).bind fun k=>l[k]?
 | _=>Option.none
noncomputable def slcV (o:V) (lo hi:Option Int) (H:Heap):Res :=
 match o with
 | .str s=>some (.str (slice s lo hi),H)
 | .frz l=>some (.ref H.length,H++[(slice l lo hi).map .int])
 | .ref a=>(H[a]?).map fun l=>(.ref H.length,H++[slice l lo hi])
 | _=>Option.none
noncomputable def setV (o i v:V) (H:Heap):Option Heap:=onRef o fun a=>onInt i fun i =>
 (H[a]?).bind fun l=>(place i l.length).map fun k=>H.set a (l.set k v)
noncomputable def appendV (o v:V) (H:Heap):Option Heap :=
 match o with
 | .ref a=>(H[a]?).bind fun l=>if l.length<lim then some (H.set a (l++[v])) else Option.none
 | _=>Option.none
noncomputable def extendV (o v:V) (H:Heap):Option Heap:=onRef o fun a=>onRef v fun b =>
 (H[a]?).bind fun l=>(H[b]?).bind fun r=>if a≠b/\l.length+r.length<=lim then some (H.set a (l++r)) else Option.none
noncomputable def popV (o:V) (H:Heap):Res :=
 match o with
 | .ref a=>(H[a]?).bind fun l=>(l.getLast?).map fun v=>(v,H.set a l.dropLast)
 | _=>Option.none
inductive It where
 | lst (a:Nat)
 | fix (vs:List V)
noncomputable def It.at (it:It) (H:Heap) (i:Nat):Option V :=
 match it with
 | .lst a=>match H[a]? with
  | some l=>l[i]?
  | Option.none=>Option.none
 | .fix vs=>vs[i]?
noncomputable def iterV (v:V):Option It :=
 match v with
 | .ref a=>some (.lst a)
 | .frz l=>some (.fix (l.map .int))
 | .str s=>some (.fix (s.map fun c=>.str [c]))
 | _=>Option.none
noncomputable def rangeV (v:V):Option It :=
 match v with
 | .int n=>@ite _ (-4611686018427387904<=n/\n<4611686018427387904) (Classical.propDecidable _) (some (.fix ((List.range n.toNat).map fun k:Nat=>V.int (k:Int)))) Option.none
 | _=>Option.none
abbrev PostV:=V->Heap->Prop
abbrev Calls:=String->List V->PostV->Heap->Prop
noncomputable def res (r:Res) (Q:PostV):Prop:=match r with
 | some (v,H)=>Q v H
 | Option.none=>False
theorem res_ok {r:Res}{Q:PostV}(h:res r Q):∃ v H,r=some (v,H)/\Q v H:=by
 cases r with
 | some p=>exact ⟨p.1,p.2,rfl,h⟩
 | none=>exact False.elim h
noncomputable def val (r:Option V) (Q:PostV) (H:Heap):Prop:=match r with
 | some v=>Q v H
 | Option.none=>False
noncomputable def boo (r:Option Bool) (Q:Bool->Heap->Prop) (H:Heap):Prop:=match r with
 | some b=>Q b H
 | Option.none=>False
noncomputable def hea (r:Option Heap) (Q:PostV):Prop:=match r with
 | some H=>Q .none H
 | Option.none=>False
noncomputable def truthV (v:V):Option Bool:=match v with
 | .bool b=>some b
 | _=>Option.none
noncomputable def findP (s:List Nat) (va vb:V) (Q:PostV) (H:Heap):Prop:=pOne va fun c=>pInt vb fun i=>0<=i/\Q (.int (findC s c i.toNat)) H
noncomputable def replaceP (s:List Nat) (va vb:V) (Q:PostV) (H:Heap):Prop:=pOne va fun x=>pOne vb fun y=>x≠y/\s.length<=1000000/\Q (.str (replace1 s x y)) H
noncomputable def joinP (s:List Nat) (va:V) (Q:PostV) (H:Heap):Prop:=match va with
 | .ref a=>match (H[a]?).bind strL with
  | some l=>(l.map List.length).sum+l.length * s.length<=lim/\Q (.str (joinWith s l)) H
  | Option.none=>False
 | _=>False
noncomputable def lstripP (s:List Nat) (va:V) (Q:PostV) (H:Heap):Prop:=pOne va fun c=>Q (.str (s.dropWhile (· == c))) H
noncomputable def compN (test:Env->(Bool->Heap->Prop)->Heap->Prop) (elt:Env->PostV->Heap->Prop) (x:Nat) (ρ:Env) (it:It) :
  Nat->Nat->List V->(List V->Heap->Prop)->Heap->Prop
 | 0,_,_,_,_=>False
 | n+1,i,acc,Q,H=>match it.at H i with
  | Option.none=>Q acc H
  | some v=>test (ρ.set x (some v)) (fun b H₁=>match b with
   | true=>elt (ρ.set x (some v)) (fun y H₂=>acc.length<lim/\compN test elt x ρ it n (i+1) (acc++[y]) Q H₂) H₁
   | false=>compN test elt x ρ it n (i+1) acc Q H₁) H
mutual
noncomputable def wpE (C:Calls):E->Env->PostV->Heap->Prop
 | .none,_,Q,H=>Q .none H
 | .bool b,_,Q,H=>Q (.bool b) H
 | .int i,_,Q,H=>Q (.int i) H
 | .str s,_,Q,H=>Q (.str s) H
 | .var x,ρ,Q,H=>match ρ[x]? with
  | some (some v)=>Q v H
  | _=>False
 | .glob _ i,_,Q,H=>Q (.int i) H
 | .bin o l r,ρ,Q,H=>wpE C l ρ (fun a H₁=>wpE C r ρ (fun b H₂=>res (binV o a b H₂) Q) H₁) H
 | .neg i,_,Q,H=>Q (.int (-i)) H
 | .cmp o l r,ρ,Q,H=>wpE C l ρ (fun a H₁=>wpE C r ρ (fun b H₂=>boo (cmpV o a b H₂) (fun b H=>Q (.bool b) H) H₂) H₁) H
 | .cmp2 o₁ o₂ a b c,ρ,Q,H=>wpE C a ρ (fun va H₁=>wpE C b ρ (fun vb H₂=>boo (cmpV o₁ va vb H₂) (fun t H₂=>match t with
   | true=>wpE C c ρ (fun vc H₃=>boo (cmpV o₂ vb vc H₃) (fun b H=>Q (.bool b) H) H₃) H₂
   | false=>Q (.bool false) H₂) H₂) H₁) H
 | .is e c,ρ,Q,H=>wpE C e ρ (fun v H₁=>Q (.bool (isV v c)) H₁) H
 | .isnot e c,ρ,Q,H=>wpE C e ρ (fun v H₁=>Q (.bool (!isV v c)) H₁) H
 | .and es,ρ,Q,H=>wpAnd C es ρ Q H
 | .or es,ρ,Q,H=>wpOr C es ρ Q H
 | .not e,ρ,Q,H=>wpE C e ρ (fun v H₁=>boo (truthV v) (fun b H=>Q (.bool (!b)) H) H₁) H
 | .idx o i,ρ,Q,H=>wpE C o ρ (fun vo H₁=>wpE C i ρ (fun vi H₂=>val (idxV vo vi H₂) Q H₂) H₁) H
 | .slc o l h,ρ,Q,H=>wpE C o ρ (fun vo H₁=>wpE C l ρ (fun vl H₂=>wpE C h ρ (fun vh H₃=>match vl,vh with
   | .int a,.int b=>res (slcV vo (some a) (some b) H₃) Q
   | _,_=>False) H₂) H₁) H
 | .slcL o l,ρ,Q,H=>wpE C o ρ (fun vo H₁=>wpE C l ρ (fun vl H₂=>match vl with
   | .int a=>res (slcV vo (some a) Option.none H₂) Q
   | _=>False) H₁) H
 | .slcH o h,ρ,Q,H=>wpE C o ρ (fun vo H₁=>wpE C h ρ (fun vh H₂=>match vh with
   | .int a=>res (slcV vo Option.none (some a) H₂) Q
   | _=>False) H₁) H
 | .call f es,ρ,Q,H=>wpEs C es ρ (fun vs H₁=>C f vs Q H₁) H
 | .isinst e t,ρ,Q,H=>wpE C e ρ (fun v H₁=>Q (.bool (isinstV v t)) H₁) H
 | .len e,ρ,Q,H=>wpE C e ρ (fun v H₁=>val ((lenV v H₁).map .int) Q H₁) H
 | .toInt e,ρ,Q,H=>wpE C e ρ (fun v H₁=>match v with
   | .bool b=>Q (.int (if b then 1 else 0)) H₁
   | _=>False) H
 | .ord e,ρ,Q,H=>wpE C e ρ (fun v H₁=>match v with
   | .str [c]=>Q (.int (c:Int)) H₁
   | _=>False) H
 | .append o e,ρ,Q,H=>wpE C o ρ (fun vo H₁=>match vo with
   | .ref a=>wpE C e ρ (fun v H₂=>hea (appendV (.ref a) v H₂) Q) H₁
   | _=>False) H
 | .extend o e,ρ,Q,H=>wpE C o ρ (fun vo H₁=>match vo with
   | .ref a=>wpE C e ρ (fun v H₂=>hea (extendV (.ref a) v H₂) Q) H₁
   | _=>False) H
 | .pop o,ρ,Q,H=>wpE C o ρ (fun vo H₁=>match vo with
   | .ref a=>res (popV (.ref a) H₁) Q
   | _=>False) H
 | .find o a b,ρ,Q,H=>wpE C o ρ (fun vo H₁=>match vo with
   | .str s=>wpE C a ρ (fun va H₂=>wpE C b ρ (fun vb H₃=>findP s va vb Q H₃) H₂) H₁
   | _=>False) H
 | .replace o a b,ρ,Q,H=>wpE C o ρ (fun vo H₁=>match vo with
   | .str s=>wpE C a ρ (fun va H₂=>wpE C b ρ (fun vb H₃=>replaceP s va vb Q H₃) H₂) H₁
   | _=>False) H
 | .join o a,ρ,Q,H=>wpE C o ρ (fun vo H₁=>match vo with
   | .str s=>wpE C a ρ (fun va H₂=>joinP s va Q H₂) H₁
   | _=>False) H
 | .lstrip o a,ρ,Q,H=>wpE C o ρ (fun vo H₁=>match vo with
   | .str s=>wpE C a ρ (fun va H₂=>lstripP s va Q H₂) H₁
   | _=>False) H
 | .list es,ρ,Q,H=>wpEs C es ρ (fun vs H₁=>Q (.ref H₁.length) (H₁++[vs])) H
 | .tup es,ρ,Q,H=>wpEs C es ρ (fun vs H₁=>Q (.tup vs) H₁) H
 | .comp elt x src ifs,ρ,Q,H=>wpE C src ρ (fun v H₁=>match iterV v with
   | some it=>∃ n,compN (wpTest C ifs) (wpE C elt) x ρ it n 0 [] (fun vs H₂=>Q (.ref H₂.length) (H₂++[vs])) H₁
   | Option.none=>False) H
 | .compR elt x e ifs,ρ,Q,H=>wpE C e ρ (fun v H₁=>match rangeV v with
   | some it=>∃ n,compN (wpTest C ifs) (wpE C elt) x ρ it n 0 [] (fun vs H₂=>Q (.ref H₂.length) (H₂++[vs])) H₁
   | Option.none=>False) H
noncomputable def wpEs (C:Calls):List E->Env->(List V->Heap->Prop)->Heap->Prop
 | [],_,Q,H=>Q [] H
 | e::es,ρ,Q,H=>wpE C e ρ (fun v H₁=>wpEs C es ρ (fun vs H₂=>Q (v::vs) H₂) H₁) H
noncomputable def wpAnd (C:Calls):List E->Env->PostV->Heap->Prop
 | [],_,_,_=>False
 | e::es,ρ,Q,H=>match es with
  | []=>wpE C e ρ Q H
  | _::_=>wpE C e ρ (fun v H₁=>boo (truthV v) (fun b H₁=>match b with
   | true=>wpAnd C es ρ Q H₁
   | false=>Q v H₁) H₁) H
noncomputable def wpOr (C:Calls):List E->Env->PostV->Heap->Prop
 | [],_,_,_=>False
 | e::es,ρ,Q,H=>match es with
  | []=>wpE C e ρ Q H
  | _::_=>wpE C e ρ (fun v H₁=>boo (truthV v) (fun b H₁=>match b with
   | true=>Q v H₁
   | false=>wpOr C es ρ Q H₁) H₁) H
noncomputable def wpTest (C:Calls):List E->Env->(Bool->Heap->Prop)->Heap->Prop
 | [],_,Q,H=>Q true H
 | e::es,ρ,Q,H=>wpE C e ρ (fun v H₁=>boo (truthV v) (fun b H₁=>match b with
   | true=>wpTest C es ρ Q H₁
   | false=>Q false H₁) H₁) H
end
inductive Flow where
 | next | cont
 | ret (v:V)
abbrev PostS:=Flow->Env->Heap->Prop
noncomputable def whileN (test:Env->PostV->Heap->Prop) (body:Env->PostS->Heap->Prop):Nat->Env->PostS->Heap->Prop
 | 0,_,_,_=>False
 | n+1,ρ,Q,H=>test ρ (fun v H₁=>boo (truthV v) (fun b H₁=>match b with
   | true=>body ρ (fun fl ρ' H₂=>match fl with
    | .ret v=>Q (.ret v) ρ' H₂
    | _=>whileN test body n ρ' Q H₂) H₁
   | false=>Q .next ρ H₁) H₁) H
noncomputable def forN (body:Env->PostS->Heap->Prop) (x:Nat) (it:It):Nat->Nat->Env->PostS->Heap->Prop
 | 0,_,_,_,_=>False
 | n+1,i,ρ,Q,H=>match it.at H i with
  | Option.none=>Q .next ρ H
  | some v=>body (ρ.set x (some v)) (fun fl ρ' H₂=>match fl with
    | .ret v=>Q (.ret v) ρ' H₂
    | _=>forN body x it n (i+1) ρ' Q H₂) H
mutual
noncomputable def wpS (C:Calls):S->Env->PostS->Heap->Prop
 | .assign x e,ρ,Q,H=>wpE C e ρ (fun v H₁=>Q .next (ρ.set x (some v)) H₁) H
 | .setIdx o i e,ρ,Q,H=>wpE C e ρ (fun v H₁=>wpE C o ρ (fun vo H₂=>wpE C i ρ (fun vi H₃=>hea (setV vo vi v H₃) (fun _ H₄=>Q .next ρ H₄)) H₂) H₁) H
 | .expr e,ρ,Q,H=>wpE C e ρ (fun _ H₁=>Q .next ρ H₁) H
 | .ite c t f,ρ,Q,H=>wpE C c ρ (fun v H₁=>boo (truthV v) (fun b H₁=>match b with
   | true=>wpSs C t ρ Q H₁
   | false=>wpSs C f ρ Q H₁) H₁) H
 | .whl c b,ρ,Q,H=>∃ n,whileN (wpE C c) (wpSs C b) n ρ Q H
 | .forIn x e b,ρ,Q,H=>wpE C e ρ (fun v H₁=>match iterV v with
   | some it=>∃ n,forN (wpSs C b) x it n 0 ρ Q H₁
   | Option.none=>False) H
 | .forR x e b,ρ,Q,H=>wpE C e ρ (fun v H₁=>match rangeV v with
   | some it=>∃ n,forN (wpSs C b) x it n 0 ρ Q H₁
   | Option.none=>False) H
 | .ret e,ρ,Q,H=>wpE C e ρ (fun v H₁=>Q (.ret v) ρ H₁) H
 | .retNone,ρ,Q,H=>Q (.ret .none) ρ H
 | .cont,ρ,Q,H=>Q .cont ρ H
 | .pass,ρ,Q,H=>Q .next ρ H
 | .raise _ _,_,_,_=>False
noncomputable def wpSs (C:Calls):List S->Env->PostS->Heap->Prop
 | [],ρ,Q,H=>Q .next ρ H
 | s::ss,ρ,Q,H=>wpS C s ρ (fun fl ρ' H₁=>match fl with
   | .next=>wpSs C ss ρ' Q H₁
   | fl=>Q fl ρ' H₁) H
end
noncomputable def frame (f:Fn) (vs:List V):Env:=vs.map some++List.replicate (f.names.length - f.params) Option.none
noncomputable def callN (P:Prg):Nat->Calls
 | 0,_,_,_,_=>False
 | n+1,f,vs,Q,H=>match P f with
  | some fn=>vs.length=fn.params/\wpSs (callN P n) fn.body (frame fn vs) (fun fl _ H₁=>match fl with
   | .ret v=>Q v H₁
   | _=>Q .none H₁) H
  | Option.none=>False
end Mini
namespace Mini
open PySem (Expr Stmt Str NameKind Scope Const Operator CmpOp BoolOp UnaryOp Arguments Comprehension Keyword Pos ExceptHandler)
noncomputable def onBoolOp (re:PySem.Expr) (q:BoolOp->List Expr->Pos->Bool):Bool:=if h:re.ctorIdx=0 then PySem.Expr.BoolOp.elim (motive_1:=fun _=>Bool) re h q else false
theorem onBoolOp_idx {re:PySem.Expr}{q:BoolOp->List Expr->Pos->Bool}(h:onBoolOp re q=true):re.ctorIdx=0:=Classical.byContradiction fun hk=>by rw [onBoolOp,dif_neg hk] at h;cases h
theorem onBoolOp_ok {re:PySem.Expr}{q:BoolOp->List Expr->Pos->Bool}{P:Prop}(h:onBoolOp re q=true) (k:∀ op es p,re=.BoolOp op es p->q op es p=true->P):P:=by
 have hk:=onBoolOp_idx h
 revert h k
 exact PySem.Expr.BoolOp.elim (motive_1:=fun re=>onBoolOp re q=true->(∀ op es p,re=.BoolOp op es p->q op es p=true->P)->P) re hk (fun op es p h k=>k op es p rfl h)
noncomputable def onBinOp (re:PySem.Expr) (q:Expr->Operator->Expr->Pos->Bool):Bool:=if h:re.ctorIdx=2 then PySem.Expr.BinOp.elim (motive_1:=fun _=>Bool) re h q else false
theorem onBinOp_idx {re:PySem.Expr}{q:Expr->Operator->Expr->Pos->Bool}(h:onBinOp re q=true):re.ctorIdx=2:=Classical.byContradiction fun hk=>by rw [onBinOp,dif_neg hk] at h;cases h
theorem onBinOp_ok {re:PySem.Expr}{q:Expr->Operator->Expr->Pos->Bool}{P:Prop}(h:onBinOp re q=true) (k:∀ l o r p,re=.BinOp l o r p->q l o r p=true->P):P:=by
 have hk:=onBinOp_idx h
 revert h k
 exact PySem.Expr.BinOp.elim (motive_1:=fun re=>onBinOp re q=true->(∀ l o r p,re=.BinOp l o r p->q l o r p=true->P)->P) re hk (fun l o r p h k=>k l o r p rfl h)
noncomputable def onUnary (re:PySem.Expr) (q:UnaryOp->Expr->Pos->Bool):Bool:=if h:re.ctorIdx=3 then PySem.Expr.UnaryOp.elim (motive_1:=fun _=>Bool) re h q else false
theorem onUnary_idx {re:PySem.Expr}{q:UnaryOp->Expr->Pos->Bool}(h:onUnary re q=true):re.ctorIdx=3:=Classical.byContradiction fun hk=>by rw [onUnary,dif_neg hk] at h;cases h
theorem onUnary_ok {re:PySem.Expr}{q:UnaryOp->Expr->Pos->Bool}{P:Prop}(h:onUnary re q=true) (k:∀ o e p,re=.UnaryOp o e p->q o e p=true->P):P:=by
 have hk:=onUnary_idx h
 revert h k
 exact PySem.Expr.UnaryOp.elim (motive_1:=fun re=>onUnary re q=true->(∀ o e p,re=.UnaryOp o e p->q o e p=true->P)->P) re hk (fun o e p h k=>k o e p rfl h)
noncomputable def onComp (re:PySem.Expr) (q:Expr->List Comprehension->Scope->Pos->Bool):Bool:=if h:re.ctorIdx=8 then PySem.Expr.ListComp.elim (motive_1:=fun _=>Bool) re h q else false
theorem onComp_idx {re:PySem.Expr}{q:Expr->List Comprehension->Scope->Pos->Bool}(h:onComp re q=true):re.ctorIdx=8:=Classical.byContradiction fun hk=>by rw [onComp,dif_neg hk] at h;cases h
theorem onComp_ok {re:PySem.Expr}{q:Expr->List Comprehension->Scope->Pos->Bool}{P:Prop}(h:onComp re q=true) (k:∀ e g sc p,re=.ListComp e g sc p->q e g sc p=true->P):P:=by
 have hk:=onComp_idx h
 revert h k
 exact PySem.Expr.ListComp.elim (motive_1:=fun re=>onComp re q=true->(∀ e g sc p,re=.ListComp e g sc p->q e g sc p=true->P)->P) re hk (fun e g sc p h k=>k e g sc p rfl h)
noncomputable def onCompare (re:PySem.Expr) (q:Expr->List CmpOp->List Expr->Pos->Bool):Bool:=if h:re.ctorIdx=15 then PySem.Expr.Compare.elim (motive_1:=fun _=>Bool) re h q else false
theorem onCompare_idx {re:PySem.Expr}{q:Expr->List CmpOp->List Expr->Pos->Bool}(h:onCompare re q=true):re.ctorIdx=15:=Classical.byContradiction fun hk=>by rw [onCompare,dif_neg hk] at h;cases h
theorem onCompare_ok {re:PySem.Expr}{q:Expr->List CmpOp->List Expr->Pos->Bool}{P:Prop}(h:onCompare re q=true) (k:∀ l os rs p,re=.Compare l os rs p->q l os rs p=true->P):P:=by
 have hk:=onCompare_idx h
 revert h k
 exact PySem.Expr.Compare.elim (motive_1:=fun re=>onCompare re q=true->(∀ l os rs p,re=.Compare l os rs p->q l os rs p=true->P)->P) re hk (fun l os rs p h k=>k l os rs p rfl h)
noncomputable def onCall (re:PySem.Expr) (q:Expr->List Expr->List Keyword->Pos->Bool):Bool:=if h:re.ctorIdx=16 then PySem.Expr.Call.elim (motive_1:=fun _=>Bool) re h q else false
theorem onCall_idx {re:PySem.Expr}{q:Expr->List Expr->List Keyword->Pos->Bool}(h:onCall re q=true):re.ctorIdx=16:=Classical.byContradiction fun hk=>by rw [onCall,dif_neg hk] at h;cases h
theorem onCall_ok {re:PySem.Expr}{q:Expr->List Expr->List Keyword->Pos->Bool}{P:Prop}(h:onCall re q=true) (k:∀ f as ks p,re=.Call f as ks p->q f as ks p=true->P):P:=by
 have hk:=onCall_idx h
 revert h k
 exact PySem.Expr.Call.elim (motive_1:=fun re=>onCall re q=true->(∀ f as ks p,re=.Call f as ks p->q f as ks p=true->P)->P) re hk (fun f as ks p h k=>k f as ks p rfl h)
noncomputable def onConst (re:PySem.Expr) (q:Const->Nat->Pos->Bool):Bool:=if h:re.ctorIdx=19 then PySem.Expr.Constant.elim (motive_1:=fun _=>Bool) re h q else false
theorem onConst_idx {re:PySem.Expr}{q:Const->Nat->Pos->Bool}(h:onConst re q=true):re.ctorIdx=19:=Classical.byContradiction fun hk=>by rw [onConst,dif_neg hk] at h;cases h
theorem onConst_ok {re:PySem.Expr}{q:Const->Nat->Pos->Bool}{P:Prop}(h:onConst re q=true) (k:∀ c u p,re=.Constant c u p->q c u p=true->P):P:=by
 have hk:=onConst_idx h
 revert h k
 exact PySem.Expr.Constant.elim (motive_1:=fun re=>onConst re q=true->(∀ c u p,re=.Constant c u p->q c u p=true->P)->P) re hk (fun c u p h k=>k c u p rfl h)
noncomputable def onAttr (re:PySem.Expr) (q:Expr->Str->Pos->Bool):Bool:=if h:re.ctorIdx=20 then PySem.Expr.Attribute.elim (motive_1:=fun _=>Bool) re h q else false
theorem onAttr_idx {re:PySem.Expr}{q:Expr->Str->Pos->Bool}(h:onAttr re q=true):re.ctorIdx=20:=Classical.byContradiction fun hk=>by rw [onAttr,dif_neg hk] at h;cases h
theorem onAttr_ok {re:PySem.Expr}{q:Expr->Str->Pos->Bool}{P:Prop}(h:onAttr re q=true) (k:∀ e a p,re=.Attribute e a p->q e a p=true->P):P:=by
 have hk:=onAttr_idx h
 revert h k
 exact PySem.Expr.Attribute.elim (motive_1:=fun re=>onAttr re q=true->(∀ e a p,re=.Attribute e a p->q e a p=true->P)->P) re hk (fun e a p h k=>k e a p rfl h)
noncomputable def onSub (re:PySem.Expr) (q:Expr->Expr->Pos->Bool):Bool:=if h:re.ctorIdx=21 then PySem.Expr.Subscript.elim (motive_1:=fun _=>Bool) re h q else false
theorem onSub_idx {re:PySem.Expr}{q:Expr->Expr->Pos->Bool}(h:onSub re q=true):re.ctorIdx=21:=Classical.byContradiction fun hk=>by rw [onSub,dif_neg hk] at h;cases h
theorem onSub_ok {re:PySem.Expr}{q:Expr->Expr->Pos->Bool}{P:Prop}(h:onSub re q=true) (k:∀ e i p,re=.Subscript e i p->q e i p=true->P):P:=by
 have hk:=onSub_idx h
 revert h k
 exact PySem.Expr.Subscript.elim (motive_1:=fun re=>onSub re q=true->(∀ e i p,re=.Subscript e i p->q e i p=true->P)->P) re hk (fun e i p h k=>k e i p rfl h)
noncomputable def onName (re:PySem.Expr) (q:Str->Pos->Bool):Bool:=if h:re.ctorIdx=23 then PySem.Expr.Name.elim (motive_1:=fun _=>Bool) re h q else false
theorem onName_idx {re:PySem.Expr}{q:Str->Pos->Bool}(h:onName re q=true):re.ctorIdx=23:=Classical.byContradiction fun hk=>by rw [onName,dif_neg hk] at h;cases h
theorem onName_ok {re:PySem.Expr}{q:Str->Pos->Bool}{P:Prop}(h:onName re q=true) (k:∀ i p,re=.Name i p->q i p=true->P):P:=by
 have hk:=onName_idx h
 revert h k
 exact PySem.Expr.Name.elim (motive_1:=fun re=>onName re q=true->(∀ i p,re=.Name i p->q i p=true->P)->P) re hk (fun i p h k=>k i p rfl h)
noncomputable def onList (re:PySem.Expr) (q:List Expr->Pos->Bool):Bool:=if h:re.ctorIdx=24 then PySem.Expr.List.elim (motive_1:=fun _=>Bool) re h q else false
theorem onList_idx {re:PySem.Expr}{q:List Expr->Pos->Bool}(h:onList re q=true):re.ctorIdx=24:=Classical.byContradiction fun hk=>by rw [onList,dif_neg hk] at h;cases h
theorem onList_ok {re:PySem.Expr}{q:List Expr->Pos->Bool}{P:Prop}(h:onList re q=true) (k:∀ es p,re=.List es p->q es p=true->P):P:=by
 have hk:=onList_idx h
 revert h k
 exact PySem.Expr.List.elim (motive_1:=fun re=>onList re q=true->(∀ es p,re=.List es p->q es p=true->P)->P) re hk (fun es p h k=>k es p rfl h)
noncomputable def onTuple (re:PySem.Expr) (q:List Expr->Nat->Pos->Bool):Bool:=if h:re.ctorIdx=25 then PySem.Expr.Tuple.elim (motive_1:=fun _=>Bool) re h q else false
theorem onTuple_idx {re:PySem.Expr}{q:List Expr->Nat->Pos->Bool}(h:onTuple re q=true):re.ctorIdx=25:=Classical.byContradiction fun hk=>by rw [onTuple,dif_neg hk] at h;cases h
theorem onTuple_ok {re:PySem.Expr}{q:List Expr->Nat->Pos->Bool}{P:Prop}(h:onTuple re q=true) (k:∀ es u p,re=.Tuple es u p->q es u p=true->P):P:=by
 have hk:=onTuple_idx h
 revert h k
 exact PySem.Expr.Tuple.elim (motive_1:=fun re=>onTuple re q=true->(∀ es u p,re=.Tuple es u p->q es u p=true->P)->P) re hk (fun es u p h k=>k es u p rfl h)
noncomputable def onSlice (re:PySem.Expr) (q:Option Expr->Option Expr->Option Expr->Pos->Bool):Bool:=if h:re.ctorIdx=26 then PySem.Expr.Slice.elim (motive_1:=fun _=>Bool) re h q else false
theorem onSlice_idx {re:PySem.Expr}{q:Option Expr->Option Expr->Option Expr->Pos->Bool}(h:onSlice re q=true):re.ctorIdx=26:=Classical.byContradiction fun hk=>by rw [onSlice,dif_neg hk] at h;cases h
theorem onSlice_ok {re:PySem.Expr}{q:Option Expr->Option Expr->Option Expr->Pos->Bool}{P:Prop}(h:onSlice re q=true) (k:∀ l u st p,re=.Slice l u st p->q l u st p=true->P):P:=by
 have hk:=onSlice_idx h
 revert h k
 exact PySem.Expr.Slice.elim (motive_1:=fun re=>onSlice re q=true->(∀ l u st p,re=.Slice l u st p->q l u st p=true->P)->P) re hk (fun l u st p h k=>k l u st p rfl h)
noncomputable def onReturn (re:PySem.Stmt) (q:Option Expr->Pos->Bool):Bool:=if h:re.ctorIdx=3 then PySem.Stmt.Return.elim (motive_2:=fun _=>Bool) re h q else false
theorem onReturn_idx {re:PySem.Stmt}{q:Option Expr->Pos->Bool}(h:onReturn re q=true):re.ctorIdx=3:=Classical.byContradiction fun hk=>by rw [onReturn,dif_neg hk] at h;cases h
theorem onReturn_ok {re:PySem.Stmt}{q:Option Expr->Pos->Bool}{P:Prop}(h:onReturn re q=true) (k:∀ v p,re=.Return v p->q v p=true->P):P:=by
 have hk:=onReturn_idx h
 revert h k
 exact PySem.Stmt.Return.elim (motive_2:=fun re=>onReturn re q=true->(∀ v p,re=.Return v p->q v p=true->P)->P) re hk (fun v p h k=>k v p rfl h)
noncomputable def onAssign (re:PySem.Stmt) (q:List Expr->Expr->Pos->Bool):Bool:=if h:re.ctorIdx=5 then PySem.Stmt.Assign.elim (motive_2:=fun _=>Bool) re h q else false
theorem onAssign_idx {re:PySem.Stmt}{q:List Expr->Expr->Pos->Bool}(h:onAssign re q=true):re.ctorIdx=5:=Classical.byContradiction fun hk=>by rw [onAssign,dif_neg hk] at h;cases h
theorem onAssign_ok {re:PySem.Stmt}{q:List Expr->Expr->Pos->Bool}{P:Prop}(h:onAssign re q=true) (k:∀ ts v p,re=.Assign ts v p->q ts v p=true->P):P:=by
 have hk:=onAssign_idx h
 revert h k
 exact PySem.Stmt.Assign.elim (motive_2:=fun re=>onAssign re q=true->(∀ ts v p,re=.Assign ts v p->q ts v p=true->P)->P) re hk (fun ts v p h k=>k ts v p rfl h)
noncomputable def onFor (re:PySem.Stmt) (q:Expr->Expr->List Stmt->List Stmt->Pos->Bool):Bool:=if h:re.ctorIdx=9 then PySem.Stmt.For.elim (motive_2:=fun _=>Bool) re h q else false
theorem onFor_idx {re:PySem.Stmt}{q:Expr->Expr->List Stmt->List Stmt->Pos->Bool}(h:onFor re q=true):re.ctorIdx=9:=Classical.byContradiction fun hk=>by rw [onFor,dif_neg hk] at h;cases h
theorem onFor_ok {re:PySem.Stmt}{q:Expr->Expr->List Stmt->List Stmt->Pos->Bool}{P:Prop}(h:onFor re q=true) (k:∀ t i b o p,re=.For t i b o p->q t i b o p=true->P):P:=by
 have hk:=onFor_idx h
 revert h k
 exact PySem.Stmt.For.elim (motive_2:=fun re=>onFor re q=true->(∀ t i b o p,re=.For t i b o p->q t i b o p=true->P)->P) re hk (fun t i b o p h k=>k t i b o p rfl h)
noncomputable def onWhile (re:PySem.Stmt) (q:Expr->List Stmt->List Stmt->Pos->Bool):Bool:=if h:re.ctorIdx=11 then PySem.Stmt.While.elim (motive_2:=fun _=>Bool) re h q else false
theorem onWhile_idx {re:PySem.Stmt}{q:Expr->List Stmt->List Stmt->Pos->Bool}(h:onWhile re q=true):re.ctorIdx=11:=Classical.byContradiction fun hk=>by rw [onWhile,dif_neg hk] at h;cases h
theorem onWhile_ok {re:PySem.Stmt}{q:Expr->List Stmt->List Stmt->Pos->Bool}{P:Prop}(h:onWhile re q=true) (k:∀ t b o p,re=.While t b o p->q t b o p=true->P):P:=by
 have hk:=onWhile_idx h
 revert h k
 exact PySem.Stmt.While.elim (motive_2:=fun re=>onWhile re q=true->(∀ t b o p,re=.While t b o p->q t b o p=true->P)->P) re hk (fun t b o p h k=>k t b o p rfl h)
noncomputable def onIf (re:PySem.Stmt) (q:Expr->List Stmt->List Stmt->Pos->Bool):Bool:=if h:re.ctorIdx=12 then PySem.Stmt.If.elim (motive_2:=fun _=>Bool) re h q else false
theorem onIf_idx {re:PySem.Stmt}{q:Expr->List Stmt->List Stmt->Pos->Bool}(h:onIf re q=true):re.ctorIdx=12:=Classical.byContradiction fun hk=>by rw [onIf,dif_neg hk] at h;cases h
theorem onIf_ok {re:PySem.Stmt}{q:Expr->List Stmt->List Stmt->Pos->Bool}{P:Prop}(h:onIf re q=true) (k:∀ t b o p,re=.If t b o p->q t b o p=true->P):P:=by
 have hk:=onIf_idx h
 revert h k
 exact PySem.Stmt.If.elim (motive_2:=fun re=>onIf re q=true->(∀ t b o p,re=.If t b o p->q t b o p=true->P)->P) re hk (fun t b o p h k=>k t b o p rfl h)
noncomputable def onRaise (re:PySem.Stmt) (q:Option Expr->Option Expr->Pos->Bool):Bool:=if h:re.ctorIdx=16 then PySem.Stmt.Raise.elim (motive_2:=fun _=>Bool) re h q else false
noncomputable def onExpr (re:PySem.Stmt) (q:Expr->Pos->Bool):Bool:=if h:re.ctorIdx=24 then PySem.Stmt.Expr.elim (motive_2:=fun _=>Bool) re h q else false
theorem onExpr_idx {re:PySem.Stmt}{q:Expr->Pos->Bool}(h:onExpr re q=true):re.ctorIdx=24:=Classical.byContradiction fun hk=>by rw [onExpr,dif_neg hk] at h;cases h
theorem onExpr_ok {re:PySem.Stmt}{q:Expr->Pos->Bool}{P:Prop}(h:onExpr re q=true) (k:∀ v p,re=.Expr v p->q v p=true->P):P:=by
 have hk:=onExpr_idx h
 revert h k
 exact PySem.Stmt.Expr.elim (motive_2:=fun re=>onExpr re q=true->(∀ v p,re=.Expr v p->q v p=true->P)->P) re hk (fun v p h k=>k v p rfl h)
noncomputable def onPass (re:PySem.Stmt) (q:Pos->Bool):Bool:=if h:re.ctorIdx=25 then PySem.Stmt.Pass.elim (motive_2:=fun _=>Bool) re h q else false
theorem onPass_idx {re:PySem.Stmt}{q:Pos->Bool}(h:onPass re q=true):re.ctorIdx=25:=Classical.byContradiction fun hk=>by rw [onPass,dif_neg hk] at h;cases h
theorem onPass_ok {re:PySem.Stmt}{q:Pos->Bool}{P:Prop}(h:onPass re q=true) (k:∀ p,re=.Pass p->q p=true->P):P:=by
 have hk:=onPass_idx h
 revert h k
 exact PySem.Stmt.Pass.elim (motive_2:=fun re=>onPass re q=true->(∀ p,re=.Pass p->q p=true->P)->P) re hk (fun p h k=>k p rfl h)
noncomputable def onContinue (re:PySem.Stmt) (q:Pos->Bool):Bool:=if h:re.ctorIdx=27 then PySem.Stmt.Continue.elim (motive_2:=fun _=>Bool) re h q else false
theorem onContinue_idx {re:PySem.Stmt}{q:Pos->Bool}(h:onContinue re q=true):re.ctorIdx=27:=Classical.byContradiction fun hk=>by rw [onContinue,dif_neg hk] at h;cases h
theorem onContinue_ok {re:PySem.Stmt}{q:Pos->Bool}{P:Prop}(h:onContinue re q=true) (k:∀ p,re=.Continue p->q p=true->P):P:=by
 have hk:=onContinue_idx h
 revert h k
 exact PySem.Stmt.Continue.elim (motive_2:=fun re=>onContinue re q=true->(∀ p,re=.Continue p->q p=true->P)->P) re hk (fun p h k=>k p rfl h)
end Mini
namespace Mini
open PySem (Expr Stmt Str NameKind Scope Const Operator CmpOp BoolOp UnaryOp Arguments Comprehension Keyword Pos)
structure Gl where
 intL:List (String×Int)
 fns:List (String×List Nat)
 lits:List Nat:=[]
 pos:Bool:=true
noncomputable def isLoc (sc:List (Str×NameKind)) (id:Str):Bool:=match sc.lookup id with
 | some .local=>true
 | some .cell=>true
 | some .free=>true
 | _=>false
noncomputable def isGlob (sc:List (Str×NameKind)) (id:Str):Bool:=match sc.lookup id with
 | some .globalImplicit=>true
 | _=>false
noncomputable def noDebug (id:Str):Bool:=!(id==("__debug__" : Str))&&!(id==("__classdict__" : Str))
noncomputable def strIs (s:List Nat) (x:Str):Bool:=s==x.cps.toList
noncomputable def isName (sc:List (Str×NameKind)) (n:String) (e:Expr):Bool:=onName e fun id _=>id==Str.ofString n&&isGlob sc id
noncomputable def one? {α:Type}(l:List α) (q:α->Bool):Bool:=match l with
 | [x]=>q x
 | _=>false
theorem one_ok {α:Type}{l:List α}{q:α->Bool}(h:one? l q=true) {P:Prop}(k:∀ x,l=[x]->q x=true->P):P:=by
 match l,h,k with
 | [x],h,k=>exact k x rfl h
noncomputable def two? {α:Type}(l:List α) (q:α->α->Bool):Bool:=match l with
 | [x,y]=>q x y
 | _=>false
theorem two_ok {α:Type}{l:List α}{q:α->α->Bool}(h:two? l q=true) {P:Prop}(k:∀ x y,l=[x,y]->q x y=true->P):P:=by
 match l,h,k with
 | [x,y],h,k=>exact k x y rfl h
theorem nil_ok {α:Type}{l:List α}(h:l.isEmpty=true):l=[]:=List.isEmpty_iff.mp h
theorem and_ok {a b:Bool}(h:(a&&b)=true):a=true/\b=true:=by
 cases a
 ·cases h
 ·exact ⟨rfl,h⟩
noncomputable def some? {α:Type}(o:Option α) (q:α->Bool):Bool:=match o with
 | some x=>q x
 | none=>false
theorem some_ok {α:Type}{o:Option α}{q:α->Bool}(h:some? o q=true) {P:Prop}(k:∀ x,o=some x->q x=true->P):P:=by
 match o,h,k with
 | some x,h,k=>exact k x rfl h
theorem none_ok {α:Type}{o:Option α}(h:o.isNone=true):o=none:=by
 match o,h with
 | none,_=>rfl
noncomputable def isNoneC:Const->Bool
 | .none=>true
 | _=>false
noncomputable def isBoolC (b:Bool):Const->Bool
 | .bool c=>b==c
 | _=>false
noncomputable def isIntC (i:Int):Const->Bool
 | .int j=>i==j
 | _=>false
noncomputable def isStrC (s:List Nat):Const->Bool
 | .str x=>strIs s x&&decide (s.length<=lim)
 | _=>false
theorem isNoneC_ok {c:Const}(h:isNoneC c=true):c=.none:=by
 cases c with
 | none=>rfl
 | _=>exact nomatch (show false=true from h)
theorem isBoolC_ok {b:Bool}{c:Const}(h:isBoolC b c=true):c=.bool b:=by
 cases c with
 | bool x=>exact congrArg _ (eq_of_beq h).symm
 | _=>exact nomatch (show false=true from h)
theorem isIntC_ok {i:Int}{c:Const}(h:isIntC i c=true):c=.int i:=by
 cases c with
 | int x=>exact congrArg _ (eq_of_beq h).symm
 | _=>exact nomatch (show false=true from h)
theorem isStrC_ok {s:List Nat}{c:Const}(h:isStrC s c=true) {P:Prop}(k:∀ x,c=.str x->s=x.cps.toList->s.length<=lim->P):P:=by
 cases c with
 | str x=>exact k _ rfl (eq_of_beq (and_ok h).1) (of_decide_eq_true (and_ok h).2)
 | _=>exact nomatch (show false=true from h)
noncomputable def recv (e:Expr):Bool:=!(onCall e fun _ as ks _=>as.isEmpty&&ks.isEmpty)
noncomputable def isText (e:E):Bool:=e.ctorIdx==3
noncomputable def callOk (gl:Gl) (f:String) (es:List E):Bool:=match gl.fns.lookup f with
 | some l=>(gl.pos||l.isEmpty)&&l.all fun j=>(es[j]?).any isText
 | none=>false
noncomputable def isLit (gl:Gl) (e:E):Bool:=(isText e&&gl.pos)||(if h:e.ctorIdx=4 then E.var.elim (motive_1:=fun _=>Bool) e h fun x=>gl.lits.contains x else false)
noncomputable def opOf:Op->Operator
 | .add=>.Add
 | .sub=>.Sub
 | .mul=>.Mult
 | .fdiv=>.FloorDiv
 | .mod=>.Mod
 | .pow=>.Pow
noncomputable def opIs (o:Op) (o':Operator):Bool:=o'==opOf o
noncomputable def cmpOf:Cmp->CmpOp
 | .eq=>.Eq
 | .ne=>.NotEq
 | .lt=>.Lt
 | .le=>.LtE
 | .gt=>.Gt
 | .ge=>.GtE
 | .isin=>.In
 | .notin=>.NotIn
noncomputable def cmpIs (o:Cmp) (o':CmpOp):Bool:=o'==cmpOf o
noncomputable def cstC:Cst->Const->Bool
 | .none=>isNoneC
 | .tt=>isBoolC true
 | .ff=>isBoolC false
noncomputable def cstIs (c:Cst) (e:Expr):Bool:=onConst e fun k _ _=>cstC c k
noncomputable def tyName:Ty->String
 | .str => "str"
 | .int => "int"
 | .bool => "bool"
 | .list => "list"
 | .tuple => "tuple"
noncomputable def relab (sc names:List (Str×NameKind)):List (Str×NameKind) :=
 names.map fun (n,k)=>if k==.free&&sc.lookup n==some .cell then (n,.cell) else (n,k)
noncomputable def compScope (sc:List (Str×NameKind)) (nm:List Str) (id:Str) (scope:Scope):Bool :=
 scope.kind==.function&&scope.names.lookup id==some .local &&
 scope.names.all (fun x=>x.2 != .cell&&(x.2 != .local||(scope.names.lookup x.1==some .local&&(x.1==id||!nm.contains x.1)))) &&
 scope.names.all (fun x=>x.2 != .free||(nm.contains x.1&&(sc.lookup x.1==some .cell||sc.lookup x.1==some .free)))
theorem call_eq {f:Expr}{as as':List Expr}{ks:List Keyword}{p:Pos}(h1:as=as') (h2:ks=[]):Expr.Call f as ks p=.Call f as' [] p:=by rw [h1,h2]
theorem cmp_eq {l:Expr}{os os':List CmpOp}{rs rs':List Expr}{p:Pos}(h1:os=os') (h2:rs=rs'):Expr.Compare l os rs p=.Compare l os' rs' p:=by rw [h1,h2]
theorem slc_eq {o i:Expr}{a a' b b' c:Option Expr}{p q:Pos}(h:i=.Slice a b c q) (h1:a=a') (h2:b=b') (h3:c=none):Expr.Subscript o i p=.Subscript o (.Slice a' b' none q) p:=by rw [h,h1,h2,h3]
noncomputable def onF1 (sc:List (Str×NameKind)) (n:String) (re:Expr) (q:Expr->Bool):Bool:=onCall re fun f as ks _=>isName sc n f&&ks.isEmpty&&one? as q
theorem onF1_ok {sc n re q}(h0:onF1 sc n re q=true) {P:Prop}(k:∀ f e p,re=.Call f [e] [] p->isName sc n f=true->q e=true->P):P :=
 onCall_ok h0 fun f _ _ p e1 h=>one_ok (and_ok h).2 fun e e3 h3=>k f e p (e1.trans (call_eq e3 (nil_ok (and_ok (and_ok h).1).2))) (and_ok (and_ok h).1).1 h3
noncomputable def onM (n:String) (re:Expr) (q:Expr->List Expr->Bool):Bool:=onCall re fun f as ks p=>ks.isEmpty&&onAttr f fun o a ap=>a==Str.ofString n&&ap.endLine==p.line&&recv o&&q o as
theorem onM_ok {n re q}(h0:onM n re q=true) {P:Prop}(k:∀ o as ap p,re=.Call (.Attribute o (Str.ofString n) ap) as [] p->(ap.endLine==p.line)=true->recv o=true->q o as=true->P):P :=
 onCall_ok h0 fun _ as _ p e1 h=>onAttr_ok (and_ok h).2 fun o _ ap e2 h4 =>
  k o as ap p (e1.trans (by rw [e2,eq_of_beq (and_ok (and_ok (and_ok h4).1).1).1,nil_ok (and_ok h).1])) (and_ok (and_ok (and_ok h4).1).1).2 (and_ok (and_ok h4).1).2 (and_ok h4).2
noncomputable def onGen (g:List Comprehension) (q:Str->Expr->List Expr->Bool):Bool:=one? g fun c=>c.is_async==0&&onName c.target fun id _=>q id c.iter c.ifs
theorem onGen_ok {g q}(h:onGen g q=true) {P:Prop}(k:∀ id p it ifs,g=[⟨.Name id p,it,ifs,0⟩]->q id it ifs=true->P):P :=
 one_ok h fun c e0 h=>onName_ok (and_ok h).2 fun id p e h2=>k id p c.iter c.ifs (e0.trans (by
  have e3:c.is_async=0:=eq_of_beq (and_ok h).1
  obtain ⟨t,it,ifs,n⟩:=c
  obtain rfl:t=_:=e
  obtain rfl:n=0:=e3
  rfl)) h2
mutual
noncomputable def chkE (gl:Gl) (sc:List (Str×NameKind)) (nm:List Str):E->Expr->Bool
 | .none,re=>onConst re fun c _ _=>isNoneC c
 | .bool b,re=>onConst re fun c _ _=>isBoolC b c
 | .int i,re=>onConst re fun c _ _=>isIntC i c
 | .str s,re=>onConst re fun c _ _=>isStrC s c
 | .var x,re=>onName re fun id _=>nm[x]? == some id&&isLoc sc id&&noDebug id
 | .glob g i,re=>onName re fun id _=>id==Str.ofString g&&gl.intL.contains (g,i)&&isGlob sc id&&noDebug id
 | .bin o l r,re=>onBinOp re fun l' o' r' _=>opIs o o'&&chkE gl sc nm l l'&&chkE gl sc nm r r'
 | .neg i,re=>onUnary re fun o e _=>o==.USub&&onConst e fun c _ _=>isIntC i c
 | .cmp o l r,re=>onCompare re fun l' os rs _=>one? os fun o'=>one? rs fun r'=>cmpIs o o'&&chkE gl sc nm l l'&&chkE gl sc nm r r'
 | .cmp2 o p a b c,re=>onCompare re fun a' os rs _=>two? os fun o' p'=>two? rs fun b' c'=>cmpIs o o'&&cmpIs p p'&&chkE gl sc nm a a'&&chkE gl sc nm b b'&&chkE gl sc nm c c'
 | .is e c,re=>onCompare re fun e' os rs _=>one? os fun o'=>one? rs fun r=>o'==.Is&&(chkE gl sc nm e e'&&cstIs c r)
 | .isnot e c,re=>onCompare re fun e' os rs _=>one? os fun o'=>one? rs fun r=>o'==.IsNot&&(chkE gl sc nm e e'&&cstIs c r)
 | .and es,re=>onBoolOp re fun o es' _=>o==.And&&chkEs gl sc nm es es'
 | .or es,re=>onBoolOp re fun o es' _=>o==.Or&&chkEs gl sc nm es es'
 | .not e,re=>onUnary re fun o e' _=>o==.Not&&chkE gl sc nm e e'
 | .idx o i,re=>onSub re fun o' i' _=>chkE gl sc nm o o'&&chkE gl sc nm i i'
 | .slc o l h,re=>onSub re fun o' i' _=>onSlice i' fun a b c _=>c.isNone&&some? a fun l'=>some? b fun h'=>chkE gl sc nm o o'&&chkE gl sc nm l l'&&chkE gl sc nm h h'
 | .slcL o l,re=>onSub re fun o' i' _=>onSlice i' fun a b c _=>b.isNone&&c.isNone&&some? a fun l'=>chkE gl sc nm o o'&&chkE gl sc nm l l'
 | .slcH o h,re=>onSub re fun o' i' _=>onSlice i' fun a b c _=>a.isNone&&c.isNone&&some? b fun h'=>chkE gl sc nm o o'&&chkE gl sc nm h h'
 | .call f es,re=>onCall re fun g es' ks _=>ks.isEmpty&&onName g fun id _=>id==Str.ofString f&&callOk gl f es&&isGlob sc id&&noDebug id&&chkEs gl sc nm es es'
 | .isinst e t,re=>onCall re fun fn as ks _=>ks.isEmpty&&two? as fun e' ty=>isName sc "isinstance" fn&&isName sc (tyName t) ty&&chkE gl sc nm e e'
 | .len e,re=>onF1 sc "len" re fun e'=>chkE gl sc nm e e'
 | .toInt e,re=>onF1 sc "int" re fun e'=>chkE gl sc nm e e'
 | .ord e,re=>onF1 sc "ord" re fun e'=>chkE gl sc nm e e'
 | .append o e,re=>onM "append" re fun o' as=>one? as fun e'=>chkE gl sc nm o o'&&chkE gl sc nm e e'
 | .extend o e,re=>onM "extend" re fun o' as=>one? as fun e'=>chkE gl sc nm o o'&&chkE gl sc nm e e'
 | .pop o,re=>onM "pop" re fun o' as=>as.isEmpty&&chkE gl sc nm o o'
 | .find o x y,re=>onM "find" re fun o' as=>two? as fun x' y'=>chkE gl sc nm o o'&&chkE gl sc nm x x'&&chkE gl sc nm y y'
 | .replace o x y,re=>onM "replace" re fun o' as=>two? as fun x' y'=>isLit gl x&&isText y&&chkE gl sc nm o o'&&chkE gl sc nm x x'&&chkE gl sc nm y y'
 | .join o x,re=>onM "join" re fun o' as=>one? as fun x'=>chkE gl sc nm o o'&&chkE gl sc nm x x'
 | .lstrip o x,re=>onM "lstrip" re fun o' as=>one? as fun x'=>chkE gl sc nm o o'&&chkE gl sc nm x x'
 | .list es,re=>onList re fun es' _=>chkEs gl sc nm es es'&&decide (es.length<=lim)
 | .tup es,re=>onTuple re fun es' _ _=>chkEs gl sc nm es es'&&decide (es.length<=lim)
 | .comp elt x src ifs,re=>onComp re fun elt' g scope _=>onGen g fun id it ifs'=>nm[x]? == some id&&!gl.lits.contains x&&compScope sc nm id scope&&chkE gl sc nm src it &&
   chkE gl (relab sc scope.names) nm elt elt'&&chkEs gl (relab sc scope.names) nm ifs ifs'
 | .compR elt x n ifs,re=>onComp re fun elt' g scope _=>onGen g fun id it ifs'=>onF1 sc "range" it fun n'=>nm[x]? == some id&&!gl.lits.contains x&&compScope sc nm id scope&&chkE gl sc nm n n' &&
   chkE gl (relab sc scope.names) nm elt elt'&&chkEs gl (relab sc scope.names) nm ifs ifs'
noncomputable def chkEs (gl:Gl) (sc:List (Str×NameKind)) (nm:List Str):List E->List Expr->Bool
 | [],es'=>es'.isEmpty
 | e::es,es'=>match es' with
  | []=>false
  | e'::es'=>chkE gl sc nm e e'&&chkEs gl sc nm es es'
end
noncomputable def notComp (e:E):Bool:=!(e.ctorIdx==33||e.ctorIdx==34)
mutual
noncomputable def chkS (gl:Gl) (sc:List (Str×NameKind)) (nm:List Str):S->Stmt->Bool
 | .assign x e,re=>onAssign re fun ts e' _=>one? ts fun t=>onName t fun id _=>nm[x]? == some id&&isLoc sc id&&sc.lookup id != some .free&&!gl.lits.contains x&&chkE gl sc nm e e'
 | .setIdx o i e,re=>onAssign re fun ts e' _=>one? ts fun t=>onSub t fun o' i' _=>chkE gl sc nm o o'&&chkE gl sc nm i i'&&chkE gl sc nm e e'
 | .expr e,re=>onExpr re fun e' _=>notComp e&&chkE gl sc nm e e'
 | .ite c t f,re=>onIf re fun c' t' f' _=>chkE gl sc nm c c'&&chkSs gl sc nm t t'&&chkSs gl sc nm f f'
 | .whl c b,re=>onWhile re fun c' b' o _=>o.isEmpty&&(chkE gl sc nm c c'&&chkSs gl sc nm b b')
 | .forIn x e b,re=>onFor re fun t e' b' o _=>o.isEmpty&&onName t fun id _=>nm[x]? == some id&&isLoc sc id&&sc.lookup id != some .free&&!gl.lits.contains x&&chkE gl sc nm e e'&&chkSs gl sc nm b b'
 | .forR x e b,re=>onFor re fun t it b' o _=>o.isEmpty&&onName t fun id _=>onF1 sc "range" it fun e'=>nm[x]? == some id&&isLoc sc id&&sc.lookup id != some .free&&!gl.lits.contains x&&chkE gl sc nm e e'&&chkSs gl sc nm b b'
 | .ret e,re=>onReturn re fun v _=>some? v fun e'=>chkE gl sc nm e e'
 | .retNone,re=>onReturn re fun v _=>v.isNone
 | .cont,re=>onContinue re fun _=>true
 | .pass,re=>onPass re fun _=>true
 | .raise _ _,re=>onRaise re fun _ _ _=>true
noncomputable def chkSs (gl:Gl) (sc:List (Str×NameKind)) (nm:List Str):List S->List Stmt->Bool
 | [],ss'=>ss'.isEmpty
 | s::ss,ss'=>match ss' with
  | []=>false
  | s'::ss'=>chkS gl sc nm s s'&&chkSs gl sc nm ss ss'
end
section
variable {gl:Gl}{sc:List (Str×NameKind)}{nm:List Str}{re:Expr}
theorem inv_none (h:chkE gl sc nm .none re=true) {P:Prop}(k:∀ k p,re=.Constant .none k p->P):P :=
 onConst_ok h fun _ u p e h =>
 k u p (e.trans (congrArg (Expr.Constant · u p) (isNoneC_ok h)))
theorem inv_bool {b}(h:chkE gl sc nm (.bool b) re=true) {P:Prop}(k:∀ k p,re=.Constant (.bool b) k p->P):P :=
 onConst_ok h fun _ u p e h =>
 k u p (e.trans (congrArg (Expr.Constant · u p) (isBoolC_ok h)))
theorem inv_int {i}(h:chkE gl sc nm (.int i) re=true) {P:Prop}(k:∀ k p,re=.Constant (.int i) k p->P):P :=
 onConst_ok h fun _ u p e h =>
 k u p (e.trans (congrArg (Expr.Constant · u p) (isIntC_ok h)))
theorem inv_str {s}(h:chkE gl sc nm (.str s) re=true) {P:Prop}(k:∀ x k p,re=.Constant (.str x) k p->s=x.cps.toList->s.length<=lim->P):P :=
 onConst_ok h fun _ u p e h =>
 isStrC_ok h fun x e2 h h2 =>
 k x u p (e.trans (congrArg (Expr.Constant · u p) e2)) h h2
theorem inv_var {x}(h:chkE gl sc nm (.var x) re=true) {P:Prop}(k:∀ id p,re=.Name id p->(nm[x]? == some id&&isLoc sc id&&noDebug id)=true->P):P:=onName_ok h k
theorem inv_glob {g i}(h:chkE gl sc nm (.glob g i) re=true) {P:Prop}(k:∀ id p,re=.Name id p->(id==Str.ofString g&&gl.intL.contains (g,i)&&isGlob sc id&&noDebug id)=true->P):P:=onName_ok h k
theorem inv_bin {o l r}(h:chkE gl sc nm (.bin o l r) re=true) {P:Prop}(k:∀ l' o' r' p,re=.BinOp l' o' r' p->(opIs o o'&&chkE gl sc nm l l'&&chkE gl sc nm r r')=true->P):P:=onBinOp_ok h k
theorem inv_neg {i}(h:chkE gl sc nm (.neg i) re=true) {P:Prop}(k:∀ k p q,re=.UnaryOp .USub (.Constant (.int i) k p) q->P):P :=
 onUnary_ok h fun _ _ p e h =>
 onConst_ok (and_ok h).2 fun _ u q e2 h3 =>
 k u q p (e.trans (by rw [e2,isIntC_ok h3,eq_of_beq (and_ok h).1]))
theorem inv_cmp {o l r}(h:chkE gl sc nm (.cmp o l r) re=true) {P:Prop}(k:∀ l' o' r' p,re=.Compare l' [o'] [r'] p->(cmpIs o o'&&chkE gl sc nm l l'&&chkE gl sc nm r r')=true->P):P :=
 onCompare_ok h fun l' _ _ p e h =>
 one_ok h fun o' e2 h =>
 one_ok h fun r' e3 h =>
 k l' o' r' p (e.trans (cmp_eq e2 e3)) h
theorem inv_cmp2 {o p a b c}(h:chkE gl sc nm (.cmp2 o p a b c) re=true) {P:Prop}(k:∀ a' o' p' b' c' q,re=.Compare a' [o',p'] [b',c'] q->(cmpIs o o'&&cmpIs p p'&&chkE gl sc nm a a'&&chkE gl sc nm b b'&&chkE gl sc nm c c')=true->P):P :=
 onCompare_ok h fun l' _ _ q e h =>
 two_ok h fun o' p' e2 h =>
 two_ok h fun b' c' e3 h =>
 k l' o' p' b' c' q (e.trans (cmp_eq e2 e3)) h
theorem inv_is {e c}(h:chkE gl sc nm (.is e c) re=true) {P:Prop}(k:∀ e' r p,re=.Compare e' [.Is] [r] p->(chkE gl sc nm e e'&&cstIs c r)=true->P):P :=
 onCompare_ok h fun l' _ _ q e h =>
 one_ok h fun _ e2 h =>
 one_ok h fun r' e3 h =>
 k l' r' q (e.trans (cmp_eq (e2.trans (congrArg (fun x=>[x]) (eq_of_beq (and_ok h).1))) e3)) ((and_ok h).2)
theorem inv_isnot {e c}(h:chkE gl sc nm (.isnot e c) re=true) {P:Prop}(k:∀ e' r p,re=.Compare e' [.IsNot] [r] p->(chkE gl sc nm e e'&&cstIs c r)=true->P):P :=
 onCompare_ok h fun l' _ _ q e h =>
 one_ok h fun _ e2 h =>
 one_ok h fun r' e3 h =>
 k l' r' q (e.trans (cmp_eq (e2.trans (congrArg (fun x=>[x]) (eq_of_beq (and_ok h).1))) e3)) ((and_ok h).2)
theorem inv_and {es}(h:chkE gl sc nm (.and es) re=true) {P:Prop}(k:∀ es' p,re=.BoolOp .And es' p->chkEs gl sc nm es es'=true->P):P :=
 onBoolOp_ok h fun _ es' p e h =>
 k es' p (e.trans (congrArg (Expr.BoolOp · es' p) (eq_of_beq (and_ok h).1))) ((and_ok h).2)
theorem inv_or {es}(h:chkE gl sc nm (.or es) re=true) {P:Prop}(k:∀ es' p,re=.BoolOp .Or es' p->chkEs gl sc nm es es'=true->P):P :=
 onBoolOp_ok h fun _ es' p e h =>
 k es' p (e.trans (congrArg (Expr.BoolOp · es' p) (eq_of_beq (and_ok h).1))) ((and_ok h).2)
theorem inv_not {e}(h:chkE gl sc nm (.not e) re=true) {P:Prop}(k:∀ e' p,re=.UnaryOp .Not e' p->chkE gl sc nm e e'=true->P):P :=
 onUnary_ok h fun _ es' p e h =>
 k es' p (e.trans (congrArg (Expr.UnaryOp · es' p) (eq_of_beq (and_ok h).1))) ((and_ok h).2)
theorem inv_idx {o i}(h:chkE gl sc nm (.idx o i) re=true) {P:Prop}(k:∀ o' i' p,re=.Subscript o' i' p->(chkE gl sc nm o o'&&chkE gl sc nm i i')=true->P):P:=onSub_ok h k
theorem inv_slc {o l u}(h:chkE gl sc nm (.slc o l u) re=true) {P:Prop}(k:∀ o' l' h' q p,re=.Subscript o' (.Slice (some l') (some h') none q) p->(chkE gl sc nm o o'&&chkE gl sc nm l l'&&chkE gl sc nm u h')=true->P):P :=
 onSub_ok h fun o' _ p e h =>
 onSlice_ok h fun _ _ _ q e2 h =>
 some_ok (and_ok h).2 fun l' e3 h2 =>
 some_ok h2 fun h' e4 h2 =>
 k o' l' h' q p (e.trans (slc_eq e2 e3 e4 (none_ok (and_ok h).1))) h2
theorem inv_slcL {o l}(h:chkE gl sc nm (.slcL o l) re=true) {P:Prop}(k:∀ o' l' q p,re=.Subscript o' (.Slice (some l') none none q) p->(chkE gl sc nm o o'&&chkE gl sc nm l l')=true->P):P :=
 onSub_ok h fun o' _ p e h =>
 onSlice_ok h fun _ _ _ q e2 h =>
 some_ok (and_ok h).2 fun l' e3 h2 =>
 have h:=and_ok (and_ok h).1
 k o' l' q p (e.trans (slc_eq e2 e3 (none_ok h.1) (none_ok h.2))) h2
theorem inv_slcH {o u}(h:chkE gl sc nm (.slcH o u) re=true) {P:Prop}(k:∀ o' h' q p,re=.Subscript o' (.Slice none (some h') none q) p->(chkE gl sc nm o o'&&chkE gl sc nm u h')=true->P):P :=
 onSub_ok h fun o' _ p e h =>
 onSlice_ok h fun _ _ _ q e2 h =>
 some_ok (and_ok h).2 fun l' e3 h2 =>
 have h:=and_ok (and_ok h).1
 k o' l' q p (e.trans (slc_eq e2 (none_ok h.1) e3 (none_ok h.2))) h2
theorem inv_call {f es}(h:chkE gl sc nm (.call f es) re=true) {P:Prop}(k:∀ id p0 es' p,re=.Call (.Name id p0) es' [] p->(id==Str.ofString f&&callOk gl f es&&isGlob sc id&&noDebug id&&chkEs gl sc nm es es')=true->P):P :=
 onCall_ok h fun _ es' _ p e h =>
 onName_ok (and_ok h).2 fun id p0 e2 h2 =>
 k id p0 es' p ((e.trans (call_eq rfl (nil_ok (and_ok h).1))).trans (congrArg (Expr.Call · es' [] p) e2)) h2
theorem inv_isinst {e t}(h:chkE gl sc nm (.isinst e t) re=true) {P:Prop}(k:∀ fn e' ty p,re=.Call fn [e',ty] [] p->(isName sc "isinstance" fn&&isName sc (tyName t) ty&&chkE gl sc nm e e')=true->P):P :=
 onCall_ok h fun f _ _ p e h =>
 two_ok (and_ok h).2 fun e' ty e2 h2 =>
 k f e' ty p (e.trans (call_eq e2 (nil_ok (and_ok h).1))) h2
theorem m1 {n:String}{o e:E}(h:onM n re (fun o' as=>one? as fun e'=>chkE gl sc nm o o'&&chkE gl sc nm e e')=true) {P:Prop}(k:∀ o' e' ap p,re=.Call (.Attribute o' (Str.ofString n) ap) [e'] [] p->(ap.endLine==p.line)=true->recv o'=true->chkE gl sc nm o o'=true->chkE gl sc nm e e'=true->P):P :=
 onM_ok h fun o' _ ap p e1 h2 h3 h =>
 one_ok h fun e' e2 h =>
 k o' e' ap p (e1.trans (call_eq e2 rfl)) h2 h3 (and_ok h).1 (and_ok h).2
theorem inv_pop {o}(h:chkE gl sc nm (.pop o) re=true) {P:Prop}(k:∀ o' ap p,re=.Call (.Attribute o' (Str.ofString "pop") ap) [] [] p->(ap.endLine==p.line)=true->recv o'=true->chkE gl sc nm o o'=true->P):P :=
 onM_ok h fun o' _ ap p e1 h2 h3 h =>
 k o' ap p (e1.trans (call_eq (nil_ok (and_ok h).1) rfl)) h2 h3 ((and_ok h).2)
theorem inv_find {o x y}(h:chkE gl sc nm (.find o x y) re=true) {P:Prop}(k:∀ o' x' y' ap p,re=.Call (.Attribute o' (Str.ofString "find") ap) [x',y'] [] p->(ap.endLine==p.line)=true->recv o'=true->chkE gl sc nm o o'=true->chkE gl sc nm x x'=true->chkE gl sc nm y y'=true->P):P :=
 onM_ok h fun o' _ ap p e1 h2 h3 h =>
 two_ok h fun x' y' e2 h =>
 have h6:=and_ok h
 have h5:=and_ok h6.1
 k o' x' y' ap p (e1.trans (call_eq e2 rfl)) h2 h3 h5.1 h5.2 h6.2
theorem inv_replace {o x y}(h:chkE gl sc nm (.replace o x y) re=true) {P:Prop}(k:∀ o' x' y' ap p,re=.Call (.Attribute o' (Str.ofString "replace") ap) [x',y'] [] p->(ap.endLine==p.line)=true->recv o'=true->isLit gl x=true->isText y=true->chkE gl sc nm o o'=true->chkE gl sc nm x x'=true->chkE gl sc nm y y'=true->P):P :=
 onM_ok h fun o' _ ap p e1 h2 h3 h =>
 two_ok h fun x' y' e2 h =>
 have h6:=and_ok h
 have h5:=and_ok h6.1
 have h4:=and_ok h5.1
 have h7:=and_ok h4.1
 k o' x' y' ap p (e1.trans (call_eq e2 rfl)) h2 h3 h7.1 h7.2 h4.2 h5.2 h6.2
theorem inv_list {es}(h:chkE gl sc nm (.list es) re=true) {P:Prop}(k:∀ es' p,re=.List es' p->(chkEs gl sc nm es es'&&decide (es.length<=lim))=true->P):P:=onList_ok h k
theorem inv_tup {es}(h:chkE gl sc nm (.tup es) re=true) {P:Prop}(k:∀ es' k p,re=.Tuple es' k p->(chkEs gl sc nm es es'&&decide (es.length<=lim))=true->P):P:=onTuple_ok h k
theorem inv_comp {elt x src ifs}(h:chkE gl sc nm (.comp elt x src ifs) re=true) {P:Prop}(k:∀ elt' id px it ifs' scope p,re=.ListComp elt' [⟨.Name id px,it,ifs',0⟩] scope p->(nm[x]? == some id&&!gl.lits.contains x&&compScope sc nm id scope&&chkE gl sc nm src it&&chkE gl (relab sc scope.names) nm elt elt'&&chkEs gl (relab sc scope.names) nm ifs ifs')=true->P):P :=
 onComp_ok h fun elt' _ scope p e h =>
 onGen_ok h fun id px it ifs' e2 h =>
 k elt' id px it ifs' scope p (e.trans (congrArg (Expr.ListComp elt' · scope p) e2)) h
theorem inv_compR {elt x n ifs}(h:chkE gl sc nm (.compR elt x n ifs) re=true) {P:Prop}(k:∀ elt' id px fn n' pp ifs' scope p,re=.ListComp elt' [⟨.Name id px,.Call fn [n'] [] pp,ifs',0⟩] scope p->isName sc "range" fn=true->(nm[x]? == some id&&!gl.lits.contains x&&compScope sc nm id scope&&chkE gl sc nm n n'&&chkE gl (relab sc scope.names) nm elt elt'&&chkEs gl (relab sc scope.names) nm ifs ifs')=true->P):P :=
 onComp_ok h fun elt' _ scope p e h =>
 onGen_ok h fun id px it ifs' e2 h =>
 onF1_ok h fun fn n' pp e3 h1 h =>
 k elt' id px fn n' pp ifs' scope p (e.trans (congrArg (Expr.ListComp elt' · scope p) (e2.trans (congrArg (fun it=>[Comprehension.mk (.Name id px) it ifs' 0]) e3)))) h1 h
theorem inv_es_nil {es'}(h:chkEs gl sc nm [] es'=true):es'=[]:=nil_ok h
theorem inv_es_cons {e es es'}(h:chkEs gl sc nm (e::es) es'=true):∃ re rest,es'=re::rest/\chkE gl sc nm e re=true/\chkEs gl sc nm es rest=true:=by
 match es',h with
 | re::rest,h=>exact ⟨re,rest,rfl,and_ok h⟩
theorem mk_es_cons {e es re rest}(h:chkE gl sc nm e re=true) (h2:chkEs gl sc nm es rest=true):chkEs gl sc nm (e::es) (re::rest)=true:=by
 show (chkE gl sc nm e re&&chkEs gl sc nm es rest)=true
 rw [h,h2];rfl
noncomputable def forms:List Nat:=[0,2,3,8,15,16,19,20,21,23,24,25]
noncomputable def plainT (re:Expr):Bool:=![0,15].contains re.ctorIdx&&!(onUnary re fun o _ _=>o==.Not)
noncomputable def plainC (e:E):Bool:=![8,9,10,11,12,13,14].contains e.ctorIdx
structure KOk (e:E) (re:Expr):Prop where
 form:forms.contains re.ctorIdx=true
 comp:notComp e=true->(re.ctorIdx==8)=false
 test:plainC e=true->plainT re=true
theorem KOk.of {e:E}{k:Nat}(h:re.ctorIdx=k) (h1:forms.contains k=true) (h2:notComp e=true->(k==8)=false) (h3:plainC e=true->[0,3,15].contains k=false):KOk e re:=by
 refine ⟨h▸h1,h▸h2,fun hp=>?_⟩
 have h4:=h3 hp
 rw [<- h] at h4
 have h5:re.ctorIdx≠3:=fun e=>by rw [e] at h4;cases h4
 have h6:[0,15].contains re.ctorIdx=false:=by
  simp only [List.contains_cons,List.contains_nil,Bool.or_eq_false_iff] at h4 ⊢
  exact ⟨h4.1,h4.2.2.1,trivial⟩
 unfold plainT onUnary
 rw [dif_neg h5,h6];rfl
theorem kinds:∀ {e:E},chkE gl sc nm e re=true->KOk e re
 | .none,h=>.of (k:=19) (onConst_idx h) rfl (fun _=>rfl) (fun _=>rfl)
 | .bool _,h=>.of (k:=19) (onConst_idx h) rfl (fun _=>rfl) (fun _=>rfl)
 | .int _,h=>.of (k:=19) (onConst_idx h) rfl (fun _=>rfl) (fun _=>rfl)
 | .str _,h=>.of (k:=19) (onConst_idx h) rfl (fun _=>rfl) (fun _=>rfl)
 | .var _,h=>.of (k:=23) (onName_idx h) rfl (fun _=>rfl) (fun _=>rfl)
 | .glob _ _,h=>.of (k:=23) (onName_idx h) rfl (fun _=>rfl) (fun _=>rfl)
 | .bin _ _ _,h=>.of (k:=2) (onBinOp_idx h) rfl (fun _=>rfl) (fun _=>rfl)
 | .neg _,h=>inv_neg h fun _ _ _ e=>e▸⟨rfl,fun _=>rfl,fun _=>rfl⟩
 | .cmp _ _ _,h=>.of (k:=15) (onCompare_idx h) rfl (fun _=>rfl) (fun h=>nomatch h)
 | .cmp2 _ _ _ _ _,h=>.of (k:=15) (onCompare_idx h) rfl (fun _=>rfl) (fun h=>nomatch h)
 | .is _ _,h=>.of (k:=15) (onCompare_idx h) rfl (fun _=>rfl) (fun h=>nomatch h)
 | .isnot _ _,h=>.of (k:=15) (onCompare_idx h) rfl (fun _=>rfl) (fun h=>nomatch h)
 | .and _,h=>.of (k:=0) (onBoolOp_idx h) rfl (fun _=>rfl) (fun h=>nomatch h)
 | .or _,h=>.of (k:=0) (onBoolOp_idx h) rfl (fun _=>rfl) (fun h=>nomatch h)
 | .not _,h=>.of (k:=3) (onUnary_idx h) rfl (fun _=>rfl) (fun h=>nomatch h)
 | .idx _ _,h=>.of (k:=21) (onSub_idx h) rfl (fun _=>rfl) (fun _=>rfl)
 | .slc _ _ _,h=>.of (k:=21) (onSub_idx h) rfl (fun _=>rfl) (fun _=>rfl)
 | .slcL _ _,h=>.of (k:=21) (onSub_idx h) rfl (fun _=>rfl) (fun _=>rfl)
 | .slcH _ _,h=>.of (k:=21) (onSub_idx h) rfl (fun _=>rfl) (fun _=>rfl)
 | .call _ _,h=>.of (k:=16) (onCall_idx h) rfl (fun _=>rfl) (fun _=>rfl)
 | .isinst _ _,h=>.of (k:=16) (onCall_idx h) rfl (fun _=>rfl) (fun _=>rfl)
 | .len _,h=>.of (k:=16) (onCall_idx h) rfl (fun _=>rfl) (fun _=>rfl)
 | .toInt _,h=>.of (k:=16) (onCall_idx h) rfl (fun _=>rfl) (fun _=>rfl)
 | .ord _,h=>.of (k:=16) (onCall_idx h) rfl (fun _=>rfl) (fun _=>rfl)
 | .append _ _,h=>.of (k:=16) (onCall_idx h) rfl (fun _=>rfl) (fun _=>rfl)
 | .extend _ _,h=>.of (k:=16) (onCall_idx h) rfl (fun _=>rfl) (fun _=>rfl)
 | .pop _,h=>.of (k:=16) (onCall_idx h) rfl (fun _=>rfl) (fun _=>rfl)
 | .find _ _ _,h=>.of (k:=16) (onCall_idx h) rfl (fun _=>rfl) (fun _=>rfl)
 | .replace _ _ _,h=>.of (k:=16) (onCall_idx h) rfl (fun _=>rfl) (fun _=>rfl)
 | .join _ _,h=>.of (k:=16) (onCall_idx h) rfl (fun _=>rfl) (fun _=>rfl)
 | .list _,h=>.of (k:=24) (onList_idx h) rfl (fun _=>rfl) (fun _=>rfl)
 | .tup _,h=>.of (k:=25) (onTuple_idx h) rfl (fun _=>rfl) (fun _=>rfl)
 | .comp _ _ _ _,h=>.of (k:=8) (onComp_idx h) rfl (fun h=>nomatch h) (fun _=>rfl)
 | .compR _ _ _ _,h=>.of (k:=8) (onComp_idx h) rfl (fun h=>nomatch h) (fun _=>rfl)
 | .lstrip _ _,h=>.of (k:=16) (onCall_idx h) rfl (fun _=>rfl) (fun _=>rfl)
theorem notComp_false {e:E}(h:notComp e=false):(∃ a b c d,e=.comp a b c d)∨∃ a b c d,e=.compR a b c d:=by
 by_cases h1:e.ctorIdx=33
 ·exact Or.inl (E.comp.elim (motive_1:=fun e=>∃ a b c d,e=.comp a b c d) e h1 fun a b c d=>⟨a,b,c,d,rfl⟩)
 ·by_cases h2:e.ctorIdx=34
  ·exact Or.inr (E.compR.elim (motive_1:=fun e=>∃ a b c d,e=.compR a b c d) e h2 fun a b c d=>⟨a,b,c,d,rfl⟩)
  ·unfold notComp at h
   rw [beq_false_of_ne h1,beq_false_of_ne h2] at h
   cases h
theorem lit_cases {e:E}(h:isLit gl e=true):((isText e&&gl.pos)=true)∨∃ x,e=.var x/\gl.lits.contains x=true:=by
 cases h1:(isText e&&gl.pos)
 ·right
  unfold isLit at h
  rw [h1,Bool.false_or] at h
  by_cases hk:e.ctorIdx=4
  ·revert h
   exact E.var.elim (motive_1:=fun e=>(if h:e.ctorIdx=4 then E.var.elim (motive_1:=fun _=>Bool) e h fun x=>gl.lits.contains x else false)=true->∃ x,e=.var x/\gl.lits.contains x=true) e hk fun x h=>⟨x,rfl,h⟩
  ·rw [dif_neg hk] at h;cases h
 ·exact Or.inl rfl
theorem text_eq {e:E}(h:isText e=true):∃ l,e=.str l :=
 E.str.elim (motive_1:=fun e=>∃ l,e=.str l) e (eq_of_beq h) fun l=>⟨l,rfl⟩
end
section
variable {gl:Gl}{sc:List (Str×NameKind)}{nm:List Str}{re:Stmt}
theorem inv_assign {x e}(h:chkS gl sc nm (.assign x e) re=true) {P:Prop}(k:∀ id p e' p',re=.Assign [.Name id p] e' p'->(nm[x]? == some id&&isLoc sc id&&sc.lookup id != some .free&&!gl.lits.contains x&&chkE gl sc nm e e')=true->P):P :=
 onAssign_ok h fun _ e' p' e1 h =>
 one_ok h fun _ e2 h =>
 onName_ok h fun id p e3 h =>
 k id p e' p' (e1.trans (congrArg (Stmt.Assign · e' p') (e2.trans (congrArg (fun x=>[x]) e3)))) h
theorem inv_setIdx {o i e}(h:chkS gl sc nm (.setIdx o i e) re=true) {P:Prop}(k:∀ o' i' p e' p',re=.Assign [.Subscript o' i' p] e' p'->(chkE gl sc nm o o'&&chkE gl sc nm i i'&&chkE gl sc nm e e')=true->P):P :=
 onAssign_ok h fun _ e' p' e1 h =>
 one_ok h fun _ e2 h =>
 onSub_ok h fun o' i' p e3 h =>
 k o' i' p e' p' (e1.trans (congrArg (Stmt.Assign · e' p') (e2.trans (congrArg (fun x=>[x]) e3)))) h
theorem inv_expr {e}(h:chkS gl sc nm (.expr e) re=true) {P:Prop}(k:∀ e' p,re=.Expr e' p->(notComp e&&chkE gl sc nm e e')=true->P):P:=onExpr_ok h k
theorem inv_ite {c t f}(h:chkS gl sc nm (.ite c t f) re=true) {P:Prop}(k:∀ c' t' f' p,re=.If c' t' f' p->(chkE gl sc nm c c'&&chkSs gl sc nm t t'&&chkSs gl sc nm f f')=true->P):P:=onIf_ok h k
theorem inv_whl {c b}(h:chkS gl sc nm (.whl c b) re=true) {P:Prop}(k:∀ c' b' p,re=.While c' b' [] p->(chkE gl sc nm c c'&&chkSs gl sc nm b b')=true->P):P :=
 onWhile_ok h fun c' b' _ p e h =>
 k c' b' p (e.trans (congrArg (Stmt.While c' b' · p) (nil_ok (and_ok h).1))) ((and_ok h).2)
theorem for_eq {t t' it it':Expr}{b o:List Stmt}{p:PySem.Pos}(h1:t=t') (h2:it=it') (h3:o=[]):Stmt.For t it b o p=.For t' it' b [] p:=by rw [h1,h2,h3]
theorem inv_forIn {x e b}(h:chkS gl sc nm (.forIn x e b) re=true) {P:Prop}(k:∀ id p e' b' p',re=.For (.Name id p) e' b' [] p'->(nm[x]? == some id&&isLoc sc id&&sc.lookup id != some .free&&!gl.lits.contains x&&chkE gl sc nm e e'&&chkSs gl sc nm b b')=true->P):P :=
 onFor_ok h fun _ e' b' _ p' e1 h =>
 onName_ok (and_ok h).2 fun id p e2 h2 =>
 k id p e' b' p' (e1.trans (for_eq e2 rfl (nil_ok (and_ok h).1))) h2
theorem inv_forR {x e b}(h:chkS gl sc nm (.forR x e b) re=true) {P:Prop}(k:∀ id p fn e' pp b' p',re=.For (.Name id p) (.Call fn [e'] [] pp) b' [] p'->isName sc "range" fn=true->(nm[x]? == some id&&isLoc sc id&&sc.lookup id != some .free&&!gl.lits.contains x&&chkE gl sc nm e e'&&chkSs gl sc nm b b')=true->P):P :=
 onFor_ok h fun _ _ b' _ p' e1 h =>
 onName_ok (and_ok h).2 fun id p e2 h2 =>
 onF1_ok h2 fun fn n' pp e3 h1 h3 =>
 k id p fn n' pp b' p' (e1.trans (for_eq e2 e3 (nil_ok (and_ok h).1))) h1 h3
theorem inv_ret {e}(h:chkS gl sc nm (.ret e) re=true) {P:Prop}(k:∀ e' p,re=.Return (some e') p->chkE gl sc nm e e'=true->P):P :=
 onReturn_ok h fun _ p e1 h =>
 some_ok h fun e' e2 h =>
 k e' p (e1.trans (congrArg (Stmt.Return · p) e2)) h
theorem inv_retNone (h:chkS gl sc nm .retNone re=true) {P:Prop}(k:∀ p,re=.Return none p->P):P :=
 onReturn_ok h fun _ p e1 h =>
 k p (e1.trans (congrArg (Stmt.Return · p) (none_ok h)))
theorem inv_cont (h:chkS gl sc nm .cont re=true) {P:Prop}(k:∀ p,re=.Continue p->P):P:=onContinue_ok h fun p e _=>k p e
theorem inv_pass (h:chkS gl sc nm .pass re=true) {P:Prop}(k:∀ p,re=.Pass p->P):P:=onPass_ok h fun p e _=>k p e
theorem inv_ss_nil {es'}(h:chkSs gl sc nm [] es'=true):es'=[]:=nil_ok h
theorem inv_ss_cons {e es es'}(h:chkSs gl sc nm (e::es) es'=true):∃ re rest,es'=re::rest/\chkS gl sc nm e re=true/\chkSs gl sc nm es rest=true:=by
 match es',h with
 | re::rest,h=>exact ⟨re,rest,rfl,and_ok h⟩
end
noncomputable def nodupB:List Str->Bool
 | []=>true
 | x::l=>!l.contains x&&nodupB l
noncomputable def kindOk (scope:Scope):Bool:=scope.kind==.function&&!scope.isGenerator&&!scope.isCoroutine&&scope.names.all fun x=>x.2 != .free
noncomputable def firstLoc (params:Arguments) (scope:Scope):Bool:=match params.args with
 | a::_=>scope.names.lookup a.arg==some .local
 | []=>false
noncomputable def chkFn (gl:Gl) (fn:Fn) (params:Arguments) (body:List Stmt) (scope:Scope):Bool :=
 kindOk scope&&nodupB (fn.names.map Str.ofString)&&decide (fn.params<=fn.names.length) &&
 params.posonlyargs.isEmpty&&params.vararg.isNone&&params.kwonlyargs.isEmpty&&params.kwarg.isNone&&params.defaults.isEmpty&&params.kw_defaults.isEmpty &&
 (params.args.map (·.arg)==(fn.names.take fn.params).map Str.ofString)&&(params.args.all fun a=>scope.names.lookup a.arg==some .local||scope.names.lookup a.arg==some .cell) &&
 fn.lits.all (fun j=>decide (j<fn.params))&&(!fn.bump||firstLoc params scope)&&chkSs { gl with lits:=fn.lits } scope.names (fn.names.map Str.ofString) fn.body body
end Mini
namespace Mini
section
variable {C:Calls}{ρ:Env}{Q:PostV}{H:Heap}
theorem un_var {x}(h:wpE C (.var x) ρ Q H):match ρ[x]? with
  | some (some v)=>Q v H
  | _=>False:=h
theorem un_glob {a0 i}(h:wpE C (.glob a0 i) ρ Q H):Q (.int i) H:=h
theorem un_bin {o l r}(h:wpE C (.bin o l r) ρ Q H):wpE C l ρ (fun a H₁=>wpE C r ρ (fun b H₂=>res (binV o a b H₂) Q) H₁) H:=h
theorem un_neg {i}(h:wpE C (.neg i) ρ Q H):Q (.int (-i)) H:=h
theorem un_cmp {o l r}(h:wpE C (.cmp o l r) ρ Q H):wpE C l ρ (fun a H₁=>wpE C r ρ (fun b H₂=>boo (cmpV o a b H₂) (fun b H=>Q (.bool b) H) H₂) H₁) H:=h
theorem un_cmp2 {o₁ o₂ a b c}(h:wpE C (.cmp2 o₁ o₂ a b c) ρ Q H):wpE C a ρ (fun va H₁=>wpE C b ρ (fun vb H₂=>boo (cmpV o₁ va vb H₂) (fun t H₂=>match t with
   | true=>wpE C c ρ (fun vc H₃=>boo (cmpV o₂ vb vc H₃) (fun b H=>Q (.bool b) H) H₃) H₂
   | false=>Q (.bool false) H₂) H₂) H₁) H:=h
theorem un_is {e c}(h:wpE C (.is e c) ρ Q H):wpE C e ρ (fun v H₁=>Q (.bool (isV v c)) H₁) H:=h
theorem un_isnot {e c}(h:wpE C (.isnot e c) ρ Q H):wpE C e ρ (fun v H₁=>Q (.bool (!isV v c)) H₁) H:=h
theorem un_and {es}(h:wpE C (.and es) ρ Q H):wpAnd C es ρ Q H:=h
theorem un_or {es}(h:wpE C (.or es) ρ Q H):wpOr C es ρ Q H:=h
theorem un_not {e}(h:wpE C (.not e) ρ Q H):wpE C e ρ (fun v H₁=>boo (truthV v) (fun b H=>Q (.bool (!b)) H) H₁) H:=h
theorem un_idx {o i}(h:wpE C (.idx o i) ρ Q H):wpE C o ρ (fun vo H₁=>wpE C i ρ (fun vi H₂=>val (idxV vo vi H₂) Q H₂) H₁) H:=h
theorem un_slc {o l u}(h:wpE C (.slc o l u) ρ Q H):wpE C o ρ (fun vo H₁=>wpE C l ρ (fun vl H₂=>wpE C u ρ (fun vh H₃=>match vl,vh with
   | .int a,.int b=>res (slcV vo (some a) (some b) H₃) Q
   | _,_=>False) H₂) H₁) H:=h
theorem un_slcL {o l}(h:wpE C (.slcL o l) ρ Q H):wpE C o ρ (fun vo H₁=>wpE C l ρ (fun vl H₂=>match vl with
   | .int a=>res (slcV vo (some a) Option.none H₂) Q
   | _=>False) H₁) H:=h
theorem un_slcH {o u}(h:wpE C (.slcH o u) ρ Q H):wpE C o ρ (fun vo H₁=>wpE C u ρ (fun vh H₂=>match vh with
   | .int a=>res (slcV vo Option.none (some a) H₂) Q
   | _=>False) H₁) H:=h
theorem un_call {f es}(h:wpE C (.call f es) ρ Q H):wpEs C es ρ (fun vs H₁=>C f vs Q H₁) H:=h
theorem un_isinst {e t}(h:wpE C (.isinst e t) ρ Q H):wpE C e ρ (fun v H₁=>Q (.bool (isinstV v t)) H₁) H:=h
theorem un_len {e}(h:wpE C (.len e) ρ Q H):wpE C e ρ (fun v H₁=>val ((lenV v H₁).map .int) Q H₁) H:=h
theorem un_toInt {e}(h:wpE C (.toInt e) ρ Q H):wpE C e ρ (fun v H₁=>match v with
   | .bool b=>Q (.int (if b then 1 else 0)) H₁
   | _=>False) H:=h
theorem un_ord {e}(h:wpE C (.ord e) ρ Q H):wpE C e ρ (fun v H₁=>match v with
   | .str [c]=>Q (.int (c:Int)) H₁
   | _=>False) H:=h
theorem un_append {o e}(h:wpE C (.append o e) ρ Q H):wpE C o ρ (fun vo H₁=>match vo with
   | .ref a=>wpE C e ρ (fun v H₂=>hea (appendV (.ref a) v H₂) Q) H₁
   | _=>False) H:=h
theorem un_extend {o e}(h:wpE C (.extend o e) ρ Q H):wpE C o ρ (fun vo H₁=>match vo with
   | .ref a=>wpE C e ρ (fun v H₂=>hea (extendV (.ref a) v H₂) Q) H₁
   | _=>False) H:=h
theorem un_pop {o}(h:wpE C (.pop o) ρ Q H):wpE C o ρ (fun vo H₁=>match vo with
   | .ref a=>res (popV (.ref a) H₁) Q
   | _=>False) H:=h
theorem un_find {o a b}(h:wpE C (.find o a b) ρ Q H):wpE C o ρ (fun vo H₁=>match vo with
   | .str s=>wpE C a ρ (fun va H₂=>wpE C b ρ (fun vb H₃=>findP s va vb Q H₃) H₂) H₁
   | _=>False) H:=h
theorem un_replace {o a b}(h:wpE C (.replace o a b) ρ Q H):wpE C o ρ (fun vo H₁=>match vo with
   | .str s=>wpE C a ρ (fun va H₂=>wpE C b ρ (fun vb H₃=>replaceP s va vb Q H₃) H₂) H₁
   | _=>False) H:=h
theorem un_join {o a}(h:wpE C (.join o a) ρ Q H):wpE C o ρ (fun vo H₁=>match vo with
   | .str s=>wpE C a ρ (fun va H₂=>joinP s va Q H₂) H₁
   | _=>False) H:=h
theorem un_lstrip {o a}(h:wpE C (.lstrip o a) ρ Q H):wpE C o ρ (fun vo H₁=>match vo with
   | .str s=>wpE C a ρ (fun va H₂=>lstripP s va Q H₂) H₁
   | _=>False) H:=h
theorem un_list {es}(h:wpE C (.list es) ρ Q H):wpEs C es ρ (fun vs H₁=>Q (.ref H₁.length) (H₁++[vs])) H:=h
theorem un_tup {es}(h:wpE C (.tup es) ρ Q H):wpEs C es ρ (fun vs H₁=>Q (.tup vs) H₁) H:=h
theorem un_comp {elt x src ifs}(h:wpE C (.comp elt x src ifs) ρ Q H):wpE C src ρ (fun v H₁=>match iterV v with
   | some it=>∃ n,compN (wpTest C ifs) (wpE C elt) x ρ it n 0 [] (fun vs H₂=>Q (.ref H₂.length) (H₂++[vs])) H₁
   | Option.none=>False) H:=h
theorem un_compR {elt x e ifs}(h:wpE C (.compR elt x e ifs) ρ Q H):wpE C e ρ (fun v H₁=>match rangeV v with
   | some it=>∃ n,compN (wpTest C ifs) (wpE C elt) x ρ it n 0 [] (fun vs H₂=>Q (.ref H₂.length) (H₂++[vs])) H₁
   | Option.none=>False) H:=h
end
section
variable {C:Calls}{ρ:Env}{Q:PostS}{H:Heap}
theorem us_assign {x e}(h:wpS C (.assign x e) ρ Q H):wpE C e ρ (fun v H₁=>Q .next (ρ.set x (some v)) H₁) H:=h
theorem us_setIdx {o i e}(h:wpS C (.setIdx o i e) ρ Q H):wpE C e ρ (fun v H₁=>wpE C o ρ (fun vo H₂=>wpE C i ρ (fun vi H₃=>hea (setV vo vi v H₃) (fun _ H₄=>Q .next ρ H₄)) H₂) H₁) H:=h
theorem us_expr {e}(h:wpS C (.expr e) ρ Q H):wpE C e ρ (fun _ H₁=>Q .next ρ H₁) H:=h
theorem us_ite {c t f}(h:wpS C (.ite c t f) ρ Q H):wpE C c ρ (fun v H₁=>boo (truthV v) (fun b H₁=>match b with
   | true=>wpSs C t ρ Q H₁
   | false=>wpSs C f ρ Q H₁) H₁) H:=h
theorem us_whl {c b}(h:wpS C (.whl c b) ρ Q H):∃ n,whileN (wpE C c) (wpSs C b) n ρ Q H:=h
theorem us_forIn {x e b}(h:wpS C (.forIn x e b) ρ Q H):wpE C e ρ (fun v H₁=>match iterV v with
   | some it=>∃ n,forN (wpSs C b) x it n 0 ρ Q H₁
   | Option.none=>False) H:=h
theorem us_forR {x e b}(h:wpS C (.forR x e b) ρ Q H):wpE C e ρ (fun v H₁=>match rangeV v with
   | some it=>∃ n,forN (wpSs C b) x it n 0 ρ Q H₁
   | Option.none=>False) H:=h
theorem us_ret {e}(h:wpS C (.ret e) ρ Q H):wpE C e ρ (fun v H₁=>Q (.ret v) ρ H₁) H:=h
theorem us_retNone (h:wpS C .retNone ρ Q H):Q (.ret .none) ρ H:=h
theorem us_cont (h:wpS C .cont ρ Q H):Q .cont ρ H:=h
theorem us_pass (h:wpS C .pass ρ Q H):Q .next ρ H:=h
theorem us_raise {a0 a1}(h:wpS C (.raise a0 a1) ρ Q H):False:=h
theorem us_nil (h:wpSs C [] ρ Q H):Q .next ρ H:=h
theorem us_cons {s ss}(h:wpSs C (s::ss) ρ Q H):wpS C s ρ (fun fl ρ' H₁=>match fl with
   | .next=>wpSs C ss ρ' Q H₁
   | fl=>Q fl ρ' H₁) H:=h
theorem ue_nil {Q:List V->Heap->Prop}(h:wpEs C [] ρ Q H):Q [] H:=h
theorem ue_cons {Q:List V->Heap->Prop}{e es}(h:wpEs C (e::es) ρ Q H):wpE C e ρ (fun v H₁=>wpEs C es ρ (fun vs H₂=>Q (v::vs) H₂) H₁) H:=h
end
end Mini
namespace L10
open PySem PySem.W PyProof.Rows
noncomputable abbrev pr:Program:=PySem.Challenge.pw_uf010012_10
noncomputable def plainS (s:Stmt):Bool:=!(Mini.onAssign s fun ts _ _=>Mini.one? ts fun t=>Mini.onName t fun id _=>id==Str.ofString "__name__")
noncomputable def vw:Program:={ pr with main:={ pr.main with body:=pr.main.body.filter plainS } }
theorem joinL {σ A1 A2 A5 B:Type}{o:Option σ}{c1:σ->A1}{c2:σ->A2}{c3 c4:σ->Bool}{c5:σ->A5}{y:σ->B}{a1:A1}{a2:A2}{a5:A5}{b:B}(hA:o.map (fun s=>(c1 s,c2 s))=some (a1,a2)) (hB:o.map c3=some true) (hT:o.map c4=some true) (hC:o.map (fun s=>(c5 s,y s))=some (a5,b)):o.map (fun s=>((c1 s,c2 s,c3 s,c4 s,c5 s),y s))=some ((a1,a2,true,true,a5),b):=by
 cases o with
 | none=>cases hB
 | some s =>
  obtain ⟨e1,e2⟩:=Prod.mk.inj (Option.some.inj hA)
  obtain ⟨e5,e6⟩:=Prod.mk.inj (Option.some.inj hC)
  have e3:c3 s=true:=Option.some.inj hB
  have e4:c4 s=true:=Option.some.inj hT
  show some ((c1 s,c2 s,c3 s,c4 s,c5 s),y s)=_
  rw [e1,e2,e3,e4,e5,e6]
theorem leftA (w:World):(openEnds treeTable pr w 3000).map (fun s=>(seen ((recsOf vw).map (·.name)) (ownsOf vw) [] { s with gens:=#[] },s.heap.bltView))=some (expectedOf vw,bltViewBooted):=by kernel_rfl
theorem leftB (w:World):(openEnds treeTable pr w 3000).map (fun s=>s.heap.keysOk (looseW vw []) ((recsOf vw).map (·.name)) ((litsOf vw).map (·.1)) ((clssOf vw (looseW vw [])).map (·.name))&&s.heap.accountedOkI (importedModules pr.main.body)&&s.heap.isNs mainGlobals&&s.heap.isNs builtinsNs&&tablesOk vw s.heap&&(xlAt vw [] s&&recOk [] s)&&(if true then s.gens.size==0 else !leftWithCleanup s.gens))=some true:=by kernel_rfl
theorem leftT (w:World):(openEnds treeTable pr w 3000).map (fun s=>tabsOk vw s)=some true:=by kernel_rfl
theorem leftC (w:World):(openEnds treeTable pr w 3000).map (fun s=>((pinSeenD vw (drecsOf vw) s,plainSeenE vw (looseW vw []) s,plainSeenD vw [] s,wideSeen vw s,clsSeenW vw [] s),Hook.obs Hook.none s))=some ((pinGoodD (drecsOf vw),plainGoodE vw (looseW vw []),plainGoodD vw [],wideGood vw,clsGoodW vw []),Hook.val Hook.none w):=by kernel_rfl
theorem left:LeftO pr vw [] (fun s=>xlAt vw [] s&&recOk [] s) (Hook.obs Hook.none) (Hook.val Hook.none) 3000:=fun w=>joinL (leftA w) (leftB w) (leftT w) (leftC w)
end L10
namespace MiniS
open PySem PySem.Calls PyProof.Rows
open Mini (V)
noncomputable def IntsOf:List Int->List Value->Prop
 | [],[]=>True
 | i::l,x::r=>(∃ t,x=.int i t)/\IntsOf l r
 | _,_=>False
mutual
noncomputable def VRel (h₀:Heap) (φ:List Addr) (h:Heap):V->Value->Prop
 | .none,x=>x=.none
 | .bool b,x=>x=.bool b
 | .int i,x=>∃ t,x=.int i t
 | .str l,x=>l.length<=Mini.lim/\∃ t,x=.str ⟨l.toArray⟩ t
 | .ref i,x=>∃ a,φ[i]? = some a/\x=.ref a
 | .tup l,x=>l.length<=Mini.lim/\∃ a vs,x=.ref a/\IsTup h a vs.toArray/\VRels h₀ φ h l vs
 | .frz ns,x=>ns.length<=Mini.lim/\∃ a vs,x=.ref a/\h₀.IsList a vs.toArray/\IntsOf ns vs
noncomputable def VRels (h₀:Heap) (φ:List Addr) (h:Heap):List V->List Value->Prop
 | [],[]=>True
 | v::l,x::r=>VRel h₀ φ h v x/\VRels h₀ φ h l r
 | _,_=>False
end
theorem VRels.length {h₀ φ h}:∀ {l:List V}{vs:List Value},VRels h₀ φ h l vs->l.length=vs.length
 | [],[],_=>rfl
 | _::_,_::_,H=>by
  unfold VRels at H
  simp [VRels.length H.2]
 | [],_::_,H=>by unfold VRels at H;exact H.elim
 | _::_,[],H=>by unfold VRels at H;exact H.elim
theorem VRels.get {h₀ φ h}:∀ {l:List V}{vs:List Value},VRels h₀ φ h l vs->∀ {k:Nat}{v:V},l[k]? = some v->∃ x,vs[k]? = some x/\VRel h₀ φ h v x
 | [],_,_,_,_,e=>by simp at e
 | _::_,[],H,_,_,_=>by unfold VRels at H;exact H.elim
 | v::l,x::r,H,0,_,e=>by
  unfold VRels at H
  simp at e;subst e
  exact ⟨x,by simp,H.1⟩
 | v::l,x::r,H,k+1,_,e=>by
  unfold VRels at H
  simp at e
  obtain ⟨y,hy,hr⟩:=VRels.get H.2 e
  exact ⟨y,by simpa using hy,hr⟩
theorem VRels.append {h₀ φ h}:∀ {l:List V}{vs:List Value}{l':List V}{vs':List Value},VRels h₀ φ h l vs->VRels h₀ φ h l' vs'->VRels h₀ φ h (l++l') (vs++vs')
 | [],[],_,_,_,H'=>H'
 | _::_,_::_,_,_,H,H'=>by
  unfold VRels at H
  simp only [List.cons_append]
  unfold VRels
  exact ⟨H.1,VRels.append H.2 H'⟩
 | [],_::_,_,_,H,_=>by unfold VRels at H;exact H.elim
 | _::_,[],_,_,H,_=>by unfold VRels at H;exact H.elim
theorem VRels.one {h₀ φ h}{v:V}{x:Value}(H:VRel h₀ φ h v x):VRels h₀ φ h [v] [x]:=by
 unfold VRels;exact ⟨H,by unfold VRels;trivial⟩
theorem VRels.nil {h₀ φ h}:VRels h₀ φ h [] []:=by unfold VRels;trivial
theorem VRels.cons {h₀ φ h}{v:V}{x:Value}{l:List V}{vs:List Value}(H:VRel h₀ φ h v x) (H':VRels h₀ φ h l vs):VRels h₀ φ h (v::l) (x::vs):=by
 unfold VRels;exact ⟨H,H'⟩
theorem VRels.uncons {h₀ φ h}{v:V}{l:List V}{vs:List Value}(H:VRels h₀ φ h (v::l) vs):∃ x r,vs=x::r/\VRel h₀ φ h v x/\VRels h₀ φ h l r:=by
 cases vs with
 | nil=>unfold VRels at H;exact H.elim
 | cons x r=>unfold VRels at H;exact ⟨x,r,rfl,H.1,H.2⟩
theorem VRels.unnil {h₀ φ h}{vs:List Value}(H:VRels h₀ φ h [] vs):vs=[]:=by
 cases vs with
 | nil=>rfl
 | cons x r=>unfold VRels at H;exact H.elim
noncomputable def TupObj (o:Obj):Prop:=o.cls=.type "tuple" /\ ∃ items n,o.data=.seq items n
mutual
theorem VRel.mono {h₀:Heap}{φ φ':List Addr}{h h':Heap} (hφ:∀ (i:Nat) (a:Addr),φ[i]? = some a->φ'[i]? = some a)
  (hk:∀ a o,TupObj o->h.get? a=some o->h'.get? a=some o):∀ (v:V) {x:Value},VRel h₀ φ h v x->VRel h₀ φ' h' v x
 | .none,_,H=>by unfold VRel at *;exact H
 | .bool _,_,H=>by unfold VRel at *;exact H
 | .int _,_,H=>by unfold VRel at *;exact H
 | .str _,_,H=>by unfold VRel at *;exact H
 | .ref i,_,H=>by
  unfold VRel at *
  obtain ⟨a,e,r⟩:=H
  exact ⟨a,hφ i a e,r⟩
 | .tup l,_,H=>by
  unfold VRel at *
  obtain ⟨hl,a,vs,e,⟨o,ho,hc,n,hd⟩,r⟩:=H
  exact ⟨hl,a,vs,e,⟨o,hk a o ⟨hc,_,_,hd⟩ ho,hc,n,hd⟩,VRels.mono hφ hk l r⟩
 | .frz _,_,H=>by unfold VRel at *;exact H
theorem VRels.mono {h₀:Heap}{φ φ':List Addr}{h h':Heap} (hφ:∀ (i:Nat) (a:Addr),φ[i]? = some a->φ'[i]? = some a)
  (hk:∀ a o,TupObj o->h.get? a=some o->h'.get? a=some o):∀ (l:List V) {vs:List Value},VRels h₀ φ h l vs->VRels h₀ φ' h' l vs
 | [],[],_=>by unfold VRels;trivial
 | v::l,x::r,H=>by
  unfold VRels at *
  exact ⟨VRel.mono hφ hk v H.1,VRels.mono hφ hk l H.2⟩
 | [],_::_,H=>by unfold VRels at H;exact H.elim
 | _::_,[],H=>by unfold VRels at H;exact H.elim
end
structure Ok (h₀:Heap) (φ:List Addr) (H:Mini.Heap) (h:Heap):Prop where
 base:∀ b o,h₀.get? b=some o->h.get? b=some o
 len:φ.length=H.length
 nodup:φ.Nodup
 above:∀ a∈φ,h₀.objs.size<=a
 small:∀ l∈H,l.length<=Mini.lim
 room:h₀.objs.size<=h.objs.size
 lists:∀ (i:Nat) (a:Addr) (l:List V),φ[i]? = some a->H[i]? = some l->∃ vs,h.PlainList a vs.toArray/\VRels h₀ φ h l vs
theorem Ok.mem {h₀ φ H h}(K:Ok h₀ φ H h) {a:Addr}(ha:a∈φ):∃ vs n,h.get? a=some { cls:=.type "list",data:=.seq vs n }:=by
 obtain ⟨i,hi⟩:=List.getElem?_of_mem ha
 have hl:i<H.length:=by
  rw [<- K.len]
  exact (List.getElem?_eq_some_iff.mp hi).1
 obtain ⟨vs,⟨n,e⟩,_⟩:=K.lists i a _ hi (List.getElem?_eq_getElem hl)
 exact ⟨_,n,e⟩
theorem Ok.lt {h₀ φ H h}(K:Ok h₀ φ H h) {a:Addr}(ha:a∈φ):a<h.objs.size:=by
 obtain ⟨_,_,e⟩:=K.mem ha
 exact Heap.lt_size e
structure Step (φ:List Addr) (s s':Shared):Prop where
 same:∃ h' tk,s'={ s with heap:=h',toks:=tk }
 keep:∀ b o,b ∉ φ->s.heap.get? b=some o->s'.heap.get? b=some o
 size:s.heap.objs.size<=s'.heap.objs.size
 toks:s.toks<=s'.toks
structure Fwd (h₀:Heap) (φ:List Addr) (s:Shared) (φ':List Addr) (H':Mini.Heap) (s':Shared):Prop where
 step:Step φ s s'
 grow:∃ ψ,φ'=φ++ψ/\∀ a∈ψ,s.heap.objs.size<=a
 ok:Ok h₀ φ' H' s'.heap
theorem Fwd.refl {h₀ φ s H}(K:Ok h₀ φ H s.heap):Fwd h₀ φ s φ H s :=
 ⟨⟨⟨s.heap,s.toks,rfl⟩,fun _ _ _ e=>e,Nat.le_refl _,Nat.le_refl _⟩,⟨[],by simp,by simp⟩,K⟩
theorem Fwd.trans {h₀ φ s φ₁ H₁ s₁ φ₂ H₂ s₂}(a:Fwd h₀ φ s φ₁ H₁ s₁) (b:Fwd h₀ φ₁ s₁ φ₂ H₂ s₂):Fwd h₀ φ s φ₂ H₂ s₂:=by
 obtain ⟨⟨⟨h1,t1,e1⟩,k1,z1,w1⟩,⟨ψ1,g1,m1⟩,o1⟩:=a
 obtain ⟨⟨⟨h2,t2,e2⟩,k2,z2,w2⟩,⟨ψ2,g2,m2⟩,o2⟩:=b
 refine ⟨⟨⟨h2,t2,by rw [e2,e1]⟩,fun b o hb e=>?_,Nat.le_trans z1 z2,Nat.le_trans w1 w2⟩,⟨ψ1++ψ2,by rw [g2,g1,List.append_assoc],fun a ha=>?_⟩,o2⟩
 ·refine k2 b o ?_ (k1 b o hb e)
  rw [g1,List.mem_append,not_or]
  exact ⟨hb,fun hm=>absurd (Heap.lt_size e) (Nat.not_lt.mpr (m1 b hm))⟩
 ·rcases List.mem_append.mp ha with q | q
  ·exact m1 a q
  ·exact Nat.le_trans z1 (m2 a q)
theorem Fwd.idx {h₀ φ s φ' H' s'}(F:Fwd h₀ φ s φ' H' s'):∀ (i:Nat) (a:Addr),φ[i]? = some a->φ'[i]? = some a:=by
 obtain ⟨_,⟨ψ,e,_⟩,_⟩:=F
 intro i a hi
 rw [e,List.getElem?_append_left (List.getElem?_eq_some_iff.mp hi).1];exact hi
theorem Fwd.tups {h₀ φ s φ' H H' s'}(K:Ok h₀ φ H s.heap) (F:Fwd h₀ φ s φ' H' s'):∀ a o,TupObj o->s.heap.get? a=some o->s'.heap.get? a=some o:=by
 intro a o hc ho
 refine F.step.keep a o (fun hm=>?_) ho
 obtain ⟨vs,n,e⟩:=K.mem hm
 rw [e] at ho;cases ho
 simp [TupObj] at hc
theorem Fwd.val {h₀ φ s φ' H H' s'}(K:Ok h₀ φ H s.heap) (F:Fwd h₀ φ s φ' H' s') {v:V}{x:Value}(r:VRel h₀ φ s.heap v x):VRel h₀ φ' s'.heap v x :=
 VRel.mono F.idx (F.tups K) v r
theorem Fwd.vals {h₀ φ s φ' H H' s'}(K:Ok h₀ φ H s.heap) (F:Fwd h₀ φ s φ' H' s') {v:List V}{x:List Value}(r:VRels h₀ φ s.heap v x):VRels h₀ φ' s'.heap v x :=
 VRels.mono F.idx (F.tups K) v r
theorem Ok.ext {h₀ φ H h h'}(K:Ok h₀ φ H h) (hk:∀ b o,h.get? b=some o->h'.get? b=some o) (hz:h.objs.size<=h'.objs.size):Ok h₀ φ H h' :=
 ⟨fun b o e=>hk b o (K.base b o e),K.len,K.nodup,K.above,K.small,Nat.le_trans K.room hz,fun i a l hi hl=>by
  obtain ⟨vs,⟨n,e⟩,r⟩:=K.lists i a l hi hl
  exact ⟨vs,⟨n,hk _ _ e⟩,VRels.mono (fun _ _ q=>q) (fun a o _ q=>hk a o q) l r⟩⟩
theorem Fwd.ext {h₀ φ s H h'}{tk:Nat}(K:Ok h₀ φ H s.heap) (hk:∀ b o,s.heap.get? b=some o->h'.get? b=some o) (hz:s.heap.objs.size<=h'.objs.size) (ht:s.toks<=tk) :
  Fwd h₀ φ s φ H { s with heap:=h',toks:=tk } :=
 ⟨⟨⟨h',tk,rfl⟩,fun b o _ e=>hk b o e,hz,ht⟩,⟨[],by simp,by simp⟩,K.ext hk hz⟩
theorem Fwd.tok {h₀ φ s H}{tk:Nat}(K:Ok h₀ φ H s.heap) (ht:s.toks<=tk:=by first | exact Nat.le_refl _ | exact Nat.le_succ _ | lia):Fwd h₀ φ s φ H { s with toks:=tk } :=
 Fwd.ext (h':=s.heap) K (fun _ _ e=>e) (Nat.le_refl _) ht
theorem Fwd.push {h₀ φ s H}{ob:Obj}{tk:Nat}(K:Ok h₀ φ H s.heap) (ht:s.toks<=tk:=by first | exact Nat.le_refl _ | exact Nat.le_succ _ | lia):Fwd h₀ φ s φ H { s with heap:=s.heap.push ob,toks:=tk } :=
 Fwd.ext K (fun _ _ e=>Heap.get?_push_of_some _ e) (by rw [Heap.size_push];exact Nat.le_succ _) ht
theorem Fwd.allocG {h₀ φ s H}{l:List V}{vs:List Value}{a:Addr}{h':Heap}{tk:Nat}(K:Ok h₀ φ H s.heap) (r:VRels h₀ φ s.heap l vs) (hl:l.length<=Mini.lim)
  (ha:s.heap.objs.size<=a) (hk:∀ b o,s.heap.get? b=some o->h'.get? b=some o) (hp:h'.PlainList a vs.toArray) (ht:s.toks<=tk:=by first | exact Nat.le_refl _ | exact Nat.le_succ _ | lia) :
  Fwd h₀ φ s (φ++[a]) (H++[l]) { s with heap:=h',toks:=tk }:=by
 have hi:∀ (i:Nat) (b:Addr),φ[i]? = some b->(φ++[a])[i]? = some b:=fun i b e=>by
  rw [List.getElem?_append_left (List.getElem?_eq_some_iff.mp e).1];exact e
 have hz:s.heap.objs.size<=h'.objs.size:=by
  obtain ⟨n,e⟩:=hp
  exact Nat.le_trans ha (Nat.le_of_lt (Heap.lt_size e))
 refine ⟨⟨⟨_,_,rfl⟩,fun b o _ e=>hk b o e,hz,ht⟩,⟨[a],rfl,by simpa using ha⟩,?_⟩
 refine ⟨fun b o e=>hk b o (K.base b o e),by simp [K.len],?_,?_,?_,Nat.le_trans K.room hz,?_⟩
 ·rw [List.nodup_append]
  refine ⟨K.nodup,by simp,fun b hb c hc=>?_⟩
  simp at hc;subst hc
  exact Nat.ne_of_lt (Nat.lt_of_lt_of_le (K.lt hb) ha)
 ·intro b hb
  rcases List.mem_append.mp hb with q | q
  ·exact K.above b q
  ·simp at q;subst q;exact Nat.le_trans K.room ha
 ·intro l' hl'
  rcases List.mem_append.mp hl' with q | q
  ·exact K.small l' q
  ·simp at q;subst q;exact hl
 ·intro i b l' e el
  by_cases hlt:i<φ.length
  ·rw [List.getElem?_append_left hlt] at e
   rw [List.getElem?_append_left (by rw [<- K.len];exact hlt)] at el
   obtain ⟨vs',⟨n',p⟩,r'⟩:=K.lists i b l' e el
   exact ⟨vs',⟨n',hk _ _ p⟩,VRels.mono hi (fun a o _ q=>hk a o q) l' r'⟩
  ·have hle:φ.length<=i:=Nat.le_of_not_lt hlt
   rw [List.getElem?_append_right hle] at e
   rw [List.getElem?_append_right (by rw [<- K.len];exact hle)] at el
   have:i - φ.length=0:=by
    cases h:i - φ.length with
    | zero=>rfl
    | succ k=>rw [h] at e;simp at e
   rw [this] at e
   rw [<- K.len,this] at el
   simp at e el
   subst e;subst el
   exact ⟨vs,hp,VRels.mono hi (fun a o _ q=>hk a o q) _ r⟩
theorem Fwd.alloc {h₀ φ s H}{l:List V}{vs:List Value}{n tk:Nat}(K:Ok h₀ φ H s.heap) (r:VRels h₀ φ s.heap l vs) (hl:l.length<=Mini.lim) (ht:s.toks<=tk:=by first | exact Nat.le_refl _ | exact Nat.le_succ _ | lia) :
  Fwd h₀ φ s (φ++[s.heap.objs.size]) (H++[l]) { s with heap:=s.heap.push { cls:=.type "list",data:=.seq vs.toArray n },toks:=tk } :=
 Fwd.allocG K r hl (Nat.le_refl _) (fun _ _ e=>Heap.get?_push_of_some _ e) ⟨n,Heap.get?_push_size _ rfl⟩ ht
theorem Fwd.change {h₀ φ s H}{i:Nat}{a:Addr}{l':List V}{vs':List Value}{h':Heap}{tk:Nat}(K:Ok h₀ φ H s.heap) (hi:φ[i]? = some a)
  (hsame:Heap.SameBut a s.heap h') (hp:h'.PlainList a vs'.toArray) (r:VRels h₀ φ s.heap l' vs') (hl:l'.length<=Mini.lim) (ht:s.toks<=tk:=by first | exact Nat.le_refl _ | exact Nat.le_succ _ | lia) :
  Fwd h₀ φ s φ (H.set i l') { s with heap:=h',toks:=tk }:=by
 have ham:a∈φ:=List.mem_of_getElem? hi
 obtain ⟨vs₀,n₀,e₀⟩:=K.mem ham
 have keep:∀ b o,b≠a->s.heap.get? b=some o->h'.get? b=some o:=fun b o hb e=>(hsame.2 b hb).trans e
 have tups:∀ b o,TupObj o->s.heap.get? b=some o->h'.get? b=some o:=fun b o hc e=>keep b o (by
  rintro rfl
  rw [e₀] at e;cases e;simp [TupObj] at hc) e
 refine ⟨⟨⟨_,_,rfl⟩,fun b o hb e=>keep b o (fun q=>hb (q▸ham)) e,Nat.le_of_eq hsame.1.symm,ht⟩,⟨[],by simp,by simp⟩,?_⟩
 refine ⟨fun b o e=>keep b o (fun q=>?_) (K.base b o e),by simp [K.len],K.nodup,K.above,?_,Nat.le_trans K.room (Nat.le_of_eq hsame.1.symm),?_⟩
 ·subst q
  exact absurd (Heap.lt_size e) (Nat.not_lt.mpr (K.above _ ham))
 ·intro l hm
  rcases List.mem_or_eq_of_mem_set hm with q | q
  ·exact K.small l q
  ·subst q;exact hl
 ·intro j b l e el
  by_cases hij:j=i
  ·subst hij
   rw [hi] at e;cases e
   have hjl:j<H.length:=by
    rw [<- K.len];exact (List.getElem?_eq_some_iff.mp hi).1
   rw [List.getElem?_set_self hjl] at el
   cases el
   exact ⟨vs',hp,VRels.mono (fun _ _ q=>q) tups _ r⟩
  ·rw [List.getElem?_set_ne (Ne.symm hij)] at el
   obtain ⟨vs,⟨n,p⟩,r'⟩:=K.lists j b l e el
   have hb:b≠a:=by
    rintro rfl
    exact hij ((List.getElem?_inj (List.getElem?_eq_some_iff.mp e).1 K.nodup).mp (e.trans hi.symm))
   exact ⟨vs,⟨n,keep b _ hb p⟩,VRels.mono (fun _ _ q=>q) tups _ r'⟩
end MiniS
namespace MiniS
open PySem PySem.Calls PyProof.Rows
open Mini (V)
noncomputable def OptRel (h₀:Heap) (φ:List Addr) (h:Heap):Option V->Option Value->Prop
 | some v,o=>∃ x,o=some x/\VRel h₀ φ h v x
 | none,_=>True
structure Cx where
 prog:Program
 w:World
 h₀:Heap
 gl:Mini.Gl
 P:Mini.Prg
 mg:Str->Option Value
 mb:Str->Option Value
noncomputable def LitRel (ls:List Nat) (i tk:Nat) (o:Option Value):Prop:=i∈ls->∀ x,o=some x->∃ l t,x=.str l t/\0<t/\t<tk
theorem LitRel.mono {ls:List Nat}{i tk tk':Nat}{o:Option Value}(h:LitRel ls i tk o) (ht:tk<=tk'):LitRel ls i tk' o:=fun hi x hx =>
 let ⟨l,t,e,h1,h2⟩:=h hi x hx;⟨l,t,e,h1,Nat.lt_of_lt_of_le h2 ht⟩
structure EnvOk (X:Cx) (φ:List Addr) (nm:List Str) (env:Env) (ρ:Mini.Env) (s:Shared):Prop where
 kind:env.scope.kind=.function
 glob:env.globals=mainGlobals
 blt:env.builtins=builtinsNs
 len:ρ.length=nm.length
 nodup:nm.Nodup
 pos:X.gl.pos=true->0<s.toks
 locals:∃ m,s.heap.Ns env.locals m/\∀ (i:Nat) (x:Str),nm[i]? = some x->env.kindOf x=some .local->OptRel X.h₀ φ s.heap ((ρ[i]?).getD none) (m x)/\LitRel X.gl.lits i s.toks (m x)
 cells:∀ (i:Nat) (x:Str),nm[i]? = some x->(env.kindOf x=some .cell∨env.kindOf x=some .free) ->
  ∃ c ov,env.cells.lookup x=some c/\s.heap.IsCell c ov/\OptRel X.h₀ φ s.heap ((ρ[i]?).getD none) ov/\LitRel X.gl.lits i s.toks ov
 above:X.h₀.objs.size<=env.locals
 aboveC:∀ x c,env.cells.lookup x=some c->X.h₀.objs.size<=c
 cellAll:∀ x c,env.cells.lookup x=some c->∃ ov,s.heap.IsCell c ov
 apart:∀ x y c,env.cells.lookup x=some c->env.cells.lookup y=some c->x=y
theorem OptRel.mono {h₀ φ φ' h h'}{v:Option V}{o:Option Value}(r:OptRel h₀ φ h v o) (hr:∀ v x,VRel h₀ φ h v x->VRel h₀ φ' h' v x):OptRel h₀ φ' h' v o:=by
 cases v with
 | none=>trivial
 | some v=>obtain ⟨x,e,q⟩:=r;exact ⟨x,e,hr _ _ q⟩
theorem EnvOk.fwd {X φ nm env ρ s φ' H H' s'}(L:EnvOk X φ nm env ρ s) (K:Ok X.h₀ φ H s.heap) (F:Fwd X.h₀ φ s φ' H' s'):EnvOk X φ' nm env ρ s':=by
 have hr:∀ v x,VRel X.h₀ φ s.heap v x->VRel X.h₀ φ' s'.heap v x:=fun v x r=>F.val K r
 refine ⟨L.kind,L.glob,L.blt,L.len,L.nodup,fun hp=>Nat.lt_of_lt_of_le (L.pos hp) F.step.toks,?_,?_,L.above,L.aboveC,?_,L.apart⟩
 ·obtain ⟨m,⟨o,es,ep,ho,hd,q⟩,hm⟩:=L.locals
  have hn:env.locals ∉ φ:=fun hm=>by
   obtain ⟨vs,n,e⟩:=K.mem hm
   rw [e] at ho;cases ho;simp at hd
  exact ⟨m,⟨o,es,ep,F.step.keep _ _ hn ho,hd,q⟩,fun i x hx hk=>⟨(hm i x hx hk).1.mono hr,(hm i x hx hk).2.mono F.step.toks⟩⟩
 ·intro i x hx hk
  obtain ⟨c,ov,hc,⟨o,ho,hd⟩,r,lr⟩:=L.cells i x hx hk
  have hn:c ∉ φ:=fun hm=>by
   obtain ⟨vs,n,e⟩:=K.mem hm
   rw [e] at ho;cases ho;simp at hd
  exact ⟨c,ov,hc,⟨o,F.step.keep _ _ hn ho,hd⟩,r.mono hr,lr.mono F.step.toks⟩
 ·intro x c hc
  obtain ⟨ov,o,ho,hd⟩:=L.cellAll x c hc
  have hn:c ∉ φ:=fun hm=>by
   obtain ⟨vs,n,e⟩:=K.mem hm
   rw [e] at ho;cases ho;simp at hd
  exact ⟨ov,o,F.step.keep _ _ hn ho,hd⟩
noncomputable def bltFns:List String:=["len", "isinstance", "ord"]
noncomputable def bltTys:List String:=["str", "int", "bool", "list", "tuple", "range", "enumerate"]
structure Gnd (X:Cx):Prop where
 g:X.h₀.Ns mainGlobals X.mg
 b:X.h₀.Ns builtinsNs X.mb
 nolimit:X.h₀.NoLimit
 globs:∀ g i,(g,i)∈X.gl.intL->∃ t,X.mg (Str.ofString g)=some (.int i t)
 fns:∀ f ls,X.gl.fns.lookup f=some ls->∃ fn fa o params body scope pm cd doc,X.P f=some fn/\fn.lits=ls/\X.mg (Str.ofString f)=some (.ref fa)/\X.h₀.get? fa=some o /\
  o.data=.func (docDef (Str.ofString f) params body scope pm cd doc)/\X.h₀.CodeRec cd (Str.ofString f)/\Mini.chkFn X.gl fn params body scope=true
 bf:∀ n∈bltFns,X.mg (Str.ofString n)=none/\X.mb (Str.ofString n)=some (.builtin n)
 bt:∀ n∈bltTys,X.mg (Str.ofString n)=none/\X.mb (Str.ofString n)=some (.type n)
abbrev Mdl (X:Cx):Model:=model X.prog X.w
noncomputable def PostOk (X:Cx) (Q:V->Mini.Heap->Prop) (φ:List Addr) (s:Shared) (K:Value->Shared->Prop):Prop :=
 ∀ v H' φ' x s',Q v H'->Fwd X.h₀ φ s φ' H' s'->VRel X.h₀ φ' s'.heap v x->K x s'
noncomputable def SndE (X:Cx) (A:Around) (C:Mini.Calls) (e:Mini.E):Prop :=
 ∀ (re:Expr) (env:Env) (nm:List Str) (ρ:Mini.Env) (Q:V->Mini.Heap->Prop) (H:Mini.Heap) (φ:List Addr) (s:Shared) (K EX:Value->Shared->Prop),
  Mini.chkE X.gl env.scope.names nm e re=true->EnvOk X φ nm env ρ s->Ok X.h₀ φ H s.heap->Mini.wpE C e ρ Q H->PostOk X Q φ s K ->
  wpAny (Mdl X) A (eval re env) K EX s
section
variable {X:Cx}{A:Around}{C:Mini.Calls}
theorem snd_none:SndE X A C .none:=by
 intro re env nm ρ Q H φ s K EX hc L O h k
 refine Mini.inv_none hc fun k9 p e9=>?_
 clear hc;subst e9
 ·exact wpAny_pure (k _ _ _ _ _ h (Fwd.refl O) (by unfold VRel;rfl))
theorem snd_bool {b:Bool}:SndE X A C (.bool b):=by
 intro re env nm ρ Q H φ s K EX hc L O h k
 refine Mini.inv_bool hc fun k9 p e9=>?_
 clear hc;subst e9
 ·exact wpAny_pure (k _ _ _ _ _ h (Fwd.refl O) (by unfold VRel;rfl))
theorem snd_int {i:Int}:SndE X A C (.int i):=by
 intro re env nm ρ Q H φ s K EX hc L O h k
 refine Mini.inv_int hc fun k9 p e9=>?_
 clear hc;subst e9
 ·exact wpAny_Constant_int (k _ _ _ _ _ h (Fwd.tok O) (by unfold VRel;exact ⟨_,rfl⟩))
theorem snd_str {l:List Nat}:SndE X A C (.str l):=by
 intro re env nm ρ Q H φ s K EX hc L O h k
 refine Mini.inv_str hc fun x k9 p e9 hx9 hl=>?_
 clear hc;subst e9
 ·subst hx9
  exact Constant_str (k _ _ _ _ _ h (Fwd.tok O) (by unfold VRel;exact ⟨hl,s.toks,by simp⟩))
theorem load_var {env:Env}{nm:List Str}{ρ:Mini.Env}{φ:List Addr}{s:Shared}{K EX:Value->Shared->Prop}{id:Str}{x:Nat}{v:V}
  (L:EnvOk X φ nm env ρ s) (hx:nm[x]? = some id) (hl:Mini.isLoc env.scope.names id=true) (hv:ρ[x]? = some (some v))
  (k:∀ y,VRel X.h₀ φ s.heap v y->LitRel X.gl.lits x s.toks (some y)->K y s) (hcl:(id==("__classdict__" : Str))=false):wpAny (Mdl X) A (loadName env id) K EX s:=by
 have hkind:env.kindOf id=env.scope.names.lookup id:=rfl
 unfold Mini.isLoc at hl
 split at hl
 ·rename_i e
  obtain ⟨m,hns,hm⟩:=L.locals
  have r:=hm x id hx (hkind.trans e)
  rw [hv] at r
  obtain ⟨⟨y,ey,q⟩,lr⟩:=r
  exact wpAny_loadName_local L.kind (hkind.trans e) hns ey (k y q (ey▸lr))
 ·rename_i e
  obtain ⟨c,ov,hc,hcell,r,lr⟩:=L.cells x id hx (Or.inl (hkind.trans e))
  rw [hv] at r
  obtain ⟨y,ey,q⟩:=r
  subst ey
  exact wpAny_loadName_cell L.kind (hkind.trans e) hc hcell (k y q lr)
 ·rename_i e
  obtain ⟨c,ov,hc,hcell,r,lr⟩:=L.cells x id hx (Or.inr (hkind.trans e))
  rw [hv] at r
  obtain ⟨y,ey,q⟩:=r
  subst ey
  exact wpAny_loadName_free L.kind (hkind.trans e) hc hcell (k y q lr) hcl
 ·cases hl
theorem free {α:Type}{M:Model}{A:Around}{t:Sem α}{K:α->Shared->Prop}{EX:Value->Shared->Prop}{s:Shared}
  (h:wpAny M A t (fun x s'=>s.toks<=s'.toks->K x s') EX s):wpAny M A t K EX s :=
 wpAny_mono (wpAny_toks_of (Nat.le_refl s.toks) h) (fun _ _ q=>q.2 q.1) fun _ _ q=>q.2
end
end MiniS
namespace MiniS
open PySem PySem.Calls PyProof.Rows
open Mini (V)
section
variable {X:Cx}{A:Around}{C:Mini.Calls}
theorem PostOk.after {Q:V->Mini.Heap->Prop}{φ:List Addr}{s:Shared}{K:Value->Shared->Prop}{φ₁:List Addr}{H₁:Mini.Heap}{s₁:Shared}
  (k:PostOk X Q φ s K) (F:Fwd X.h₀ φ s φ₁ H₁ s₁):PostOk X Q φ₁ s₁ K :=
 fun v H' φ' x s' q F' r=>k v H' φ' x s' q (F.trans F') r
theorem snd_var {x:Nat}:SndE X A C (.var x):=by
 intro re env nm ρ Q H φ s K EX hc L O h k
 refine Mini.inv_var hc fun id p e9 hc9=>?_
 clear hc;subst e9
 ·simp only [Bool.and_eq_true,beq_iff_eq] at hc9
  obtain ⟨⟨h1,h2⟩,h3⟩:=hc9
  simp only [Mini.noDebug,Bool.and_eq_true,Bool.not_eq_true'] at h3
  replace h:=Mini.un_var h
  split at h
  ·rename_i v hv
   exact wpAny_Name (load_var L h1 h2 hv (fun y r _=>k _ _ _ _ _ h (Fwd.refl O) r) h3.2) h3.1
  ·exact h.elim
theorem load_glob (G:Gnd X) {env:Env}{nm:List Str}{ρ:Mini.Env}{φ:List Addr}{H:Mini.Heap}{s:Shared}{K EX:Value->Shared->Prop}{id:Str}{v:Value}{p:Pos}
  (L:EnvOk X φ nm env ρ s) (O:Ok X.h₀ φ H s.heap) (hg:Mini.isGlob env.scope.names id=true) (hd:(id==("__debug__" : Str))=false) (hv:X.mg id=some v) (k:K v s) :
  wpAny (Mdl X) A (eval (.Name id p) env) K EX s:=by
 have hkind:env.kindOf id=some .globalImplicit:=by
  show env.scope.names.lookup id=_
  unfold Mini.isGlob at hg
  split at hg
  ·assumption
  ·cases hg
 exact Name_function_global L.kind hkind (loadGlobal_global (by rw [L.glob];exact G.g.keeps O.base) hv k) hd
theorem load_blt (G:Gnd X) {env:Env}{nm:List Str}{ρ:Mini.Env}{φ:List Addr}{H:Mini.Heap}{s:Shared}{K EX:Value->Shared->Prop}{id:Str}{v:Value}{p:Pos}
  (L:EnvOk X φ nm env ρ s) (O:Ok X.h₀ φ H s.heap) (hg:Mini.isGlob env.scope.names id=true) (hd:(id==("__debug__" : Str))=false) (hn:X.mg id=none) (hv:X.mb id=some v) (k:K v s) :
  wpAny (Mdl X) A (eval (.Name id p) env) K EX s:=by
 have hkind:env.kindOf id=some .globalImplicit:=by
  show env.scope.names.lookup id=_
  unfold Mini.isGlob at hg
  split at hg
  ·assumption
  ·cases hg
 exact Name_function_global L.kind hkind (loadGlobal_builtin (by rw [L.glob];exact G.g.keeps O.base) hn (by rw [L.blt];exact G.b.keeps O.base) hv k) hd
theorem snd_glob (G:Gnd X) {g:String}{i:Int}:SndE X A C (.glob g i):=by
 intro re env nm ρ Q H φ s K EX hc L O h k
 refine Mini.inv_glob hc fun id p e9 hc9=>?_
 clear hc;subst e9
 ·simp only [Bool.and_eq_true,beq_iff_eq] at hc9
  obtain ⟨⟨⟨h1,h2⟩,h3⟩,h4⟩:=hc9
  subst h1
  simp only [Mini.noDebug,Bool.and_eq_true,Bool.not_eq_true'] at h4
  obtain ⟨t,ht⟩:=G.globs g i (by simpa using h2)
  replace h:=Mini.un_glob h
  exact load_glob G L O h3 h4.1 ht (k _ _ _ _ _ h (Fwd.refl O) (by unfold VRel;exact ⟨_,rfl⟩))
theorem sizeLine_lim:sizeLine=Mini.lim:=by decide +kernel
theorem intBits_small {a:Int}(h:a.natAbs<1152921504606846976):Builtin.Int.intBits a<=64:=by
 unfold Builtin.Int.intBits
 split
 ·lia
 ·rename_i h0
  have h0:a.natAbs≠0:=by simpa using h0
  have:a.natAbs.log2<60:=(Nat.log2_lt h0).mpr (by simpa using h)
  lia
theorem vrel_int {h₀ φ h}{i:Int}{x:Value}(r:VRel h₀ φ h (.int i) x):∃ t,x=.int i t:=by unfold VRel at r;exact r
theorem vrel_str {h₀ φ h}{l:List Nat}{x:Value}(r:VRel h₀ φ h (.str l) x):∃ t,x=.str ⟨l.toArray⟩ t:=by unfold VRel at r;exact r.2
theorem len_str {h₀ φ h}{l:List Nat}{x:Value}(r:VRel h₀ φ h (.str l) x):l.length<=Mini.lim:=by unfold VRel at r;exact r.1
theorem len_tup {h₀ φ h}{l:List V}{x:Value}(r:VRel h₀ φ h (.tup l) x):l.length<=Mini.lim:=by unfold VRel at r;exact r.1
theorem vrel_frz {h₀ φ h}{l:List Int}{x:Value}(r:VRel h₀ φ h (.frz l) x):l.length<=Mini.lim/\∃ a vs,x=.ref a/\h₀.IsList a vs.toArray/\IntsOf l vs:=by unfold VRel at r;exact r
theorem vrel_ref {h₀ φ h}{i:Nat}{x:Value}(r:VRel h₀ φ h (.ref i) x):∃ a,φ[i]? = some a/\x=.ref a:=by unfold VRel at r;exact r
theorem vrel_bool {h₀ φ h}{b:Bool}{x:Value}(r:VRel h₀ φ h (.bool b) x):x=.bool b:=by unfold VRel at r;exact r
theorem vrel_none {h₀ φ h}{x:Value}(r:VRel h₀ φ h .none x):x=.none:=by unfold VRel at r;exact r
theorem vrel_tup {h₀ φ h}{l:List V}{x:Value}(r:VRel h₀ φ h (.tup l) x):∃ a vs,x=.ref a/\IsTup h a vs.toArray/\VRels h₀ φ h l vs:=by unfold VRel at r;exact r.2
theorem mk_int {h₀ φ h}{i:Int}{t:Tok}:VRel h₀ φ h (.int i) (.int i t):=by unfold VRel;exact ⟨_,rfl⟩
theorem mk_bool {h₀ φ h}{b:Bool}:VRel h₀ φ h (.bool b) (.bool b):=by unfold VRel;rfl
theorem mk_str {h₀ φ h}{l:List Nat}{t:Tok}(hl:l.length<=Mini.lim):VRel h₀ φ h (.str l) (.str ⟨l.toArray⟩ t):=by unfold VRel;exact ⟨hl,_,rfl⟩
theorem mk_str' {h₀ φ h}{l:List Nat}{x:Str}{t:Tok}(e:x=⟨l.toArray⟩) (hl:l.length<=Mini.lim):VRel h₀ φ h (.str l) (.str x t):=by subst e;exact mk_str hl
theorem mk_ref {h₀ φ h}{i:Nat}{a:Addr}(e:φ[i]? = some a):VRel h₀ φ h (.ref i) (.ref a):=by unfold VRel;exact ⟨_,e,rfl⟩
theorem foldl_app (l:List (List Nat)):∀ a:List Nat,(l.map List.toArray).foldl (· ++ ·) a.toArray=(a++l.flatten).toArray:=by
 induction l with
 | nil=>intro a;simp
 | cons x r ih=>intro a;simp only [List.map_cons,List.foldl_cons,List.append_toArray,ih,List.flatten_cons,List.append_assoc]
theorem txt_mul (l:List Nat) (n:Int):Txt.mul ⟨l.toArray⟩ n=⟨(List.replicate n.toNat l).flatten.toArray⟩:=by
 unfold Txt.mul
 split
 ·have:n.toNat=0:=by lia
  rw [this];rfl
 ·split
  ·rename_i h1 h2
   simp only [Bool.or_eq_true,beq_iff_eq] at h2
   rcases h2 with h2 | h2
   ·subst h2;simp
   ·have:l=[]:=by simpa [Str.length] using h2
    subst this;simp
  ·have:=foldl_app (List.replicate n.toNat l) []
   simp only [List.map_replicate,List.nil_append] at this
   exact congrArg Str.mk this
theorem foldl_appV (l:List (List Value)):∀ a:List Value,(l.map List.toArray).foldl (fun x y=>x++y) a.toArray=(a++l.flatten).toArray:=by
 induction l with
 | nil=>intro a;simp
 | cons x r ih=>intro a;simp only [List.map_cons,List.foldl_cons,List.append_toArray,ih,List.flatten_cons,List.append_assoc]
theorem VRels.replicate {h₀ φ h}{l:List V}{vs:List Value}(r:VRels h₀ φ h l vs):∀ n:Nat,VRels h₀ φ h (List.replicate n l).flatten (List.replicate n vs).flatten
 | 0=>by simpa using VRels.nil
 | n+1=>by
  simp only [List.replicate_succ,List.flatten_cons]
  exact r.append (VRels.replicate r n)
theorem Fwd.newRef {h₀ φ s H}{l:List V}{tk:Nat}{ob:Obj}(_:Fwd h₀ φ s (φ++[s.heap.objs.size]) (H++[l]) { s with heap:=s.heap.push ob,toks:=tk }) (O:Ok h₀ φ H s.heap) :
  VRel h₀ (φ++[s.heap.objs.size]) (s.heap.push ob) (.ref H.length) (.ref s.heap.objs.size) :=
 mk_ref (by rw [<- O.len];simp)
theorem snd_addV {a b v:V}{x y:Value}{Q:V->Mini.Heap->Prop}{H H':Mini.Heap}{φ:List Addr}{s:Shared}{K EX:Value->Shared->Prop}
  (O:Ok X.h₀ φ H s.heap) (ra:VRel X.h₀ φ s.heap a x) (rb:VRel X.h₀ φ s.heap b y) (h:Mini.addV a b H=some (v,H')) (q:Q v H') (k:PostOk X Q φ s K) :
  wpAny (Mdl X) A (binaryOp .Add x y) K EX s:=by
 unfold Mini.addV at h
 split at h
 ·replace h:=Mini.onInt_ok h;obtain ⟨j,rfl,h⟩:=h
  cases h
  obtain ⟨t,rfl⟩:=vrel_int ra
  obtain ⟨u,rfl⟩:=vrel_int rb
  exact add_int (k _ _ _ _ _ q (Fwd.tok O) mk_int)
 ·replace h:=Mini.onStr_ok h;obtain ⟨j,rfl,h⟩:=h
  obtain ⟨hc,h⟩:=Mini.ite_ok h
  cases h
  obtain ⟨t,rfl⟩:=vrel_str ra
  obtain ⟨u,rfl⟩:=vrel_str rb
  refine free (PyProof.Rows.add_str (fun t' tk ht=>k _ _ _ _ _ q (Fwd.tok O ht) (mk_str' ?_ (by simpa using hc))) ?_)
  ·show Str.append _ _=_
   simp [Str.append]
  ·simpa [Str.length,sizeLine_lim] using hc
 ·replace h:=Mini.onRef_ok h;obtain ⟨j,rfl,h⟩:=h
  obtain ⟨pa,ea,rfl⟩:=vrel_ref ra
  obtain ⟨pb,eb,rfl⟩:=vrel_ref rb
  obtain ⟨l,hl,h⟩:=Option.bind_eq_some_iff.mp h
  obtain ⟨r,hr,h⟩:=Option.bind_eq_some_iff.mp h
  obtain ⟨hc,h⟩:=Mini.ite_ok h
  cases h
  obtain ⟨vs,⟨n,e⟩,q1⟩:=O.lists _ _ _ ea hl
  obtain ⟨vs',⟨n',e'⟩,q2⟩:=O.lists _ _ _ eb hr
  have F:=Fwd.alloc (n:=0) (tk:=s.toks) O (q1.append q2) (by simpa using hc)
  refine P.add_list (n:=n) (n2:=n') e e' ?_ ?_
  ·have:(vs.toArray++vs'.toArray)=(vs++vs').toArray:=by simp
   rw [this]
   exact k _ _ _ _ _ q F (Fwd.newRef F O)
  ·rw [sizeLine_lim];simp [<- q1.length,<- q2.length];exact hc
 ·cases h
theorem snd_mulV {a b v:V}{x y:Value}{Q:V->Mini.Heap->Prop}{H H':Mini.Heap}{φ:List Addr}{s:Shared}{K EX:Value->Shared->Prop}
  (O:Ok X.h₀ φ H s.heap) (ra:VRel X.h₀ φ s.heap a x) (rb:VRel X.h₀ φ s.heap b y) (h:Mini.mulV a b H=some (v,H')) (q:Q v H') (k:PostOk X Q φ s K) :
  wpAny (Mdl X) A (binaryOp .Mult x y) K EX s:=by
 unfold Mini.mulV at h
 split at h
 ·replace h:=Mini.onInt_ok h;obtain ⟨j,rfl,h⟩:=h
  obtain ⟨hc,h⟩:=Mini.ite_ok h
  cases h
  obtain ⟨t,rfl⟩:=vrel_int ra
  obtain ⟨u,rfl⟩:=vrel_int rb
  refine mul_int (k _ _ _ _ _ q (Fwd.tok O) mk_int) ?_
  rcases hc with hc | hc
  ·exact IntMulOk.of_left (intBits_small hc)
  ·exact IntMulOk.of_right (intBits_small hc)
 ·rename_i a
  replace h:=Mini.onInt_ok h;obtain ⟨n,rfl,h⟩:=h
  obtain ⟨hc,h⟩:=Mini.ite_ok h
  cases h
  obtain ⟨t,rfl⟩:=vrel_str ra
  obtain ⟨u,rfl⟩:=vrel_int rb
  refine free (SB.mul ?_ (fun t' tk ht=>k _ _ _ _ _ q (Fwd.tok O ht) (mk_str' (txt_mul _ _) (by simpa [Nat.mul_comm] using hc.1))))
  obtain ⟨h1,h2,h3⟩:=hc
  refine ⟨by simp;lia,fun hn _=>?_,fun hn _=>?_⟩
  ·have hn:1<=n:=by lia
   simp only [Str.length,List.size_toArray]
   intro hgt
   have h4:(a.length:Int) * n<=Mini.lim:=by
    have:(n.toNat:Int)=n:=by lia
    rw [<- this];exact_mod_cast h1
   have h5:(2 ^ 63 - 1:Int) / n<a.length:=hgt
   have h6:(2 ^ 63 - 1:Int)<a.length * n:=Int.lt_mul_of_ediv_lt (by lia) h5
   have:(Mini.lim:Int)=16777216:=rfl
   lia
  ·simp only [Str.length,List.size_toArray,Builtin.Str.tooLong,decide_eq_false_iff_not,Nat.not_lt]
   rw [sizeLine_lim];exact h1
 ·replace h:=Mini.onInt_ok h;obtain ⟨n,rfl,h⟩:=h
  obtain ⟨pa,ea,rfl⟩:=vrel_ref ra
  obtain ⟨u,rfl⟩:=vrel_int rb
  obtain ⟨l,hl,h⟩:=Option.bind_eq_some_iff.mp h
  obtain ⟨hc,h⟩:=Mini.ite_ok h
  cases h
  obtain ⟨h1,h2,h3⟩:=hc
  obtain ⟨vs,⟨m,e⟩,q1⟩:=O.lists _ _ _ ea hl
  have FF:=Fwd.alloc (n:=0) (tk:=s.toks) O (VRels.replicate q1 n.toNat) (by simpa [Nat.mul_comm] using h1)
  have hz9:vs.toArray.size * n.toNat<=16777216:=by rw [List.size_toArray,<- q1.length];exact h1
  refine wpAny_binaryOp_repeat_ref (T := "list") (U := "int") (by decide) ⟨_,e,rfl⟩ (fun s'=>typeIs_int s' n u) noFill_list_mul F.fills_int_mul F.slot_int_rmul repeat_list F.slot_int_index.lookup
   (call_meets F.slot_int_rmul (typeIs_int s n u) F.entry_int_rmul (F.args_int_rmul_2 _ _) (int___rmul___int_list n u pa _ m)
    ⟨e,rfl,⟨_,e,rfl⟩,call_meets F.slot_list_mul ⟨_,e,rfl⟩ F.entry_list_mul (F.args_list_mul_2 _ _)
     (AutoListH.list___mul___list_int_3 pa _ m n u (by simp [Builtin.List.listFitsIndex];lia) (by lia) ?_)
     ⟨e,?_⟩⟩)
  ·simp only [Builtin.List.listTooLong,List.size_toArray,<- q1.length,decide_eq_true_eq,Nat.not_lt]
   rw [sizeLine_lim];exact h1
  ·have e9:(List.foldl (fun x1 x2=>x1++x2) #[] (List.replicate (if vs.toArray.isEmpty=true then 0 else n.toNat) vs.toArray))=(List.replicate n.toNat vs).flatten.toArray:=by
    by_cases hv:vs=[]
    ·subst hv;simp
    ·rw [if_neg (by simpa using hv)]
     have:=foldl_appV (List.replicate n.toNat vs) []
     simp only [List.map_replicate,List.nil_append] at this
     exact this
   rw [e9]
   exact k _ _ _ _ _ q FF (Fwd.newRef FF O)
 ·cases h
theorem snd_binV {o:Mini.Op}{o':Operator}{a b:V}{x y:Value}{Q:V->Mini.Heap->Prop}{H:Mini.Heap}{φ:List Addr}{s:Shared}{K EX:Value->Shared->Prop}
  (ho:Mini.opIs o o'=true) (O:Ok X.h₀ φ H s.heap) (ra:VRel X.h₀ φ s.heap a x) (rb:VRel X.h₀ φ s.heap b y) (h:Mini.res (Mini.binV o a b H) Q) (k:PostOk X Q φ s K) :
  wpAny (Mdl X) A (binaryOp o' x y) K EX s:=by
 obtain ⟨v,H',h9,q⟩:=Mini.res_ok h
 clear h
 have h:=h9
 clear h9
 obtain rfl:o'=_:=eq_of_beq ho
 clear ho
 cases o
 ·exact snd_addV O ra rb h q k
 ·replace h:=Mini.onInt_ok h;obtain ⟨i,rfl,h⟩:=h
  replace h:=Mini.onInt_ok h;obtain ⟨j,rfl,h⟩:=h
  cases h
  obtain ⟨t,rfl⟩:=vrel_int ra
  obtain ⟨u,rfl⟩:=vrel_int rb
  exact sub_int (k _ _ _ _ _ q (Fwd.tok O) mk_int)
 ·exact snd_mulV O ra rb h q k
 ·replace h:=Mini.onInt_ok h;obtain ⟨i,rfl,h⟩:=h
  replace h:=Mini.onInt_ok h;obtain ⟨j,rfl,h⟩:=h
  obtain ⟨hc,h⟩:=Mini.ite_ok h
  cases h
  obtain ⟨t,rfl⟩:=vrel_int ra
  obtain ⟨u,rfl⟩:=vrel_int rb
  refine floordiv_int (by lia) ?_ (Or.inl (PyProof.noPylong_small (by lia)))
  rw [Int.fdiv_eq_ediv_of_nonneg i (by lia)]
  exact (k _ _ _ _ _ q (Fwd.tok O) mk_int)
 ·replace h:=Mini.onInt_ok h;obtain ⟨i,rfl,h⟩:=h
  replace h:=Mini.onInt_ok h;obtain ⟨j,rfl,h⟩:=h
  obtain ⟨hc,h⟩:=Mini.ite_ok h
  cases h
  obtain ⟨t,rfl⟩:=vrel_int ra
  obtain ⟨u,rfl⟩:=vrel_int rb
  refine mod_int' (by lia) ?_
  rw [Int.fmod_eq_emod_of_nonneg i (by lia)]
  exact (k _ _ _ _ _ q (Fwd.tok O) mk_int)
 ·nomatch h
end
end MiniS
namespace MiniS
open PySem PySem.Calls PyProof.Rows
open Mini (V D)
mutual
noncomputable def toPy:D->PyData
 | .none=>.none
 | .bool b=>.bool b
 | .int i=>.int i
 | .str s=>.str ⟨s.toArray⟩
 | .list l=>.list (toPys l)
 | .tup l=>.tuple (toPys l)
noncomputable def toPys:List D->List PyData
 | []=>[]
 | d::l=>toPy d::toPys l
end
mutual
theorem eqD_toPy:∀ a b:D,Mini.eqD a b=PyData.eqv (toPy a) (toPy b)
 | .none,b=>by cases b<;>rfl
 | .bool _,b=>by cases b<;>rfl
 | .int _,b=>by cases b<;>rfl
 | .str x,b=>by
  cases b with
  | str y =>
   show (x==y)=((⟨x.toArray⟩:Str)==⟨y.toArray⟩)
   by_cases h:x=y
   ·subst h;simp
   ·have:(x==y)=false:=by simpa using h
    rw [this]
    symm
    simp [h]
  | _=>rfl
 | .list l,b=>by
  cases b with
  | list r=>exact eqDs_toPy l r
  | _=>rfl
 | .tup l,b=>by
  cases b with
  | tup r=>exact eqDs_toPy l r
  | _=>rfl
theorem eqDs_toPy:∀ a b:List D,Mini.eqDs a b=PyData.eqvAll (toPys a) (toPys b)
 | [],b=>by cases b<;>rfl
 | x::l,b=>by
  cases b with
  | nil=>rfl
  | cons y r=>show (Mini.eqD x y&&Mini.eqDs l r)=(PyData.eqv (toPy x) (toPy y)&&PyData.eqvAll (toPys l) (toPys r));rw [eqD_toPy x,eqDs_toPy l]
end
section
variable {h₀:Heap}{φ:List Addr}{H:Mini.Heap}{h:Heap}
theorem rdL_ok {f:V->Option D}{v:V}{l:List V}{ds:List D}(e:Mini.rdL f (v::l)=some ds):∃ d ds',ds=d::ds'/\f v=some d/\Mini.rdL f l=some ds':=by
 replace e:(match f v with | some d=>(Mini.rdL f l).map (d::·) | none=>none)=some ds:=e
 cases hd:f v with
 | none=>rw [hd] at e;cases e
 | some d =>
  rw [hd] at e
  obtain ⟨ds',h1,h2⟩:=Option.map_eq_some_iff.mp e
  exact ⟨d,ds',h2.symm,rfl,h1⟩
theorem readsAll_of {f:V->Option D}(hf:∀ v d x,f v=some d->VRel h₀ φ h v x->∃ as,Reads h x (toPy d) as) :
  ∀ (l:List V) (ds:List D) (vs:List Value),Mini.rdL f l=some ds->VRels h₀ φ h l vs->∃ as,ReadsAll h vs (toPys ds) as
 | [],ds,vs,e,r=>by
  have:=r.unnil;subst this
  cases (show some []=some ds from e)
  exact ⟨[],.nil⟩
 | v::l,ds,vs,e,r=>by
  obtain ⟨x,vs',rfl,r1,r2⟩:=r.uncons
  obtain ⟨d,ds',rfl,hd,e9⟩:=rdL_ok e
  obtain ⟨as,ra⟩:=hf v d x hd r1
  obtain ⟨bs,rb⟩:=readsAll_of hf l ds' vs' e9 r2
  exact ⟨as++bs,.cons ra rb⟩
theorem reads_of (O:Ok h₀ φ H h):∀ (n:Nat) (v:V) (d:D) (x:Value),Mini.rd H n v=some d->VRel h₀ φ h v x->∃ as,Reads h x (toPy d) as
 | 0,_,_,_,e,_=>nomatch (show none=some _ from e)
 | n+1,v,d,x,e,r=>by
  unfold Mini.rd at e
  split at e
  ·cases e;obtain rfl:=vrel_none r;exact ⟨[],by unfold toPy;exact .none⟩
  ·cases e;obtain rfl:=vrel_bool r;exact ⟨[],by unfold toPy;exact .bool _⟩
  ·cases e;obtain ⟨t,rfl⟩:=vrel_int r;exact ⟨[],by unfold toPy;exact .int _ _⟩
  ·split at e
   ·cases e;obtain ⟨t,rfl⟩:=vrel_str r;exact ⟨[],by unfold toPy;exact .str _ _⟩
   ·cases e
  ·rename_i l
   obtain ⟨a,vs,rfl,⟨o,ho,hc,m,hd⟩,rs⟩:=vrel_tup r
   cases e9:Mini.rdL (Mini.rd H n) l with
   | none=>rw [e9] at e;cases e
   | some ds =>
    rw [e9] at e
    simp at e;subst e
    obtain ⟨as,ra⟩:=readsAll_of (fun v d x=>reads_of O n v d x) l ds vs e9 rs
    exact ⟨as,by unfold toPy;exact .tuple ho hc hd (by simpa using ra)⟩
  ·rename_i a
   split at e
   ·rename_i l hl
    obtain ⟨p,hp,rfl⟩:=vrel_ref r
    obtain ⟨vs,⟨m,ho⟩,rs⟩:=O.lists _ _ _ hp hl
    cases e9:Mini.rdL (Mini.rd H n) l with
    | none=>rw [e9] at e;cases e
    | some ds =>
     rw [e9] at e
     simp at e;subst e
     obtain ⟨as,ra⟩:=readsAll_of (fun v d x=>reads_of O n v d x) l ds vs e9 rs
     exact ⟨p::as,by unfold toPy;exact .list ho rfl rfl (by simpa using ra)⟩
   ·cases e
  ·cases e
theorem canLay_of {n:Nat}{f:V->Option D}(hf:∀ v d,f v=some d->(toPy d).canLay0=true/\(toPy d).depth<=n) :
  ∀ (l:List V) (ds:List D),Mini.rdL f l=some ds->PyData.canLayAll0 (toPys ds)=true/\PyData.depthAll (toPys ds)<=n
 | [],ds,e=>by
  simp [Mini.rdL] at e;subst e
  simp [toPys,PyData.canLayAll0,PyData.depthAll]
 | v::l,ds,e=>by
  unfold Mini.rdL at e
  split at e
  ·rename_i d hd
   cases e9:Mini.rdL f l with
   | none=>rw [e9] at e;cases e
   | some ds' =>
    rw [e9] at e
    simp at e;subst e
    have h1:=hf v d hd
    have h2:=canLay_of hf l ds' e9
    simp only [toPys,PyData.canLayAll0,PyData.depthAll,h1.1,h2.1,Bool.and_self,true_and]
    lia
  ·cases e
theorem canLay_rd:∀ (n:Nat) (v:V) (d:D),Mini.rd H n v=some d->(toPy d).canLay0=true/\(toPy d).depth<=n
 | 0,_,_,e=>nomatch (show none=some _ from e)
 | n+1,v,d,e=>by
  unfold Mini.rd at e
  split at e
  ·cases e;simp [toPy,PyData.canLay0,PyData.depth]
  ·cases e;simp [toPy,PyData.canLay0,PyData.depth]
  ·cases e;simp [toPy,PyData.canLay0,PyData.depth]
  ·split at e
   ·rename_i hs
    cases e
    simp only [toPy,PyData.canLay0,PyData.depth,Nat.zero_le,and_true]
    unfold PyData.strOk
    simp only [List.all_eq_true,decide_eq_true_eq] at hs
    simp only [List.all_toArray',List.size_toArray,List.all_eq_true,decide_eq_true_eq]
    exact hs
   ·cases e
  ·rename_i l
   cases e9:Mini.rdL (Mini.rd H n) l with
   | none=>rw [e9] at e;cases e
   | some ds =>
    rw [e9] at e
    simp at e;subst e
    have:=canLay_of (fun v d=>canLay_rd n v d) l ds e9
    simp only [toPy,PyData.canLay0,PyData.depth]
    exact ⟨this.1,by lia⟩
  ·split at e
   ·rename_i l hl
    cases e9:Mini.rdL (Mini.rd H n) l with
    | none=>rw [e9] at e;cases e
    | some ds =>
     rw [e9] at e
     simp at e;subst e
     have:=canLay_of (fun v d=>canLay_rd n v d) l ds e9
     simp only [toPy,PyData.canLay0,PyData.depth]
     exact ⟨this.1,by lia⟩
   ·cases e
  ·cases e
end
theorem any_toPys (l:List D) (d:D):((toPys l).any fun y=>PyData.eqv y (toPy d))=l.any fun y=>Mini.eqD y d:=by
 induction l with
 | nil=>simp [toPys]
 | cons x r ih=>simp [toPys,ih,eqD_toPy]
theorem eqV_ok {a b:V}{H:Mini.Heap}{t:Bool}(h:Mini.eqV a b H=some t):(∃ i j:Int,a=.int i/\b=.int j/\(i==j)=t)∨(∃ i j:List Nat,a=.str i/\b=.str j/\(i==j)=t)∨Mini.deepEq a b H=some t:=by
 unfold Mini.eqV at h
 split at h
 ·rename_i u e
  cases h
  unfold Mini.flatEq at e
  split at e
  ·replace e:=Mini.onInt_ok e;obtain ⟨j,rfl,e⟩:=e
   exact Or.inl ⟨_,_,rfl,rfl,Option.some.inj e⟩
  ·replace e:=Mini.onBool_ok e;obtain ⟨j,rfl,e⟩:=e
   refine Or.inr (Or.inr ?_)
   rw [<- e];rfl
  ·replace e:=Mini.onStr_ok e;obtain ⟨j,rfl,e⟩:=e
   exact Or.inr (Or.inl ⟨_,_,rfl,rfl,Option.some.inj e⟩)
  ·cases e
 ·exact Or.inr (Or.inr h)
section
variable {X:Cx}{A:Around}{C:Mini.Calls}
theorem snd_eqV {a b:V}{x y:Value}{H:Mini.Heap}{φ:List Addr}{s:Shared}{K EX:Value->Shared->Prop}{t:Bool}(hu:A.units+106<cLine)
  (O:Ok X.h₀ φ H s.heap) (ra:VRel X.h₀ φ s.heap a x) (rb:VRel X.h₀ φ s.heap b y) (h:Mini.eqV a b H=some t) (k:K (.bool t) s) :
  wpAny (Mdl X) A (compareOp .Eq x y) K EX s:=by
 have deep:∀ {u v:D},Mini.rd H Mini.eqDeep a=some u->Mini.rd H Mini.eqDeep b=some v->Mini.eqD u v=t->wpAny (Mdl X) A (compareOp .Eq x y) K EX s:=by
  intro u v e1 e2 e3
  obtain ⟨as,r1⟩:=reads_of O _ _ _ _ e1 ra
  obtain ⟨bs,r2⟩:=reads_of O _ _ _ _ e2 rb
  have c1:=canLay_rd _ _ _ e1
  have c2:=canLay_rd _ _ _ e2
  refine SeqAt.compareEq_reads r1 r2 c1.1 c2.1 ?_ ?_
  ·have:=c1.2
   have e9:Mini.eqDeep=100:=rfl
   lia
  ·rw [<- eqD_toPy,e3];exact k
 rcases eqV_ok h with ⟨a,b,rfl,rfl,rfl⟩ | ⟨a,b,rfl,rfl,rfl⟩ | h
 ·obtain ⟨_,rfl⟩:=vrel_int ra
  obtain ⟨_,rfl⟩:=vrel_int rb
  exact PyProof.Rows.eq_int k
 ·obtain ⟨_,rfl⟩:=vrel_str ra
  obtain ⟨_,rfl⟩:=vrel_str rb
  refine PySem.P.eq_str ?_
  simpa using k
 ·obtain ⟨u,e1,h⟩:=Option.bind_eq_some_iff.mp h
  obtain ⟨v,e2,h⟩:=Option.bind_eq_some_iff.mp h
  exact deep e1 e2 (Option.some.inj h)
theorem snd_neV {a b:V}{x y:Value}{H:Mini.Heap}{φ:List Addr}{s:Shared}{K EX:Value->Shared->Prop}{t:Bool}(hu:A.units+106<cLine)
  (O:Ok X.h₀ φ H s.heap) (ra:VRel X.h₀ φ s.heap a x) (rb:VRel X.h₀ φ s.heap b y) (h:Mini.eqV a b H=some t) (k:K (.bool (!t)) s) :
  wpAny (Mdl X) A (compareOp .NotEq x y) K EX s:=by
 have deep:∀ {u v:D},Mini.rd H Mini.eqDeep a=some u->Mini.rd H Mini.eqDeep b=some v->Mini.eqD u v=t->wpAny (Mdl X) A (compareOp .NotEq x y) K EX s:=by
  intro u v e1 e2 e3
  obtain ⟨as,r1⟩:=reads_of O _ _ _ _ e1 ra
  obtain ⟨bs,r2⟩:=reads_of O _ _ _ _ e2 rb
  have c1:=canLay_rd _ _ _ e1
  have c2:=canLay_rd _ _ _ e2
  refine SeqAt.compareNe_reads r1 r2 c1.1 c2.1 ?_ ?_
  ·have:=c1.2
   have e9:Mini.eqDeep=100:=rfl
   lia
  ·rw [<- eqD_toPy,e3];exact k
 rcases eqV_ok h with ⟨a,b,rfl,rfl,rfl⟩ | ⟨a,b,rfl,rfl,rfl⟩ | h
 ·obtain ⟨_,rfl⟩:=vrel_int ra
  obtain ⟨_,rfl⟩:=vrel_int rb
  exact PyProof.Rows.ne_int k
 ·obtain ⟨_,rfl⟩:=vrel_str ra
  obtain ⟨_,rfl⟩:=vrel_str rb
  refine PySem.P.ne_str ?_
  simpa [bne] using k
 ·obtain ⟨u,e1,h⟩:=Option.bind_eq_some_iff.mp h
  obtain ⟨v,e2,h⟩:=Option.bind_eq_some_iff.mp h
  exact deep e1 e2 (Option.some.inj h)
end
end MiniS
namespace MiniS
open PySem PySem.Calls PyProof.Rows
open Mini (V D)
section
variable {X:Cx}{A:Around}{C:Mini.Calls}
theorem snd_memV {a t:V}{x y:Value}{H:Mini.Heap}{φ:List Addr}{s:Shared}{b:Bool}(hu:A.units+106<cLine)
  (O:Ok X.h₀ φ H s.heap) (ra:VRel X.h₀ φ s.heap a x) (rb:VRel X.h₀ φ s.heap t y) (h:Mini.memV a t H=some b) :
  (∀ {K EX:Value->Shared->Prop},K (.bool b) s->wpAny (Mdl X) A (compareOp .In x y) K EX s) /\
  (∀ {K EX:Value->Shared->Prop},K (.bool (!b)) s->wpAny (Mdl X) A (compareOp .NotIn x y) K EX s):=by
 unfold Mini.memV at h
 split at h
 ·rename_i u l e1 e2
  obtain ⟨as,r1⟩:=reads_of O _ _ _ _ e1 ra
  obtain ⟨bs,r2⟩:=reads_of O _ _ _ _ e2 rb
  have c1:=canLay_rd _ _ _ e1
  have c2:=canLay_rd _ _ _ e2
  simp only [toPy,PyData.canLay0,PyData.depth] at c2
  have e9:Mini.eqDeep=100:=rfl
  cases h
  unfold toPy at r2
  refine ⟨fun k=>SeqAt.in_tuple_reads r2 r1 c2.1 c1.1 (by lia) (by rw [any_toPys];exact k),fun k=>SeqAt.notIn_tuple_reads r2 r1 c2.1 c1.1 (by lia) (by rw [any_toPys];exact k)⟩
 ·cases h
theorem snd_inV {a b:V}{x y:Value}{H:Mini.Heap}{φ:List Addr}{s:Shared}{t:Bool}(hu:A.units+106<cLine)
  (O:Ok X.h₀ φ H s.heap) (ra:VRel X.h₀ φ s.heap a x) (rb:VRel X.h₀ φ s.heap b y) (h:Mini.inV a b H=some t) :
  (∀ {K EX:Value->Shared->Prop},K (.bool t) s->wpAny (Mdl X) A (compareOp .In x y) K EX s) /\
  (∀ {K EX:Value->Shared->Prop},K (.bool (!t)) s->wpAny (Mdl X) A (compareOp .NotIn x y) K EX s):=by
 unfold Mini.inV at h
 split at h
 ·replace h:=Mini.onStr_ok h;obtain ⟨l,rfl,h⟩:=h
  replace h:=Mini.onOne_ok h;obtain ⟨c,rfl,h⟩:=h
  cases h
  obtain ⟨_,rfl⟩:=vrel_str ra
  obtain ⟨_,rfl⟩:=vrel_str rb
  refine ⟨fun k=>PyProof.Rows.in_str ?_,fun k=>PyProof.Rows.notIn_str ?_⟩
  ·rw [StrLaws.found_one]
   simpa using k
  ·rw [StrLaws.found_one]
   simpa using k
 ·exact snd_memV hu O ra rb h
 ·cases h
theorem snd_cmpV {o:Mini.Cmp}{o':CmpOp}{a b:V}{x y:Value}{H:Mini.Heap}{φ:List Addr}{s:Shared}{K EX:Value->Shared->Prop}{t:Bool}(hu:A.units+106<cLine) (ho:Mini.cmpIs o o'=true)
  (O:Ok X.h₀ φ H s.heap) (ra:VRel X.h₀ φ s.heap a x) (rb:VRel X.h₀ φ s.heap b y) (h:Mini.cmpV o a b H=some t) (k:K (.bool t) s) :
  wpAny (Mdl X) A (compareOp o' x y) K EX s:=by
 obtain rfl:o'=_:=eq_of_beq ho
 clear ho
 cases o
 ·exact snd_eqV hu O ra rb h k
 ·obtain ⟨u,e,rfl⟩:=Option.map_eq_some_iff.mp h
  exact snd_neV hu O ra rb e k
 ·replace h:=Mini.onInt_ok h;obtain ⟨i,rfl,h⟩:=h
  replace h:=Mini.onInt_ok h;obtain ⟨j,rfl,h⟩:=h
  cases h
  obtain ⟨_,rfl⟩:=vrel_int ra
  obtain ⟨_,rfl⟩:=vrel_int rb
  exact lt_int k
 ·replace h:=Mini.onInt_ok h;obtain ⟨i,rfl,h⟩:=h
  replace h:=Mini.onInt_ok h;obtain ⟨j,rfl,h⟩:=h
  cases h
  obtain ⟨_,rfl⟩:=vrel_int ra
  obtain ⟨_,rfl⟩:=vrel_int rb
  exact PyProof.Rows.le_int k
 ·replace h:=Mini.onInt_ok h;obtain ⟨i,rfl,h⟩:=h
  replace h:=Mini.onInt_ok h;obtain ⟨j,rfl,h⟩:=h
  cases h
  obtain ⟨_,rfl⟩:=vrel_int ra
  obtain ⟨_,rfl⟩:=vrel_int rb
  exact gt_int k
 ·replace h:=Mini.onInt_ok h;obtain ⟨i,rfl,h⟩:=h
  replace h:=Mini.onInt_ok h;obtain ⟨j,rfl,h⟩:=h
  cases h
  obtain ⟨_,rfl⟩:=vrel_int ra
  obtain ⟨_,rfl⟩:=vrel_int rb
  exact PyProof.Rows.ge_int k
 ·exact (snd_inV hu O ra rb h).1 k
 ·obtain ⟨u,e,rfl⟩:=Option.map_eq_some_iff.mp h
  exact (snd_inV hu O ra rb e).2 k
theorem marks_of {gl sc nm e re}(h:Mini.chkE gl sc nm e re=true) (op:CmpOp):behindInMarks op re=false:=by
 have h:=(Mini.kinds h).form
 cases re<;>first | rfl | nomatch h
theorem snd_bin {o:Mini.Op}{l r:Mini.E}(hl:SndE X A C l) (hr:SndE X A C r):SndE X A C (.bin o l r):=by
 intro re env nm ρ Q H φ s K EX hc L O h k
 refine Mini.inv_bin hc fun l' o' r' p e9 hc9=>?_
 clear hc;subst e9
 ·simp only [Bool.and_eq_true] at hc9
  obtain ⟨⟨h1,h2⟩,h3⟩:=hc9
  replace h:=Mini.un_bin h
  refine wpAny_BinOp (hl _ env nm ρ _ H φ s _ EX h2 L O h fun a H1 φ1 x1 s1 q1 F1 r1=>?_)
  refine hr _ env nm ρ _ H1 φ1 s1 _ EX h3 (L.fwd O F1) F1.ok q1 fun b H2 φ2 x2 s2 q2 F2 r2=>?_
  exact snd_binV h1 F2.ok (F2.val F1.ok r1) r2 q2 (k.after (F1.trans F2))
theorem snd_neg {i:Int}:SndE X A C (.neg i):=by
 intro re env nm ρ Q H φ s K EX hc L O h k
 refine Mini.inv_neg hc fun k9 p q e9=>?_
 clear hc;subst e9
 ·replace h:=Mini.un_neg h
  exact UnaryOp_ (wpAny_Constant_int (PySem.P.neg_int (k _ _ _ _ _ h ((Fwd.tok O).trans (Fwd.tok O)) mk_int)))
theorem snd_cmp (hu:A.units+106<cLine) {o:Mini.Cmp}{l r:Mini.E}(hl:SndE X A C l) (hr:SndE X A C r):SndE X A C (.cmp o l r):=by
 intro re env nm ρ Q H φ s K EX hc L O h k
 refine Mini.inv_cmp hc fun l' o' r' p e9 hc9=>?_
 clear hc;subst e9
 ·simp only [Bool.and_eq_true] at hc9
  obtain ⟨⟨h1,h2⟩,h3⟩:=hc9
  replace h:=Mini.un_cmp h
  refine wpAny_Compare1 (hl _ env nm ρ _ H φ s _ EX h2 L O h fun a H1 φ1 x1 s1 q1 F1 r1=>?_) (marks_of h3 _)
  refine hr _ env nm ρ _ H1 φ1 s1 _ EX h3 (L.fwd O F1) F1.ok q1 fun b H2 φ2 x2 s2 q2 F2 r2=>?_
  unfold Mini.boo at q2
  split at q2
  ·rename_i t e
   exact snd_cmpV hu h1 F2.ok (F2.val F1.ok r1) r2 e (k _ _ _ _ _ q2 (F1.trans F2) mk_bool)
  ·exact q2.elim
theorem snd_cmp2 (hu:A.units+106<cLine) {o₁ o₂:Mini.Cmp}{a b c:Mini.E}(ha:SndE X A C a) (hb:SndE X A C b) (hcc:SndE X A C c):SndE X A C (.cmp2 o₁ o₂ a b c):=by
 intro re env nm ρ Q H φ s K EX hc L O h k
 refine Mini.inv_cmp2 hc fun a' o' p' b' c' p e9 hc9=>?_
 clear hc;subst e9
 ·simp only [Bool.and_eq_true] at hc9
  obtain ⟨⟨⟨⟨h1,h2⟩,h3⟩,h4⟩,h5⟩:=hc9
  replace h:=Mini.un_cmp2 h
  refine Compare_chain (ha _ env nm ρ _ H φ s _ EX h3 L O h fun va H1 φ1 x1 s1 q1 F1 r1=>?_) (by simpa [lastMarks] using marks_of h5 _)
  refine chain_link (hb _ env nm ρ _ H1 φ1 s1 _ EX h4 (L.fwd O F1) F1.ok q1 fun vb H2 φ2 x2 s2 q2 F2 r2=>?_)
  unfold Mini.boo at q2
  split at q2
  ·rename_i t e
   refine snd_cmpV hu h1 F2.ok (F2.val F1.ok r1) r2 e (wpAny_truthy_bool ?_)
   cases t with
   | false=>exact k _ _ _ _ _ q2 (F1.trans F2) mk_bool
   | true =>
    refine chain_last (hcc _ env nm ρ _ H2 φ2 s2 _ EX h5 ((L.fwd O F1).fwd F1.ok F2) F2.ok q2 fun vc H3 φ3 x3 s3 q3 F3 r3=>?_)
    unfold Mini.boo at q3
    split at q3
    ·rename_i t e
     exact snd_cmpV hu h2 F3.ok (F3.val F2.ok r2) r3 e (k _ _ _ _ _ q3 ((F1.trans F2).trans F3) mk_bool)
    ·exact q3.elim
  ·exact q2.elim
noncomputable def cstC:Mini.Cst->Const
 | .none=>.none
 | .tt=>.bool true
 | .ff=>.bool false
noncomputable def cstV:Mini.Cst->Value
 | .none=>.none
 | .tt=>.bool true
 | .ff=>.bool false
theorem cst_eq {c:Mini.Cst}{e:Expr}(hc:Mini.cstIs c e=true):∃ k p,e=.Constant (cstC c) k p:=by
 refine Mini.onConst_ok hc fun k u p e9 h=>?_
 subst e9
 cases c
 ·rw [Mini.isNoneC_ok h];exact ⟨_,_,rfl⟩
 ·rw [Mini.isBoolC_ok h];exact ⟨_,_,rfl⟩
 ·rw [Mini.isBoolC_ok h];exact ⟨_,_,rfl⟩
theorem is_cst {v:V}{c:Mini.Cst}{x:Value}{h₀ φ h}{e:Expr}{env:Env}{s:Shared}(r:VRel h₀ φ h v x) (hc:Mini.cstIs c e=true) :
  ∃ y,(∀ {K EX:Value->Shared->Prop},K y s->wpAny (Mdl X) A (eval e env) K EX s)/\plainIs x y=true/\(x==y)=Mini.isV v c:=by
 obtain ⟨k,p,rfl⟩:=cst_eq hc
 refine ⟨cstV c,fun k=>by cases c<;>exact wpAny_pure k,?_⟩
 cases v<;>unfold VRel at r
 ·subst r;cases c<;>exact ⟨rfl,rfl⟩
 ·rename_i b;subst r;cases b<;>cases c<;>exact ⟨rfl,rfl⟩
 ·obtain ⟨t,rfl⟩:=r;cases c<;>exact ⟨rfl,rfl⟩
 ·obtain ⟨_,t,rfl⟩:=r;cases c<;>exact ⟨rfl,rfl⟩
 ·obtain ⟨a,_,rfl⟩:=r;cases c<;>exact ⟨rfl,rfl⟩
 ·obtain ⟨_,a,vs,rfl,_⟩:=r;cases c<;>exact ⟨rfl,rfl⟩
 ·obtain ⟨_,a,vs,rfl,_⟩:=r;cases c<;>exact ⟨rfl,rfl⟩
theorem cst_marks {c:Mini.Cst}{e:Expr}(hc:Mini.cstIs c e=true) (op:CmpOp):behindInMarks op e=false:=by
 obtain ⟨k,p,rfl⟩:=cst_eq hc
 rfl
theorem snd_is {e:Mini.E}{c:Mini.Cst}(he:SndE X A C e):SndE X A C (.is e c):=by
 intro re env nm ρ Q H φ s K EX hc L O h k
 refine Mini.inv_is hc fun e' r' p e9 hc9=>?_
 clear hc;subst e9
 ·simp only [Bool.and_eq_true] at hc9
  replace h:=Mini.un_is h
  refine wpAny_Compare1 (he _ env nm ρ _ H φ s _ EX hc9.1 L O h fun a H1 φ1 x1 s1 q1 F1 r1=>?_) (cst_marks hc9.2 _)
  obtain ⟨y,ev,hp,hq⟩:=is_cst (X:=X) (A:=A) (env:=env) (s:=s1) r1 hc9.2
  refine ev (wpAny_is_plain hp ?_)
  rw [hq]
  exact k _ _ _ _ _ q1 F1 mk_bool
theorem snd_isnot {e:Mini.E}{c:Mini.Cst}(he:SndE X A C e):SndE X A C (.isnot e c):=by
 intro re env nm ρ Q H φ s K EX hc L O h k
 refine Mini.inv_isnot hc fun e' r' p e9 hc9=>?_
 clear hc;subst e9
 ·simp only [Bool.and_eq_true] at hc9
  replace h:=Mini.un_isnot h
  refine wpAny_Compare1 (he _ env nm ρ _ H φ s _ EX hc9.1 L O h fun a H1 φ1 x1 s1 q1 F1 r1=>?_) (cst_marks hc9.2 _)
  obtain ⟨y,ev,hp,hq⟩:=is_cst (X:=X) (A:=A) (env:=env) (s:=s1) r1 hc9.2
  refine ev (wpAny_isNot_plain hp ?_)
  rw [hq]
  exact k _ _ _ _ _ q1 F1 mk_bool
theorem truth_of {h₀ φ h}{v:V}{x:Value}{t:Bool}(r:VRel h₀ φ h v x) (e:Mini.truthV v=some t):x=.bool t:=by
 cases v<;>simp [Mini.truthV] at e
 subst e
 exact vrel_bool r
theorem snd_not {e:Mini.E}(he:SndE X A C e):SndE X A C (.not e):=by
 intro re env nm ρ Q H φ s K EX hc L O h k
 refine Mini.inv_not hc fun e' p e9 hc9=>?_
 clear hc;subst e9
 ·replace h:=Mini.un_not h
  refine UnaryOp_ (he _ env nm ρ _ H φ s _ EX hc9 L O h fun a H1 φ1 x1 s1 q1 F1 r1=>?_)
  unfold Mini.boo at q1
  split at q1
  ·rename_i t e
   obtain rfl:=truth_of r1 e
   exact not_of (wpAny_truthy_bool (k _ _ _ _ _ q1 F1 mk_bool))
  ·exact q1.elim
noncomputable def SndL (X:Cx) (A:Around) (C:Mini.Calls) (es:List Mini.E):Prop:=∀ e∈es,SndE X A C e
theorem snd_and_go:∀ (es:List Mini.E) (res:List Expr) (env:Env) (nm:List Str) (ρ:Mini.Env) (Q:V->Mini.Heap->Prop) (H:Mini.Heap) (φ:List Addr) (s:Shared) (K EX:Value->Shared->Prop) (p:Pos),
  SndL X A C es->Mini.chkEs X.gl env.scope.names nm es res=true->EnvOk X φ nm env ρ s->Ok X.h₀ φ H s.heap->Mini.wpAnd C es ρ Q H->PostOk X Q φ s K ->
  wpAny (Mdl X) A (eval (.BoolOp .And res p) env) K EX s
 | [],_,_,_,_,_,_,_,_,_,_,_,_,_,_,_,h,_=>False.elim h
 | e::es,res,env,nm,ρ,Q,H,φ,s,K,EX,p,hs,hc,L,O,h,k=>by
  cases res with
  | nil=>nomatch hc
  | cons re res =>
   replace hc:=Mini.and_ok hc
   cases es with
   | nil =>
    cases res with
    | cons _ _=>nomatch hc.2
    | nil=>exact BoolOp_one (hs e (by simp) _ env nm ρ Q H φ s K EX hc.1 L O h k)
   | cons e2 es =>
    cases res with
    | nil=>nomatch hc.2
    | cons re2 res =>
     refine BoolOp_and (hs e (by simp) _ env nm ρ _ H φ s _ EX hc.1 L O h fun v H1 φ1 x1 s1 q1 F1 r1=>?_)
     unfold Mini.boo at q1
     split at q1
     ·rename_i t e
      obtain rfl:=truth_of r1 e
      refine wpAny_truthy_bool ?_
      cases t with
      | false=>exact k _ _ _ _ _ q1 F1 r1
      | true =>
       simp only at q1
       exact snd_and_go (e2::es) (re2::res) env nm ρ Q H1 φ1 s1 K EX p (fun e' he'=>hs e' (List.mem_cons_of_mem _ he')) hc.2 (L.fwd O F1) F1.ok q1 (k.after F1)
     ·exact q1.elim
theorem snd_or_go:∀ (es:List Mini.E) (res:List Expr) (env:Env) (nm:List Str) (ρ:Mini.Env) (Q:V->Mini.Heap->Prop) (H:Mini.Heap) (φ:List Addr) (s:Shared) (K EX:Value->Shared->Prop) (p:Pos),
  SndL X A C es->Mini.chkEs X.gl env.scope.names nm es res=true->EnvOk X φ nm env ρ s->Ok X.h₀ φ H s.heap->Mini.wpOr C es ρ Q H->PostOk X Q φ s K ->
  wpAny (Mdl X) A (eval (.BoolOp .Or res p) env) K EX s
 | [],_,_,_,_,_,_,_,_,_,_,_,_,_,_,_,h,_=>False.elim h
 | e::es,res,env,nm,ρ,Q,H,φ,s,K,EX,p,hs,hc,L,O,h,k=>by
  cases res with
  | nil=>nomatch hc
  | cons re res =>
   replace hc:=Mini.and_ok hc
   cases es with
   | nil =>
    cases res with
    | cons _ _=>nomatch hc.2
    | nil=>exact BoolOp_one (hs e (by simp) _ env nm ρ Q H φ s K EX hc.1 L O h k)
   | cons e2 es =>
    cases res with
    | nil=>nomatch hc.2
    | cons re2 res =>
     refine BoolOp_or (hs e (by simp) _ env nm ρ _ H φ s _ EX hc.1 L O h fun v H1 φ1 x1 s1 q1 F1 r1=>?_)
     unfold Mini.boo at q1
     split at q1
     ·rename_i t e
      obtain rfl:=truth_of r1 e
      refine wpAny_truthy_bool ?_
      cases t with
      | true=>exact k _ _ _ _ _ q1 F1 r1
      | false =>
       simp only at q1
       exact snd_or_go (e2::es) (re2::res) env nm ρ Q H1 φ1 s1 K EX p (fun e' he'=>hs e' (List.mem_cons_of_mem _ he')) hc.2 (L.fwd O F1) F1.ok q1 (k.after F1)
     ·exact q1.elim
theorem snd_and {es:List Mini.E}(hs:SndL X A C es):SndE X A C (.and es):=by
 intro re env nm ρ Q H φ s K EX hc L O h k
 refine Mini.inv_and hc fun es' p e9 hc9=>?_
 clear hc;subst e9
 ·replace h:=Mini.un_and h
  exact snd_and_go es _ env nm ρ Q H φ s K EX _ hs hc9 L O h k
theorem snd_or {es:List Mini.E}(hs:SndL X A C es):SndE X A C (.or es):=by
 intro re env nm ρ Q H φ s K EX hc L O h k
 refine Mini.inv_or hc fun es' p e9 hc9=>?_
 clear hc;subst e9
 ·replace h:=Mini.un_or h
  exact snd_or_go es _ env nm ρ Q H φ s K EX _ hs hc9 L O h k
end
end MiniS
namespace MiniS
open PySem PySem.Calls PyProof.Rows
open Mini (V D)
noncomputable def clipI (v:Option Int) (d:Int) (n:Nat):Int:=match v with
 | none=>d
 | some i=>max 0 (min (if i<0 then i+n else i) n)
theorem neg_le {a b:Int}(h:a<0):a+b<=b:=by
 have:=Int.add_le_add_right (Int.le_of_lt h) b
 rw [Int.zero_add] at this;exact this
theorem clip_eq (i:Int) (n:Nat):max 0 (min (if i<0 then i+n else i) n)=(Mini.clamp i n:Int):=by
 show _=(((if i<0 then (i+n).toNat else min i.toNat n):Nat):Int)
 by_cases h:i<0
 ·rw [if_pos h,if_pos h,Int.min_eq_left (neg_le h),Int.max_comm,Int.ofNat_toNat]
 ·obtain ⟨k,rfl⟩:=Int.eq_ofNat_of_zero_le (Int.not_lt.mp h)
  rw [if_neg h,if_neg h,Int.toNat_natCast,Int.max_eq_right (Int.le_min.mpr ⟨Int.natCast_nonneg k,Int.natCast_nonneg n⟩)]
  rcases Nat.le_total k n with q | q
  ·rw [Nat.min_eq_left q,Int.min_eq_left (Int.ofNat_le.mpr q)]
  ·rw [Nat.min_eq_right q,Int.min_eq_right (Int.ofNat_le.mpr q)]
theorem clipI_lo (v:Option Int) (n:Nat):clipI v 0 n=(Mini.loOf v n:Int):=by
 cases v with
 | none=>rfl
 | some i=>exact clip_eq i n
theorem clipI_hi (v:Option Int) (n:Nat):clipI v n n=(Mini.hiOf v n:Int):=by
 cases v with
 | none=>rfl
 | some i=>exact clip_eq i n
theorem range_pick {α:Type}(l:List α) (a b:Nat) (hb:b<=l.length):(sliceRange (a:Int) (b:Int) 1).filterMap (l[·]?)=(l.take b).drop a:=by
 unfold sliceRange
 by_cases h:a<b
 ·have e:(if (1:Int)>0 then (if (a:Int)<b then ((b:Int) - a+1 - 1) / 1 else 0) else (if (a:Int)>b then ((a:Int) - b - 1 - 1) / (-1) else 0)).toNat=b - a:=by
   rw [if_pos (by decide),if_pos (Int.ofNat_lt.mpr h),Int.ediv_one,Int.add_sub_cancel];exact Int.toNat_sub b a
  simp only [e]
  have e2:(List.range (b - a)).map (fun k:Nat=>((a:Int)+1 * (k:Int)).toNat)=(List.range (b - a)).map (fun k=>a+k):=List.map_congr_left fun k _=>by rw [Int.one_mul];rfl
  rw [e2,StrLaws.picks l (b - a) a (by rw [Nat.add_sub_cancel' (Nat.le_of_lt h)];exact hb),List.drop_take]
 ·have e:(if (1:Int)>0 then (if (a:Int)<b then ((b:Int) - a+1 - 1) / 1 else 0) else (if (a:Int)>b then ((a:Int) - b - 1 - 1) / (-1) else 0)).toNat=0:=by
   rw [if_pos (by decide),if_neg fun q=>h (Int.ofNat_lt.mp q)];rfl
  simp only [e]
  rw [List.drop_eq_nil_of_le (Nat.le_trans (List.length_take_le b l) (Nat.le_of_not_lt h))]
  rfl
theorem clamp_le' (i:Int) (n:Nat):Mini.clamp i n<=n:=by
 show (if i<0 then (i+n).toNat else min i.toNat n)<=n
 by_cases h:i<0
 ·rw [if_pos h];exact Int.toNat_le.mpr (neg_le h)
 ·rw [if_neg h];exact Nat.min_le_right _ _
theorem hiOf_le (hi:Option Int) (n:Nat):Mini.hiOf hi n<=n:=by
 cases hi with
 | none=>exact Nat.le_refl _
 | some i=>exact clamp_le' i _
theorem slice_pick {α:Type}(l:List α) (lo hi:Option Int):(sliceRange (clipI lo 0 l.length) (clipI hi l.length l.length) 1).filterMap (l[·]?)=Mini.slice l lo hi:=by
 rw [clipI_lo,clipI_hi,range_pick _ _ _ (hiOf_le hi _)]
 rfl
theorem slicePick_eq (vs:List Value) (lo hi:Option Int):slicePick vs.toArray lo hi none=(Mini.slice vs lo hi).toArray:=by
 have:=slice_pick vs lo hi
 unfold slicePick
 rw [<- this]
 congr 1
 have e:∀ x:Nat,vs.toArray[x]? = vs[x]?:=fun x=>by simp
 simp only [e]
 cases lo<;>cases hi<;>simp [sliceBounds,clipI]
theorem txtSlice_eq (l:List Nat) (lo hi:Option Int):Txt.slice ⟨l.toArray⟩ lo hi=⟨(Mini.slice l lo hi).toArray⟩:=by
 have h:=slice_pick l lo hi
 have e:Builtin.Str.strSliceIndices lo hi 1 (Str.length ⟨l.toArray⟩)=sliceRange (clipI lo 0 l.length) (clipI hi l.length l.length) 1:=by
  cases lo<;>cases hi<;>simp [Builtin.Str.strSliceIndices,clipI,Str.length]
 have e1:∀ x:Nat,(Str.mk l.toArray).cps[x]? = l[x]?:=fun x=>by simp
 have hlen:(Mini.slice l lo hi).length<=l.length:=by
  unfold Mini.slice
  simp;lia
 unfold Txt.slice
 rw [e]
 split
 ·rename_i hc
  simp only [BEq.rfl,Bool.true_and,beq_iff_eq] at hc
  have hr:(sliceRange (clipI lo 0 l.length) (clipI hi l.length l.length) 1).length=l.length:=by simpa [Str.length] using hc
  rw [clipI_lo,clipI_hi] at hr
  unfold Mini.slice
  have hb':=hiOf_le hi l.length
  generalize Mini.loOf lo l.length=a at *
  generalize Mini.hiOf hi l.length=b at *
  unfold sliceRange at hr
  simp only [List.length_map,List.length_range] at hr
  rw [if_pos (by decide)] at hr
  by_cases hab:(a:Int)<b
  ·rw [if_pos hab,Int.ediv_one] at hr
   have h1:a=0:=by lia
   have h2:b=l.length:=by lia
   subst h1;subst h2;simp
  ·rw [if_neg hab] at hr
   have:l=[]:=by
    apply List.eq_nil_of_length_eq_zero;simpa using hr.symm
   subst this;simp
 ·simp only [e1,h]
theorem VRels.take {h₀ φ h}:∀ {l:List V}{vs:List Value}(n:Nat),VRels h₀ φ h l vs->VRels h₀ φ h (l.take n) (vs.take n)
 | _,_,0,_=>by simpa using VRels.nil
 | [],vs,n+1,r=>by have:=r.unnil;subst this;simpa using VRels.nil
 | v::l,vs,n+1,r=>by
  obtain ⟨x,vs',rfl,r1,r2⟩:=r.uncons
  simp only [List.take_succ_cons]
  exact VRels.cons r1 (VRels.take n r2)
theorem VRels.drop {h₀ φ h}:∀ {l:List V}{vs:List Value}(n:Nat),VRels h₀ φ h l vs->VRels h₀ φ h (l.drop n) (vs.drop n)
 | _,_,0,r=>by simpa using r
 | [],vs,n+1,r=>by have:=r.unnil;subst this;simpa using VRels.nil
 | v::l,vs,n+1,r=>by
  obtain ⟨x,vs',rfl,r1,r2⟩:=r.uncons
  simp only [List.drop_succ_cons]
  exact VRels.drop n r2
theorem VRels.slice {h₀ φ h}{l:List V}{vs:List Value}(lo hi:Option Int) (r:VRels h₀ φ h l vs):VRels h₀ φ h (Mini.slice l lo hi) (Mini.slice vs lo hi):=by
 unfold Mini.slice
 rw [r.length]
 exact VRels.drop _ (VRels.take _ r)
theorem IntsOf.rels {h₀ φ h}:∀ {l:List Int}{vs:List Value},IntsOf l vs->VRels h₀ φ h (l.map V.int) vs
 | [],[],_=>VRels.nil
 | i::l,x::r,H=>by
  unfold IntsOf at H
  obtain ⟨⟨t,rfl⟩,H⟩:=H
  exact VRels.cons mk_int (IntsOf.rels H)
 | [],_::_,H=>by unfold IntsOf at H;exact H.elim
 | _::_,[],H=>by unfold IntsOf at H;exact H.elim
theorem slice_map {α β:Type}(f:α->β) (l:List α) (lo hi:Option Int):Mini.slice (l.map f) lo hi=(Mini.slice l lo hi).map f:=by
 unfold Mini.slice
 simp [List.map_drop,List.map_take]
theorem slice_len {α:Type}(l:List α) (lo hi:Option Int):(Mini.slice l lo hi).length<=l.length:=by
 unfold Mini.slice
 simp;lia
theorem place_seq {i:Int}{n j:Nat}(h:Mini.place i n=some j):seqIndex? i n=some j/\j<n/\-(n:Int)<=i/\i<n:=by
 unfold Mini.place at h
 split at h
 ·split at h
  ·rename_i h1 h2
   cases h
   exact ⟨StrLaws.seqIndex_nonneg h1 h2,by lia,by lia,h2⟩
  ·cases h
 ·split at h
  ·rename_i h1 h2
   cases h
   exact ⟨StrLaws.seqIndex_neg (by lia) h2,by lia,h2,by lia⟩
  ·cases h
section
variable {X:Cx}{A:Around}{C:Mini.Calls}
theorem getItem_listAny {s:Shared}{l:Addr}{vs:List Value}{k:Int}{t:Tok}{j:Nat}{x:Value}{K EX:Value->Shared->Prop}(hl:s.heap.IsList l vs.toArray) (hz:vs.length<=Mini.lim)
  (hj:Mini.place k vs.length=some j) (hx:vs[j]? = some x) (h:K x s):wpAny (Mdl X) A (getItem (.ref l) (.int k t)) K EX s:=by
 have hlim:Mini.lim=16777216:=rfl
 unfold Mini.place at hj
 split at hj
 ·split at hj
  ·cases hj
   exact wpAny_getItem_list hl (by assumption) (by lia) (by simpa using hx) h
  ·cases hj
 ·split at hj
  ·cases hj
   refine wpAny_getItem_list_neg hl (by lia) (by simpa using by assumption) ?_ ?_ h
   all_goals first | lia | (simp;lia) | (simpa using hx)
  ·cases hj
theorem snd_idxV {o i v:V}{x y:Value}{H:Mini.Heap}{φ:List Addr}{s:Shared}{K EX:Value->Shared->Prop}{value slice:Expr}
  (hs:subscripted slice false x y=operate [x,y] (getItem x y)) (O:Ok X.h₀ φ H s.heap) (ro:VRel X.h₀ φ s.heap o x) (ri:VRel X.h₀ φ s.heap i y) (h:Mini.idxV o i H=some v)
  (k:∀ z tk,VRel X.h₀ φ s.heap v z->s.toks<=tk->K z { s with toks:=tk }):wpAny (Mdl X) A (subscriptTail value slice x y) K EX s:=by
 have hlim:Mini.lim=16777216:=rfl
 replace h:=Mini.onInt_ok h;obtain ⟨i,rfl,h⟩:=h
 split at h
 ·-- a text
  rename_i l
  have hz:=len_str ro
  obtain ⟨t,rfl⟩:=vrel_str ro
  obtain ⟨u,rfl⟩:=vrel_int ri
  cases e:Mini.place i l.length with
  | none=>rw [e] at h;cases h
  | some j =>
   rw [e] at h
   obtain ⟨p1,p2,p3,p4⟩:=place_seq e
   have hj:l[j]? = some l[j]:=List.getElem?_eq_getElem p2
   simp only [Option.bind_some,hj,Option.map_some,Option.some.injEq] at h
   subst h
   have hch:Txt.charAt ⟨l.toArray⟩ i=some l[j]:=by
    unfold Txt.charAt
    have:(Str.mk l.toArray).length=l.length:=by simp [Str.length]
    rw [this,p1]
    simp [hj]
   refine tail_any (typeIs_str _ _ _) F.slot_str_getitem.lookup (SB.getItem ?_ ?_ ?_) hs
   ·unfold fitsSsize
    simp
    lia
   ·rw [hch];rfl
   ·refine k _ _ (mk_str' ?_ (by simp;lia)) (Nat.le_succ _)
    unfold Txt.item
    rw [hch];rfl
 ·rename_i l
  have hz:=len_tup ro
  obtain ⟨a,vs,rfl,ht,rs⟩:=vrel_tup ro
  obtain ⟨u,rfl⟩:=vrel_int ri
  cases e:Mini.place i l.length with
  | none=>rw [e] at h;cases h
  | some j =>
   rw [e] at h
   obtain ⟨p1,p2,p3,p4⟩:=place_seq e
   simp only [Option.bind_some] at h
   obtain ⟨z,hz',rz⟩:=rs.get h
   have hl9:l.length=vs.length:=rs.length
   refine tail_any (T := "tuple") ht.typeIs F.slot_tuple_getitem.lookup (PyProof.Rows.getItem_tuple ht (by lia) (by lia) (j:=j) ?_ ?_ (k _ s.toks rz (Nat.le_refl _))) hs
   ·rw [List.size_toArray,<- hl9];exact p1
   ·simpa using hz'
 ·rename_i l
  obtain ⟨hz,a,vs,rfl,ht,rs⟩:=vrel_frz ro
  obtain ⟨u,rfl⟩:=vrel_int ri
  have rs':VRels X.h₀ φ s.heap (l.map V.int) vs:=rs.rels
  have hl9:l.length=vs.length:=by simpa using rs'.length
  have hL:s.heap.IsList a vs.toArray:=by obtain ⟨o,ho,r⟩:=ht;exact ⟨o,O.base _ _ ho,r⟩
  cases e:Mini.place i l.length with
  | none=>rw [e] at h;cases h
  | some j =>
   rw [e] at h
   simp only [Option.bind_some] at h
   have h':(l.map V.int)[j]? = some v:=by simpa using h
   obtain ⟨z,hz',rz⟩:=rs'.get h'
   exact tail_any (T := "list") hL.typeIs F.slot_list_getitem.lookup (getItem_listAny hL (by lia) (by rw [<- hl9];exact e) hz' (k _ s.toks rz (Nat.le_refl _))) hs
 ·rename_i a
  obtain ⟨p,hp,rfl⟩:=vrel_ref ro
  obtain ⟨u,rfl⟩:=vrel_int ri
  cases e0:H[a]? with
  | none=>rw [e0] at h;cases h
  | some l =>
   rw [e0] at h
   simp only [Option.bind_some] at h
   obtain ⟨vs,hpl,rs⟩:=O.lists _ _ _ hp e0
   have hz:=O.small l (List.mem_of_getElem? e0)
   have hl9:l.length=vs.length:=rs.length
   cases e:Mini.place i l.length with
   | none=>rw [e] at h;cases h
   | some j =>
    rw [e] at h
    simp only [Option.bind_some] at h
    obtain ⟨z,hz',rz⟩:=rs.get h
    exact tail_any (T := "list") hpl.isList.typeIs F.slot_list_getitem.lookup (getItem_listAny hpl.isList (by lia) (by rw [<- hl9];exact e) hz' (k _ s.toks rz (Nat.le_refl _))) hs
 ·cases h
theorem not_slice {gl sc nm e re}(h:Mini.chkE gl sc nm e re=true) (o i:Value):subscripted re false o i=operate [o,i] (getItem o i):=by
 have h:=(Mini.kinds h).form
 cases re<;>first | rfl | nomatch h
theorem snd_idx {o i:Mini.E}(ho:SndE X A C o) (hi:SndE X A C i):SndE X A C (.idx o i):=by
 intro re env nm ρ Q H φ s K EX hc L O h k
 refine Mini.inv_idx hc fun o' i' p e9 hc9=>?_
 clear hc;subst e9
 ·simp only [Bool.and_eq_true] at hc9
  replace h:=Mini.un_idx h
  refine Subscript_ (ho _ env nm ρ _ H φ s _ EX hc9.1 L O h fun a H1 φ1 x1 s1 q1 F1 r1=>?_)
  refine hi _ env nm ρ _ H1 φ1 s1 _ EX hc9.2 (L.fwd O F1) F1.ok q1 fun b H2 φ2 x2 s2 q2 F2 r2=>?_
  unfold Mini.val at q2
  split at q2
  ·rename_i v e
   exact snd_idxV (not_slice hc9.2 _ _) F2.ok (F2.val F1.ok r1) r2 e fun z tk rz ht=>k _ _ _ _ _ q2 ((F1.trans F2).trans (Fwd.tok F2.ok ht)) rz
  ·exact q2.elim
end
end MiniS
namespace MiniS
open PySem PySem.Calls PyProof.Rows
open Mini (V D)
noncomputable def pv:Option (Int×Tok)->Value
 | none=>.none
 | some (i,t)=>.int i t
theorem pv_part (v:Option (Int×Tok)):IsPart (pv v) (v.map (·.1)):=by
 cases v with
 | none=>exact .none
 | some v=>exact .int _ _
theorem sizeOk_of {vs:List Value}(h:vs.length<=Mini.lim):sizeOk (.seq vs.toArray):=by
 show vs.toArray.size<=_
 have:sizeLine=Mini.lim:=sizeLine_lim
 simp;lia
section
variable {X:Cx}{A:Around}{C:Mini.Calls}
theorem snd_slcV {o:V}{x:Value}{lo hi:Option (Int×Tok)}{Q:V->Mini.Heap->Prop}{H:Mini.Heap}{φ:List Addr}{s:Shared}{K EX:Value->Shared->Prop}{value:Expr}{lx hx:Option Expr}{p:Pos}
  (O:Ok X.h₀ φ H s.heap) (ro:VRel X.h₀ φ s.heap o x) (h:Mini.res (Mini.slcV o (lo.map (·.1)) (hi.map (·.1)) H) Q) (k:PostOk X Q φ s K) :
  wpAny (Mdl X) A (subscriptTail value (.Slice lx hx none p) x (.ref s.heap.objs.size)) K EX { s with heap:=s.heap.push { cls:=.type "slice",data:=.fields #[pv lo,pv hi,.none] } }:=by
 have F0:Fwd X.h₀ φ s φ H { s with heap:=s.heap.push { cls:=.type "slice",data:=.fields #[pv lo,pv hi,.none] } }:=Fwd.push O
 have ro':=F0.val O ro
 unfold Mini.slcV at h
 split at h
 ·rename_i l
  have hz:=len_str ro
  obtain ⟨t,rfl⟩:=vrel_str ro
  refine free (tail_any (typeIs_str _ _ _) F.slot_str_getitem.lookup (ops:=[.ref s.heap.objs.size,_]) (wpAny_getItem_str_slice (l:=lo) (u:=hi) (st:=none) ⟨_,Heap.get?_push_size _ rfl,rfl,?_⟩ rfl
   (post_val_or_str ⟨?_,fun t' k' ht=>?_⟩)) rfl)
  ·cases lo<;>cases hi<;>rfl
  ·have:(Txt.slice ⟨l.toArray⟩ (lo.map (·.1)) (hi.map (·.1))).length<=sizeLine:=by
    refine Nat.le_trans (Txt.slice_le _ _ _) ?_
    rw [sizeLine_lim];simpa [Str.length] using hz
   exact this
  ·refine k _ _ _ _ _ h (F0.trans (Fwd.tok F0.ok ht)) (mk_str' (txtSlice_eq _ _ _) ?_)
   exact Nat.le_trans (slice_len _ _ _) hz
 ·rename_i l
  obtain ⟨hz,a,vs,rfl,ht,rs⟩:=vrel_frz ro
  have rs':VRels X.h₀ φ (s.heap.push { cls:=.type "slice",data:=.fields #[pv lo,pv hi,.none] }) (l.map V.int) vs:=rs.rels
  have hL:(s.heap.push { cls:=.type "slice",data:=.fields #[pv lo,pv hi,.none] }).IsList a vs.toArray:=by
   obtain ⟨o,ho,r⟩:=ht;exact ⟨o,Heap.get?_push_of_some _ (O.base _ _ ho),r⟩
  have hl9:l.length=vs.length:=by simpa using rs'.length
  have F1:=Fwd.alloc (n:=0) (tk:=s.toks) F0.ok (rs'.slice (lo.map (·.1)) (hi.map (·.1))) (by
   refine Nat.le_trans (slice_len _ _ _) ?_;simpa using hz)
  refine tail_any (T := "list") (ops:=[.ref s.heap.objs.size,_]) (Heap.IsList.typeIs (s:={ s with heap:=s.heap.push { cls:=.type "slice",data:=.fields #[pv lo,pv hi,.none] } }) hL) F.slot_list_getitem.lookup
   (wpAny_getItem_list_slice hL (Heap.IsSliceOf.new ..) (pv_part lo) (pv_part hi) .none (by simp) ?_ ?_) rfl
  ·rw [slicePick_eq]
   rw [slice_map] at F1
   exact k _ _ _ _ _ h (F0.trans F1) (mk_ref (by rw [<- O.len];simp))
  ·rw [sizeLine_lim];simp [<- hl9];exact hz
 ·rename_i a
  obtain ⟨q,hq,rfl⟩:=vrel_ref ro
  cases e0:H[a]? with
  | none=>rw [e0] at h;exact h.elim
  | some l =>
   rw [e0] at h
   obtain ⟨vs,hpl,rs⟩:=F0.ok.lists _ _ _ hq e0
   have hz:=O.small l (List.mem_of_getElem? e0)
   have hl9:l.length=vs.length:=rs.length
   have F1:=Fwd.alloc (n:=0) (tk:=s.toks) F0.ok (rs.slice (lo.map (·.1)) (hi.map (·.1))) (Nat.le_trans (slice_len _ _ _) hz)
   refine tail_any (T := "list") (ops:=[.ref s.heap.objs.size,_]) (Heap.IsList.typeIs (s:={ s with heap:=s.heap.push { cls:=.type "slice",data:=.fields #[pv lo,pv hi,.none] } }) hpl.isList) F.slot_list_getitem.lookup
    (wpAny_getItem_list_slice hpl.isList (Heap.IsSliceOf.new ..) (pv_part lo) (pv_part hi) .none (by simp) ?_ ?_) rfl
   ·rw [slicePick_eq]
    exact k _ _ _ _ _ h (F0.trans F1) (mk_ref (by rw [<- O.len];simp))
   ·rw [sizeLine_lim];simp [<- hl9];exact hz
 ·exact h.elim
theorem snd_slc {o l r:Mini.E}(ho:SndE X A C o) (hl:SndE X A C l) (hr:SndE X A C r):SndE X A C (.slc o l r):=by
 intro re env nm ρ Q H φ s K EX hc L O h k
 refine Mini.inv_slc hc fun o' l' u' q p e9 hc9=>?_
 clear hc;subst e9
 ·simp only [Bool.and_eq_true] at hc9
  obtain ⟨⟨h1,h2⟩,h3⟩:=hc9
  replace h:=Mini.un_slc h
  refine Subscript_ (ho _ env nm ρ _ H φ s _ EX h1 L O h fun a H1 φ1 x1 s1 q1 F1 r1=>?_)
  refine wpAny_Slice ?_
  rw [evalPart_some,evalPart_some,evalPart_none]
  refine hl _ env nm ρ _ H1 φ1 s1 _ EX h2 (L.fwd O F1) F1.ok q1 fun b H2 φ2 x2 s2 q2 F2 r2=>?_
  refine hr _ env nm ρ _ H2 φ2 s2 _ EX h3 ((L.fwd O F1).fwd F1.ok F2) F2.ok q2 fun c H3 φ3 x3 s3 q3 F3 r3=>?_
  refine wpAny_pure ?_
  split at q3
  ·rename_i i j
   obtain ⟨t,rfl⟩:=vrel_int r2
   obtain ⟨u,rfl⟩:=vrel_int r3
   exact snd_slcV (lo:=some (i,t)) (hi:=some (j,u)) F3.ok (F3.val F2.ok (F2.val F1.ok r1)) q3 (k.after ((F1.trans F2).trans F3))
  ·exact q3.elim
theorem snd_slcL {o l:Mini.E}(ho:SndE X A C o) (hl:SndE X A C l):SndE X A C (.slcL o l):=by
 intro re env nm ρ Q H φ s K EX hc L O h k
 refine Mini.inv_slcL hc fun o' l' q p e9 hc9=>?_
 clear hc;subst e9
 ·simp only [Bool.and_eq_true] at hc9
  obtain ⟨h1,h2⟩:=hc9
  replace h:=Mini.un_slcL h
  refine Subscript_ (ho _ env nm ρ _ H φ s _ EX h1 L O h fun a H1 φ1 x1 s1 q1 F1 r1=>?_)
  refine wpAny_Slice ?_
  rw [evalPart_some,evalPart_none]
  refine hl _ env nm ρ _ H1 φ1 s1 _ EX h2 (L.fwd O F1) F1.ok q1 fun b H2 φ2 x2 s2 q2 F2 r2=>?_
  refine wpAny_pure (wpAny_pure ?_)
  split at q2
  ·rename_i i
   obtain ⟨t,rfl⟩:=vrel_int r2
   exact snd_slcV (lo:=some (i,t)) (hi:=none) F2.ok (F2.val F1.ok r1) q2 (k.after (F1.trans F2))
  ·exact q2.elim
theorem snd_slcH {o l:Mini.E}(ho:SndE X A C o) (hl:SndE X A C l):SndE X A C (.slcH o l):=by
 intro re env nm ρ Q H φ s K EX hc L O h k
 refine Mini.inv_slcH hc fun o' u' q p e9 hc9=>?_
 clear hc;subst e9
 ·simp only [Bool.and_eq_true] at hc9
  obtain ⟨h1,h2⟩:=hc9
  replace h:=Mini.un_slcH h
  refine Subscript_ (ho _ env nm ρ _ H φ s _ EX h1 L O h fun a H1 φ1 x1 s1 q1 F1 r1=>?_)
  refine wpAny_Slice ?_
  rw [evalPart_some,evalPart_none]
  refine wpAny_pure ?_
  refine hl _ env nm ρ _ H1 φ1 s1 _ EX h2 (L.fwd O F1) F1.ok q1 fun b H2 φ2 x2 s2 q2 F2 r2=>?_
  refine wpAny_pure ?_
  split at q2
  ·rename_i i
   obtain ⟨t,rfl⟩:=vrel_int r2
   exact snd_slcV (lo:=none) (hi:=some (i,t)) F2.ok (F2.val F1.ok r1) q2 (k.after (F1.trans F2))
  ·exact q2.elim
theorem star_of {gl sc nm e re}(h:Mini.chkE gl sc nm e re=true) (rest:List Expr) (env:Env):starEach (re::rest) env=(false,eval re env)::starEach rest env:=by
 have h:=(Mini.kinds h).form
 cases re<;>first | rfl | nomatch h
noncomputable def LitArgs (ps:Bool) (es:List Mini.E) (xs:List Value) (tk:Nat):Prop:=ps=true->∀ (j:Nat) (l:List Nat),es[j]? = some (.str l)->∀ x,xs[j]? = some x->∃ y t,x=.str y t/\0<t/\t<tk
theorem lit_str {re:Expr}{env:Env}{nm:List Str}{l:List Nat}{s:Shared}{K EX:Value->Shared->Prop}(hc:Mini.chkE X.gl env.scope.names nm (.str l) re=true)
  (k:K (.str ⟨l.toArray⟩ s.toks) { s with toks:=s.toks+1 }):wpAny (Mdl X) A (eval re env) K EX s:=by
 refine Mini.inv_str hc fun x k9 p e9 hx9 hl=>?_
 clear hc;subst e9
 ·subst hx9
  exact Constant_str (by simpa using k)
theorem wpE_lit {l:List Nat}{ρ:Mini.Env}{Q:V->Mini.Heap->Prop}{H:Mini.Heap}(h:Mini.wpE C (.str l) ρ Q H):Q (.str l) H:=h
theorem lit_len {re:Expr}{env:Env}{nm:List Str}{l:List Nat}(hc:Mini.chkE X.gl env.scope.names nm (.str l) re=true):l.length<=Mini.lim:=by
 exact Mini.inv_str hc fun x k9 p e9 hx9 hl=>hl
theorem snd_args:∀ (es:List Mini.E) (res:List Expr) (env:Env) (nm:List Str) (ρ:Mini.Env) (Q:List V->Mini.Heap->Prop) (H:Mini.Heap) (φ:List Addr) (s:Shared) (K:List Value->Shared->Prop) (EX:Value->Shared->Prop) (p:Pos),
  SndL X A C es->Mini.chkEs X.gl env.scope.names nm es res=true->EnvOk X φ nm env ρ s->Ok X.h₀ φ H s.heap->Mini.wpEs C es ρ Q H ->
  (∀ vs H' φ' xs s',Q vs H'->Fwd X.h₀ φ s φ' H' s'->VRels X.h₀ φ' s'.heap vs xs->vs.length=es.length->LitArgs X.gl.pos es xs s'.toks->K xs s') ->
  wpAny (Mdl X) A (spliced (backTo p (starEach res env))) K EX s
 | [],res,env,nm,ρ,Q,H,φ,s,K,EX,p,_,hc,L,O,h,k=>by
  obtain rfl:=Mini.inv_es_nil hc
  ·replace h:=Mini.ue_nil h
   exact args_nil (k _ _ _ _ _ h (Fwd.refl O) VRels.nil rfl (fun _ j l e=>by simp at e))
 | e::es,res,env,nm,ρ,Q,H,φ,s,K,EX,p,hs,hc,L,O,h,k=>by
  obtain ⟨re,res,e9,hc9⟩:=Mini.inv_es_cons hc
  clear hc;subst e9
  have hc:=hc9
  clear hc9
  ·
   replace h:=Mini.ue_cons h
   by_cases hlit:∃ l,e=.str l
   ·obtain ⟨l,rfl⟩:=hlit
    refine args_cons (lit_str hc.1 ?_) (star_of hc.1 _ _)
    have F1:Fwd X.h₀ φ s φ H { s with toks:=s.toks+1 }:=Fwd.tok O
    refine snd_args es res env nm ρ _ H φ _ _ EX p (fun e' he'=>hs e' (List.mem_cons_of_mem _ he')) hc.2 (L.fwd O F1) F1.ok (wpE_lit h) fun vs H2 φ2 xs s2 q2 F2 r2 hl hla=>?_
    refine k _ _ _ _ _ q2 (F1.trans F2) (VRels.cons (F2.val F1.ok (mk_str (lit_len hc.1))) r2) (by simp [hl]) ?_
    intro hps j l' e x hx
    cases j with
    | zero =>
     simp at hx;subst hx
     exact ⟨_,_,rfl,L.pos hps,F2.step.toks⟩
    | succ j=>exact hla hps j l' (by simpa using e) x (by simpa using hx)
   ·refine args_cons (hs e (by simp) _ env nm ρ _ H φ s _ EX hc.1 L O h fun v H1 φ1 x1 s1 q1 F1 r1=>?_) (star_of hc.1 _ _)
    refine snd_args es res env nm ρ _ H1 φ1 s1 _ EX p (fun e' he'=>hs e' (List.mem_cons_of_mem _ he')) hc.2 (L.fwd O F1) F1.ok q1 fun vs H2 φ2 xs s2 q2 F2 r2 hl hla=>?_
    refine k _ _ _ _ _ q2 (F1.trans F2) (VRels.cons (F2.val F1.ok r1) r2) (by simp [hl]) ?_
    intro hps j l' e' x hx
    cases j with
    | zero=>simp at e';exact absurd ⟨l',e'⟩ hlit
    | succ j=>exact hla hps j l' (by simpa using e') x (by simpa using hx)
theorem snd_list {es:List Mini.E}(hs:SndL X A C es):SndE X A C (.list es):=by
 intro re env nm ρ Q H φ s K EX hc L O h k
 refine Mini.inv_list hc fun res p e9 hc9=>?_
 clear hc;subst e9
 ·simp only [Bool.and_eq_true,decide_eq_true_eq] at hc9
  replace h:=Mini.un_list h
  show wpAny (Mdl X) A (do standAt p;newList (<- spliced (backTo p (starEach res env)))) K EX s
  refine wpAny_bind (wpAny_standAt (wpAny_bind (snd_args es res env nm ρ _ H φ s _ EX p hs hc9.1 L O h fun vs H1 φ1 xs s1 q1 F1 r1 hl _=>?_)))
  have F2:=Fwd.alloc (n:=0) (tk:=s1.toks) F1.ok r1 (by rw [hl];exact hc9.2)
  exact wpAny_newObj_type (hd:=sizeOk_of (by rw [<- r1.length,hl];exact hc9.2)) (k _ _ _ _ _ q1 (F1.trans F2) (mk_ref (by rw [<- F1.ok.len];simp)))
theorem mk_tup {h₀ φ h}{l:List V}{vs:List Value}{a:Addr}(hl:l.length<=Mini.lim) (ht:IsTup h a vs.toArray) (r:VRels h₀ φ h l vs):VRel h₀ φ h (.tup l) (.ref a):=by
 unfold VRel;exact ⟨hl,a,vs,rfl,ht,r⟩
theorem snd_tup {es:List Mini.E}(hs:SndL X A C es):SndE X A C (.tup es):=by
 intro re env nm ρ Q H φ s K EX hc L O h k
 refine Mini.inv_tup hc fun res k9 p e9 hc9=>?_
 clear hc;subst e9
 ·simp only [Bool.and_eq_true,decide_eq_true_eq] at hc9
  replace h:=Mini.un_tup h
  show wpAny (Mdl X) A (do standAt p;newTuple (<- spliced (backTo p (starEach res env)))) K EX s
  refine wpAny_bind (wpAny_standAt (wpAny_bind (snd_args es res env nm ρ _ H φ s _ EX p hs hc9.1 L O h fun vs H1 φ1 xs s1 q1 F1 r1 hl _=>?_)))
  have F2:Fwd X.h₀ φ1 s1 φ1 H1 { s1 with heap:=s1.heap.push { cls:=.type "tuple",data:=.seq xs.toArray } }:=Fwd.push F1.ok
  refine wpAny_newObj_type (hd:=sizeOk_of (by rw [<- r1.length,hl];exact hc9.2)) (k _ _ _ _ _ q1 (F1.trans F2) (mk_tup (by rw [hl];exact hc9.2) ?_ (F2.vals F1.ok r1)))
  exact ⟨_,Heap.get?_push_size _ rfl,rfl,0,rfl⟩
end
end MiniS
namespace MiniS
open PySem PySem.Calls PyProof.Rows
open Mini (V D)
section
variable {X:Cx}{A:Around}{C:Mini.Calls}
noncomputable def CallOk (X:Cx) (A:Around) (C:Mini.Calls):Prop :=
 ∀ (f:String) (ls:List Nat) (fa:Addr) (vs:List V) (Q:V->Mini.Heap->Prop) (H:Mini.Heap) (φ:List Addr) (s:Shared) (xs:List Value) (K EX:Value->Shared->Prop),
  X.gl.fns.lookup f=some ls->X.mg (Str.ofString f)=some (.ref fa)->C f vs Q H->Ok X.h₀ φ H s.heap->VRels X.h₀ φ s.heap vs xs->(X.gl.pos=true->0<s.toks∨∃ fn,X.P f=some fn/\fn.bump=true) ->
  (∀ j∈ls,∀ x,xs[j]? = some x->∃ y t,x=.str y t/\0<t/\t<s.toks)->PostOk X Q φ s K->wpAny (Mdl X) A (call (.ref fa) xs) K EX s
theorem evalArgs_all {f:Value}{es:List Mini.E}{res:List Expr}{env:Env}{nm:List Str}{s:Shared}{p:Pos}{Q:Args->Shared->Prop}{EX:Value->Shared->Prop}
  (hc:Mini.chkEs X.gl env.scope.names nm es res=true) (h:wpAny (Mdl X) A (spliced (backTo p (starEach res env))) (fun vs s'=>Q ⟨vs,[]⟩ s') EX s) :
  wpAny (Mdl X) A (evalArgs f true (backTo p (starEach res env)) []) Q EX s:=by
 cases res with
 | nil =>
  exact fun Γ p hΓ=>h Γ p hΓ
 | cons re res =>
  cases es with
  | nil=>nomatch hc
  | cons e es =>
   replace hc:=Mini.and_ok hc
   rw [star_of hc.1] at h ⊢
   exact evalArgs_plain h
theorem any_false:∀ {es:List Mini.E}{res:List Expr}{env:Env}{nm:List Str}{p:Pos},Mini.chkEs X.gl env.scope.names nm es res=true->(backTo p (starEach res env)).any (·.1)=false
 | [],[],_,_,_,_=>rfl
 | [],_::_,_,_,_,h=>nomatch h
 | _::_,[],_,_,_,h=>nomatch h
 | e::es,re::res,env,nm,p,h=>by
  replace h:=Mini.and_ok h
  rw [star_of h.1]
  show (false||(backTo p (starEach res env)).any (·.1))=false
  rw [any_false h.2];rfl
theorem all_plain:∀ {es:List Mini.E}{res:List Expr}{env:Env}{nm:List Str}{p:Pos},Mini.chkEs X.gl env.scope.names nm es res=true->(backTo p (starEach res env)).all (fun x=>!x.1)=true
 | [],[],_,_,_,_=>rfl
 | [],_::_,_,_,_,h=>nomatch h
 | _::_,[],_,_,_,h=>nomatch h
 | e::es,re::res,env,nm,p,h=>by
  replace h:=Mini.and_ok h
  rw [star_of h.1]
  show (!false&&(backTo p (starEach res env)).all (fun x=>!x.1))=true
  rw [all_plain h.2];rfl
theorem chk_len:∀ {es:List Mini.E}{res:List Expr}{gl:Mini.Gl}{sc:List (Str×NameKind)}{nm:List Str},Mini.chkEs gl sc nm es res=true->res.length=es.length
 | [],[],_,_,_,_=>rfl
 | [],_::_,_,_,_,h=>nomatch h
 | _::_,[],_,_,_,h=>nomatch h
 | e::es,re::res,gl,sc,nm,h=>by
  replace h:=Mini.and_ok h
  simp [chk_len h.2]
theorem snd_call (G:Gnd X) (hC:CallOk X A C) {f:String}{es:List Mini.E}(hs:SndL X A C es):SndE X A C (.call f es):=by
 intro re env nm ρ Q H φ s K EX hc L O h k
 refine Mini.inv_call hc fun id p0 res p e9 hc9=>?_
 clear hc;subst e9
 ·simp only [Bool.and_eq_true,beq_iff_eq] at hc9
  obtain ⟨⟨⟨⟨h1,h2⟩,h3⟩,h4⟩,h5⟩:=hc9
  subst h1
  simp only [Mini.noDebug,Bool.and_eq_true,Bool.not_eq_true'] at h4
  unfold Mini.callOk at h2
  cases hls:X.gl.fns.lookup f with
  | none=>rw [hls] at h2;cases h2
  | some ls =>
   rw [hls] at h2
   obtain ⟨fn,fa,o,params,body,scope,pm,cd,doc,hP,hl,hm,ho,hd,hcd,hck⟩:=G.fns f ls hls
   replace h:=Mini.un_call h
   refine wpAny_Call_NameR (load_glob G L O h3 h4.1 hm ?_)
   refine callWith_function (o:=o) (fd:=docDef (Str.ofString f) params body scope pm cd doc) (evalArgs_all h5 (snd_args es res env nm ρ _ H φ s _ EX p hs h5 L O h fun vs H1 φ1 xs s1 q1 F1 r1 hle hla=>?_))
   refine ⟨⟨F1.ok.base _ _ ho,hd⟩,?_⟩
   refine hC f ls fa vs Q H1 φ1 s1 xs K EX hls hm q1 F1.ok r1 (fun hp=>Or.inl (Nat.lt_of_lt_of_le (L.pos hp) F1.step.toks)) (fun j hj x hx=>?_) (k.after F1)
   simp only [Bool.and_eq_true,Bool.or_eq_true] at h2
   have hps:X.gl.pos=true:=by
    rcases h2.1 with q | q
    ·exact q
    ·rw [List.isEmpty_iff] at q;subst q;cases hj
   have:=List.all_eq_true.mp h2.2 j hj
   cases he:es[j]? with
   | none=>rw [he] at this;cases this
   | some e =>
    rw [he] at this
    obtain ⟨l9,rfl⟩:=Mini.text_eq this
    exact hla hps j _ he x hx
theorem name_eq {sc:List (Str×NameKind)}{n:String}{e:Expr}(h:Mini.isName sc n e=true):∃ p,e=.Name (Str.ofString n) p/\Mini.isGlob sc (Str.ofString n)=true:=by
 refine Mini.onName_ok h fun id p e9 h=>?_
 have e8:=eq_of_beq (Mini.and_ok h).1
 subst e8
 exact ⟨p,e9,(Mini.and_ok h).2⟩
theorem load_fn (G:Gnd X) {env:Env}{nm:List Str}{ρ:Mini.Env}{φ:List Addr}{H:Mini.Heap}{s:Shared}{K EX:Value->Shared->Prop}{n:String}{e:Expr}(hn:n∈bltFns)
  (L:EnvOk X φ nm env ρ s) (O:Ok X.h₀ φ H s.heap) (h:Mini.isName env.scope.names n e=true) (k:K (.builtin n) s):wpAny (Mdl X) A (eval e env) K EX s:=by
 obtain ⟨p,rfl,hg⟩:=name_eq h
 refine load_blt G L O hg ?_ (G.bf n hn).1 (G.bf n hn).2 k
 simp only [bltFns,List.mem_cons,List.not_mem_nil,or_false] at hn
 rcases hn with rfl | rfl | rfl<;>decide +kernel
theorem load_ty (G:Gnd X) {env:Env}{nm:List Str}{ρ:Mini.Env}{φ:List Addr}{H:Mini.Heap}{s:Shared}{K EX:Value->Shared->Prop}{n:String}{e:Expr}(hn:n∈bltTys)
  (L:EnvOk X φ nm env ρ s) (O:Ok X.h₀ φ H s.heap) (h:Mini.isName env.scope.names n e=true) (k:K (.type n) s):wpAny (Mdl X) A (eval e env) K EX s:=by
 obtain ⟨p,rfl,hg⟩:=name_eq h
 refine load_blt G L O hg ?_ (G.bt n hn).1 (G.bt n hn).2 k
 simp only [bltTys,List.mem_cons,List.not_mem_nil,or_false] at hn
 rcases hn with rfl | rfl | rfl | rfl | rfl | rfl | rfl<;>decide +kernel
theorem fn1 (G:Gnd X) {n:String}{fn re:Expr}{e:Mini.E}{env:Env}{nm:List Str}{ρ:Mini.Env}{φ:List Addr}{H:Mini.Heap}{s:Shared}{K EX:Value->Shared->Prop}{p:Pos}{Q:V->Mini.Heap->Prop}(hn:n∈bltFns)
  (he:SndE X A C e) (hc:Mini.chkE X.gl env.scope.names nm e re=true) (hf:Mini.isName env.scope.names n fn=true) (L:EnvOk X φ nm env ρ s) (O:Ok X.h₀ φ H s.heap) (h:Mini.wpE C e ρ Q H)
  (k:∀ v H' φ' x s',Q v H'->Fwd X.h₀ φ s φ' H' s'->VRel X.h₀ φ' s'.heap v x->wpAny (Mdl X) A (call (.builtin n) [x]) K EX s') :
  wpAny (Mdl X) A (eval (.Call fn [re] [] p) env) K EX s:=by
 obtain ⟨p0,rfl,hg⟩:=name_eq hf
 refine wpAny_Call_NameR (load_fn G hn L O hf ?_)
 refine PyProof.Rows.callWith_builtin1 (args_cons (he _ env nm ρ _ H φ s _ EX hc L O h fun v H1 φ1 x1 s1 q1 F1 r1=>args_nil (k v H1 φ1 x1 s1 q1 F1 r1)) (star_of hc _ _)) (star_of hc _ _)
theorem ty1 (G:Gnd X) {n:String}{fn re:Expr}{e:Mini.E}{env:Env}{nm:List Str}{ρ:Mini.Env}{φ:List Addr}{H:Mini.Heap}{s:Shared}{K EX:Value->Shared->Prop}{p:Pos}{Q:V->Mini.Heap->Prop}(hn:n∈bltTys)
  (he:SndE X A C e) (hc:Mini.chkE X.gl env.scope.names nm e re=true) (hf:Mini.isName env.scope.names n fn=true) (L:EnvOk X φ nm env ρ s) (O:Ok X.h₀ φ H s.heap) (h:Mini.wpE C e ρ Q H)
  (k:∀ v H' φ' x s',Q v H'->Fwd X.h₀ φ s φ' H' s'->VRel X.h₀ φ' s'.heap v x->wpAny (Mdl X) A (call (.type n) [x]) K EX s') :
  wpAny (Mdl X) A (eval (.Call fn [re] [] p) env) K EX s:=by
 obtain ⟨p0,rfl,hg⟩:=name_eq hf
 refine wpAny_Call_NameR (load_ty G hn L O hf ?_)
 refine PyProof.Rows.callWith_type1 (args_cons (he _ env nm ρ _ H φ s _ EX hc L O h fun v H1 φ1 x1 s1 q1 F1 r1=>args_nil (k v H1 φ1 x1 s1 q1 F1 r1)) (star_of hc _ _)) (star_of hc _ _)
theorem snd_len (G:Gnd X) {e:Mini.E}(he:SndE X A C e):SndE X A C (.len e):=by
 intro re env nm ρ Q H φ s K EX hc L O h k
 have hlim:Mini.lim=16777216:=rfl
 refine Mini.onF1_ok hc fun fn e' p e9 hf9 hc9=>?_
 clear hc;subst e9
 ·replace h:=Mini.un_len h
  refine fn1 G (by decide) he hc9 hf9 L O h fun v H1 φ1 x s1 q F1 r=>?_
  unfold Mini.val at q
  split at q
  ·rename_i w e
   obtain ⟨i,e1,rfl⟩:=Option.map_eq_some_iff.mp e
   unfold Mini.lenV at e1
   split at e1
   ·cases e1
    have hz:=len_str r
    obtain ⟨t,rfl⟩:=vrel_str r
    refine P.len_str (by simp [Str.length];lia) (k _ _ _ _ _ q (F1.trans (Fwd.tok F1.ok)) ?_)
    simpa [Str.length] using mk_int
   ·cases e1
    have hz:=len_tup r
    obtain ⟨a,vs,rfl,ht,rs⟩:=vrel_tup r
    have:=rs.length
    refine PyProof.Rows.len_tuple ht (by simp;lia) (k _ _ _ _ _ q (F1.trans (Fwd.tok F1.ok)) ?_)
    simpa [this] using mk_int
   ·cases e1
    obtain ⟨hz,a,vs,rfl,ht,rs⟩:=vrel_frz r
    have rs':VRels X.h₀ φ1 s1.heap (_:List V) vs:=rs.rels
    have:=rs'.length
    simp at this
    have hL:s1.heap.IsList a vs.toArray:=by obtain ⟨o,ho,r⟩:=ht;exact ⟨o,F1.ok.base _ _ ho,r⟩
    refine call_len_list hL (by simp;lia) (k _ _ _ _ _ q (F1.trans (Fwd.tok F1.ok)) ?_)
    simpa [this] using mk_int
   ·rename_i a
    cases e0:H1[a]? with
    | none=>rw [e0] at e1;cases e1
    | some l =>
     rw [e0] at e1
     simp at e1;subst e1
     obtain ⟨p,hp,rfl⟩:=vrel_ref r
     obtain ⟨vs,hpl,rs⟩:=F1.ok.lists _ _ _ hp e0
     have hz:=F1.ok.small l (List.mem_of_getElem? e0)
     have:=rs.length
     refine call_len_list hpl.isList (by simp;lia) (k _ _ _ _ _ q (F1.trans (Fwd.tok F1.ok)) ?_)
     simpa [this] using mk_int
   ·cases e1
  ·exact q.elim
theorem snd_ord (G:Gnd X) {e:Mini.E}(he:SndE X A C e):SndE X A C (.ord e):=by
 intro re env nm ρ Q H φ s K EX hc L O h k
 refine Mini.onF1_ok hc fun fn e' p e9 hf9 hc9=>?_
 clear hc;subst e9
 ·replace h:=Mini.un_ord h
  refine fn1 G (by decide) he hc9 hf9 L O h fun v H1 φ1 x s1 q F1 r=>?_
  split at q
  ·obtain ⟨t,rfl⟩:=vrel_str r
   exact P.ord_of_char (k _ _ _ _ _ q (F1.trans (Fwd.tok F1.ok)) mk_int)
  ·exact q.elim
theorem snd_toInt (G:Gnd X) {e:Mini.E}(he:SndE X A C e):SndE X A C (.toInt e):=by
 intro re env nm ρ Q H φ s K EX hc L O h k
 refine Mini.onF1_ok hc fun fn e' p e9 hf9 hc9=>?_
 clear hc;subst e9
 ·replace h:=Mini.un_toInt h
  refine ty1 G (by decide) he hc9 hf9 L O h fun v H1 φ1 x s1 q F1 r=>?_
  split at q
  ·obtain rfl:=vrel_bool r
   exact call_int_bool (k _ _ _ _ _ q (F1.trans (Fwd.tok F1.ok)) mk_int)
  ·exact q.elim
theorem isi_none {T:String}{s:Shared}{K EX:Value->Shared->Prop}(hne:(Value.type "NoneType" == Value.type T)=false) (hty:typeOf (.type T)=pure (.type "type")) (hsub:isSubtype (.type "NoneType") (.type T)=pure false)
  (h:K (.bool false) { s with toks:=s.toks+1 }):wpAny (Mdl X) A (call (.builtin "isinstance") [.none,.type T]) K EX s :=
 call_isinstance (isinstance_false_none hne hty hsub) h
theorem sub_none_str:isSubtype (.type "NoneType") (.type "str")=pure false:=by rw [isSubtype_type];kernel_rfl
theorem sub_none_int:isSubtype (.type "NoneType") (.type "int")=pure false:=by rw [isSubtype_type];kernel_rfl
theorem sub_none_bool:isSubtype (.type "NoneType") (.type "bool")=pure false:=by rw [isSubtype_type];kernel_rfl
theorem sub_none_list:isSubtype (.type "NoneType") (.type "list")=pure false:=by rw [isSubtype_type];kernel_rfl
theorem sub_none_tuple:isSubtype (.type "NoneType") (.type "tuple")=pure false:=by rw [isSubtype_type];kernel_rfl
theorem call_isi {v:V}{x:Value}{t:Mini.Ty}{φ:List Addr}{H:Mini.Heap}{s:Shared}{K EX:Value->Shared->Prop}(O:Ok X.h₀ φ H s.heap) (r:VRel X.h₀ φ s.heap v x)
  (k:∀ tk,s.toks<=tk->K (.bool (Mini.isinstV v t)) { s with toks:=tk }):wpAny (Mdl X) A (call (.builtin "isinstance") [x,.type (Mini.tyName t)]) K EX s:=by
 have k0:=k s.toks (Nat.le_refl _)
 have k1:=k (s.toks+1) (Nat.le_succ _)
 cases v
 ·obtain rfl:=vrel_none r
  cases t
  ·exact isi_none (by decide +kernel) F.isi_meta_str sub_none_str k1
  ·exact isi_none (by decide +kernel) F.isi_meta_int sub_none_int k1
  ·exact isi_none (by decide +kernel) F.isi_meta_bool sub_none_bool k1
  ·exact isi_none (by decide +kernel) F.isi_meta_list sub_none_list k1
  ·exact isi_none (by decide +kernel) F.isi_meta_tuple sub_none_tuple k1
 ·obtain rfl:=vrel_bool r
  cases t
  ·exact IsiPair.bool_str k1
  ·exact IsiPair.bool_int k0
  ·exact IsiPair.bool_bool k0
  ·exact IsiPair.bool_list k1
  ·exact IsiPair.bool_tuple k1
 ·obtain ⟨_,rfl⟩:=vrel_int r
  cases t
  ·exact IsiPair.int_str k1
  ·exact IsiPair.int_int k0
  ·exact IsiPair.int_bool k1
  ·exact IsiPair.int_list k1
  ·exact IsiPair.int_tuple k1
 ·obtain ⟨_,rfl⟩:=vrel_str r
  cases t
  ·exact IsiPair.str_str k0
  ·exact IsiPair.str_int k1
  ·exact IsiPair.str_bool k1
  ·exact IsiPair.str_list k1
  ·exact IsiPair.str_tuple k1
 ·obtain ⟨a,ha,rfl⟩:=vrel_ref r
  obtain ⟨vs,n,e⟩:=O.mem (List.mem_of_getElem? ha)
  cases t
  ·exact IsiPair.list_str e rfl k1
  ·exact IsiPair.list_int e rfl k1
  ·exact IsiPair.list_bool e rfl k1
  ·exact IsiPair.list_list e rfl k0
  ·exact IsiPair.list_tuple e rfl k1
 ·obtain ⟨a,vs,rfl,⟨o,e,hc,_⟩,_⟩:=vrel_tup r
  cases t
  ·exact IsiPair.tuple_str e hc k1
  ·exact IsiPair.tuple_int e hc k1
  ·exact IsiPair.tuple_bool e hc k1
  ·exact IsiPair.tuple_list e hc k1
  ·exact IsiPair.tuple_tuple e hc k0
 ·obtain ⟨_,a,vs,rfl,⟨o,e,hc,_⟩,_⟩:=vrel_frz r
  have e:=O.base _ _ e
  cases t
  ·exact IsiPair.list_str e hc k1
  ·exact IsiPair.list_int e hc k1
  ·exact IsiPair.list_bool e hc k1
  ·exact IsiPair.list_list e hc k0
  ·exact IsiPair.list_tuple e hc k1
theorem snd_isinst (G:Gnd X) {e:Mini.E}{t:Mini.Ty}(he:SndE X A C e):SndE X A C (.isinst e t):=by
 intro re env nm ρ Q H φ s K EX hc L O h k
 refine Mini.inv_isinst hc fun fn re' ty p e9 hc9=>?_
 clear hc;subst e9
 ·simp only [Bool.and_eq_true] at hc9
  obtain ⟨⟨h1,h2⟩,h3⟩:=hc9
  replace h:=Mini.un_isinst h
  obtain ⟨p0,rfl,hg⟩:=name_eq h1
  obtain ⟨p1,rfl,hg1⟩:=name_eq h2
  refine wpAny_Call_NameR (load_fn G (by decide) L O h1 ?_)
  refine PyProof.Rows.callWith_builtin1 (args_cons (he _ env nm ρ _ H φ s _ EX h3 L O h fun v H1 φ1 x1 s1 q1 F1 r1=>?_) (star_of h3 _ _)) (star_of h3 _ _)
  refine args_cons (load_ty G (by cases t<;>decide) (L.fwd O F1) F1.ok h2 ?_)
  exact args_nil (call_isi F1.ok r1 fun tk ht=>k _ _ _ _ _ q1 (F1.trans (Fwd.tok F1.ok ht)) mk_bool)
end
end MiniS
namespace MiniS
open PySem PySem.Calls PyProof.Rows
open Mini (V D)
section
variable {X:Cx}{A:Around}{C:Mini.Calls}
theorem base_of {o:Expr}(h:Mini.recv o=true) (name:Str) (env:Env):attributeBase o name env (eval o env)=eval o env:=by
 cases o<;>try rfl
 rename_i f args kws p
 cases args with
 | cons _ _=>cases f<;>rfl
 | nil=>cases kws with
  | cons _ _=>cases f<;>rfl
  | nil=>nomatch h
theorem meth {o:Mini.E}{o':Expr}{es:List Mini.E}{res:List Expr}{env:Env}{nm:List Str}{ρ:Mini.Env}{φ:List Addr}{H:Mini.Heap}{s:Shared}{K EX:Value->Shared->Prop}{ap p:Pos}{name:Str}{T id:String}
  {Q:V->Mini.Heap->Prop}{Q':V->List V->Mini.Heap->Prop}
  (ho:SndE X A C o) (hs:SndL X A C es) (hr:Mini.recv o'=true) (hline:(ap.endLine==p.line)=true) (hc:Mini.chkE X.gl env.scope.names nm o o'=true) (hcs:Mini.chkEs X.gl env.scope.names nm es res=true) (hfew:es.length<30)
  (pa:PlainAttrs T) (slot:Slot T name id) (hty:typeOf (.builtin id)=pure (.type "method_descriptor"))
  (L:EnvOk X φ nm env ρ s) (O:Ok X.h₀ φ H s.heap) (h:Mini.wpE C o ρ Q H)
  (hq:∀ v H',Q v H'->Mini.wpEs C es ρ (Q' v) H')
  (hT:∀ v H' φ' x s',Q v H'->Fwd X.h₀ φ s φ' H' s'->VRel X.h₀ φ' s'.heap v x->s'.TypeIs x T/\∀ a,x=.ref a->∃ ob,s'.heap.get? a=some ob/\ob.dict=none)
  (k:∀ v vs H' φ' x xs s',Q' v vs H'->Fwd X.h₀ φ s φ' H' s'->VRel X.h₀ φ' s'.heap v x->VRels X.h₀ φ' s'.heap vs xs->LitArgs X.gl.pos es xs s'.toks->wpAny (Mdl X) A (call (.builtin id) (x::xs)) K EX s') :
  wpAny (Mdl X) A (eval (.Call (.Attribute o' name ap) res [] p) env) K EX s:=by
 refine wpAny_Call_method (base_of hr _ _) ?_ hline pa slot hty (ho _ env nm ρ _ H φ s _ EX hc L O h fun v H1 φ1 x s1 q1 F1 r1=>?_)
 ·rw [all_plain hcs]
  have:=chk_len hcs
  have h1:decide (res.length+([]:List Keyword).length+(if ([]:List Keyword).isEmpty then 0 else 1)<30)=true:=by
   simp;lia
  rw [h1];rfl
 ·refine ⟨(hT v H1 φ1 x s1 q1 F1 r1).1,(hT v H1 φ1 x s1 q1 F1 r1).2,?_⟩
  refine callWith_builtin (any_false hcs) (evalArgs_all hcs (snd_args es res env nm ρ _ H1 φ1 s1 _ EX p hs hcs (L.fwd O F1) F1.ok (hq v H1 q1) fun vs H2 φ2 xs s2 q2 F2 r2 hl hla=>?_))
  exact k v vs H2 φ2 x xs s2 q2 (F1.trans F2) (F2.val F1.ok r1) r2 hla
theorem list_typed {φ:List Addr}{H:Mini.Heap}{s:Shared}{a:Nat}{x:Value}(O:Ok X.h₀ φ H s.heap) (r:VRel X.h₀ φ s.heap (.ref a) x):s.TypeIs x "list" /\ ∀ b,x=.ref b->∃ ob,s.heap.get? b=some ob/\ob.dict=none:=by
 obtain ⟨p,hp,rfl⟩:=vrel_ref r
 obtain ⟨vs,n,e⟩:=O.mem (List.mem_of_getElem? hp)
 refine ⟨⟨_,e,rfl⟩,fun b hb=>?_⟩
 cases hb
 exact ⟨_,e,rfl⟩
theorem str_typed {φ:List Addr}{s:Shared}{l:List Nat}{x:Value}(r:VRel X.h₀ φ s.heap (.str l) x):s.TypeIs x "str" /\ ∀ b,x=.ref b->∃ ob,s.heap.get? b=some ob/\ob.dict=none:=by
 obtain ⟨t,rfl⟩:=vrel_str r
 exact ⟨typeIs_str _ _ _,fun b hb=>by cases hb⟩
theorem sndL_nil:SndL X A C []:=fun e he=>by cases he
theorem sndL_one {e:Mini.E}(he:SndE X A C e):SndL X A C [e]:=fun e' he'=>by simp at he';subst he';exact he
theorem sndL_two {e e2:Mini.E}(he:SndE X A C e) (he2:SndE X A C e2):SndL X A C [e,e2]:=fun e' he'=>by
 simp at he';rcases he' with rfl | rfl<;>assumption
theorem chk_one {gl sc nm e re}(h:Mini.chkE gl sc nm e re=true):Mini.chkEs gl sc nm [e] [re]=true:=Mini.mk_es_cons h rfl
theorem chk_two {gl sc nm e re e2 re2}(h:Mini.chkE gl sc nm e re=true) (h2:Mini.chkE gl sc nm e2 re2=true):Mini.chkEs gl sc nm [e,e2] [re,re2]=true:=Mini.mk_es_cons h (Mini.mk_es_cons h2 rfl)
noncomputable def one (Q:V->Mini.Heap->Prop) (vs:List V) (H:Mini.Heap):Prop:=match vs with
 | [a]=>Q a H
 | _=>False
noncomputable def two (Q:V->V->Mini.Heap->Prop) (vs:List V) (H:Mini.Heap):Prop:=match vs with
 | [a,b]=>Q a b H
 | _=>False
theorem wp_one {e:Mini.E}{ρ:Mini.Env}{Q:V->Mini.Heap->Prop}{H:Mini.Heap}(h:Mini.wpE C e ρ Q H):Mini.wpEs C [e] ρ (one Q) H:=h
theorem wp_two {e e2:Mini.E}{ρ:Mini.Env}{Q:V->V->Mini.Heap->Prop}{H:Mini.Heap}(h:Mini.wpE C e ρ (fun v H₁=>Mini.wpE C e2 ρ (Q v) H₁) H):Mini.wpEs C [e,e2] ρ (two Q) H:=h
theorem one_eq {Q:V->Mini.Heap->Prop}{vs:List V}{H:Mini.Heap}(h:one Q vs H):∃ v,vs=[v]/\Q v H:=by
 unfold one at h
 split at h
 ·exact ⟨_,rfl,h⟩
 ·exact h.elim
theorem two_eq {Q:V->V->Mini.Heap->Prop}{vs:List V}{H:Mini.Heap}(h:two Q vs H):∃ v w,vs=[v,w]/\Q v w H:=by
 unfold two at h
 split at h
 ·exact ⟨_,_,rfl,h⟩
 ·exact h.elim
noncomputable def ofStr (P:List Nat->Prop) (v:V):Prop:=match v with
 | .str s=>P s
 | _=>False
theorem ofStr_eq {P:List Nat->Prop}{v:V}(h:ofStr P v):∃ s,v=.str s/\P s:=by
 unfold ofStr at h
 split at h
 ·exact ⟨_,rfl,h⟩
 ·exact h.elim
theorem snd_append {o e:Mini.E}(ho:SndE X A C o) (he:SndE X A C e):SndE X A C (.append o e):=by
 intro re env nm ρ Q H φ s K EX hc L O h k
 refine Mini.m1 hc fun o' e' ap p e9 h2 h3 h4 h5=>?_
 clear hc;subst e9
 ·replace h:=Mini.un_append h
  refine meth (Q':=fun vo=>one fun v H₂=>Mini.hea (Mini.appendV vo v H₂) Q) ho (sndL_one he) h3 h2 h4 (chk_one h5) (by simp) F.plainAttrs_list F.slot_list_append F.type_list_append L O h (fun v H' q=>?_) (fun v H1 φ1 x s1 q F1 r=>?_)
   (fun v vs H1 φ1 x xs s1 q F1 r rs _=>?_)
  ·split at q
   ·exact wp_one q
   ·exact q.elim
  ·split at q
   ·exact list_typed F1.ok r
   ·exact q.elim
  ·have q2:=one_eq q
   clear q
   obtain ⟨w,rfl,q⟩:=q2
   unfold Mini.hea at q
   split at q
   ·rename_i H2 e2
    unfold Mini.appendV at e2
    split at e2
    ·rename_i a
     obtain ⟨p,hp,rfl⟩:=vrel_ref r
     obtain ⟨y,r',rfl,ry,rn⟩:=rs.uncons
     obtain rfl:=rn.unnil
     cases e0:H1[a]? with
     | none=>rw [e0] at e2;cases e2
     | some l =>
      rw [e0] at e2
      simp only [Option.bind_some] at e2
      split at e2
      ·rename_i hlt
       cases e2
       obtain ⟨vs',⟨n,hl⟩,rl⟩:=F1.ok.lists _ _ _ hp e0
       have hz:vs'.toArray.size<=sizeLine:=by rw [sizeLine_lim];simp [<- rl.length];lia
       refine call_meets F.slot_list_append ⟨_,hl,rfl⟩ F.entry_list_append (F.args_list_append_2 _ _) (list_append p _ n y hz) ⟨hl,?_⟩
       have F2:=Fwd.change (tk:=s1.toks) F1.ok hp (Heap.SameBut.update s1.heap p (Obj.mapSeq fun xs=>xs.push y)) ⟨_,by
        have:=IsL.update hl (fun xs=>xs.push y)
        rwa [List.push_toArray] at this⟩ (rl.append (VRels.one ry)) (by simp;lia)
       exact k _ _ _ _ _ q (F1.trans F2) (by unfold VRel;rfl)
      ·cases e2
    ·cases e2
   ·exact q.elim
theorem snd_extend {o e:Mini.E}(ho:SndE X A C o) (he:SndE X A C e):SndE X A C (.extend o e):=by
 intro re env nm ρ Q H φ s K EX hc L O h k
 refine Mini.m1 hc fun o' e' ap p e9 h2 h3 h4 h5=>?_
 clear hc;subst e9
 ·replace h:=Mini.un_extend h
  refine meth (Q':=fun vo=>one fun v H₂=>Mini.hea (Mini.extendV vo v H₂) Q) ho (sndL_one he) h3 h2 h4 (chk_one h5) (by simp) F.plainAttrs_list F.slot_list_extend F.type_list_extend L O h (fun v H' q=>?_) (fun v H1 φ1 x s1 q F1 r=>?_)
   (fun v vs H1 φ1 x xs s1 q F1 r rs _=>?_)
  ·split at q
   ·exact wp_one q
   ·exact q.elim
  ·split at q
   ·exact list_typed F1.ok r
   ·exact q.elim
  ·have q2:=one_eq q
   clear q
   obtain ⟨w,rfl,q⟩:=q2
   unfold Mini.hea at q
   split at q
   ·rename_i H2 e2
    replace e2:=Mini.onRef_ok e2;obtain ⟨a,rfl,e2⟩:=e2
    replace e2:=Mini.onRef_ok e2;obtain ⟨b,rfl,e2⟩:=e2
    ·obtain ⟨p,hp,rfl⟩:=vrel_ref r
     obtain ⟨y,r',rfl,ry,rn⟩:=rs.uncons
     obtain rfl:=rn.unnil
     obtain ⟨p',hp',rfl⟩:=vrel_ref ry
     cases e0:H1[a]? with
     | none=>rw [e0] at e2;cases e2
     | some l =>
      cases e1:H1[b]? with
      | none=>rw [e0,e1] at e2;cases e2
      | some l2 =>
       rw [e0,e1] at e2
       simp only [Option.bind_some] at e2
       split at e2
       ·rename_i hlt
        cases e2
        obtain ⟨vs',⟨n,hl⟩,rl⟩:=F1.ok.lists _ _ _ hp e0
        obtain ⟨vs2,⟨n2,hl2⟩,rl2⟩:=F1.ok.lists _ _ _ hp' e1
        have z1:=rl.length
        have z2:=rl2.length
        have hz:vs'.toArray.size<=sizeLine:=by rw [sizeLine_lim];simp;lia
        have hz2:vs'.toArray.size+vs2.toArray.size<=sizeLine+1:=by rw [sizeLine_lim];simp;lia
        refine call_meets F.slot_list_extend ⟨_,hl,rfl⟩ F.entry_list_extend (F.args_list_extend_2 _ _) (AutoSeq1.list_extend_list_list_0 p _ n p' _ n2 ?_ hz hz2) ⟨hl,hl2,?_⟩
        ·simp only [Builtin.List.listTooLong,Bool.and_eq_true,decide_eq_true_eq,not_and,Nat.not_lt]
         intro _
         rw [sizeLine_lim];simp;lia
        ·have F2:=Fwd.change (tk:=s1.toks) F1.ok hp (Heap.SameBut.update s1.heap p (Obj.mapSeq fun xs=>xs++vs2.toArray)) ⟨_,by
          have:=IsL.update hl (fun xs=>xs++vs2.toArray)
          rwa [List.append_toArray] at this⟩ (rl.append rl2) (by simp;lia)
         exact k _ _ _ _ _ q (F1.trans F2) (by unfold VRel;rfl)
       ·cases e2
   ·exact q.elim
theorem dropLast_erase (vs:List Value) (h:vs≠[]):vs.toArray.eraseIdxIfInBounds (vs.toArray.size - 1)=vs.dropLast.toArray:=by
 have hl:vs.length - 1<vs.length:=by
  have:0<vs.length:=List.length_pos_iff.mpr h
  lia
 unfold Array.eraseIdxIfInBounds
 rw [dif_pos (by simpa using hl)]
 apply Array.ext'
 simp
theorem VRels.dropLast {h₀ φ h}{l:List V}{vs:List Value}(r:VRels h₀ φ h l vs):VRels h₀ φ h l.dropLast vs.dropLast:=by
 rw [List.dropLast_eq_take,List.dropLast_eq_take,<- r.length]
 exact VRels.take _ r
theorem snd_pop {o:Mini.E}(ho:SndE X A C o):SndE X A C (.pop o):=by
 intro re env nm ρ Q H φ s K EX hc L O h k
 refine Mini.inv_pop hc fun o' ap p e9 h2 h3 h4=>?_
 clear hc;subst e9
 ·replace h:=Mini.un_pop h
  refine meth (Q':=fun vo vs H₂=>vs=[]/\Mini.res (Mini.popV vo H₂) Q) (es:=[]) ho sndL_nil h3 h2 h4 rfl (by simp) F.plainAttrs_list F.slot_list_pop F.type_list_pop L O h (fun v H' q=>?_) (fun v H1 φ1 x s1 q F1 r=>?_)
   (fun v vs H1 φ1 x xs s1 q F1 r rs _=>?_)
  ·split at q
   ·exact ⟨rfl,q⟩
   ·exact q.elim
  ·split at q
   ·exact list_typed F1.ok r
   ·exact q.elim
  ·obtain ⟨rfl,q⟩:=q
   obtain rfl:=rs.unnil
   unfold Mini.res at q
   split at q
   ·rename_i w H2 e2
    unfold Mini.popV at e2
    split at e2
    ·rename_i a
     obtain ⟨p,hp,rfl⟩:=vrel_ref r
     cases e0:H1[a]? with
     | none=>rw [e0] at e2;cases e2
     | some l =>
      rw [e0] at e2
      simp only [Option.bind_some] at e2
      obtain ⟨w',hw,e3⟩:=Option.map_eq_some_iff.mp e2
      cases e3
      obtain ⟨vs',⟨n,hl⟩,rl⟩:=F1.ok.lists _ _ _ hp e0
      have z1:=rl.length
      have z2:=F1.ok.small l (List.mem_of_getElem? e0)
      rw [List.getLast?_eq_getElem?] at hw
      obtain ⟨y,hy,ry⟩:=rl.get hw
      have hne:vs'≠[]:=by rintro rfl;simp at hy
      have hz:vs'.toArray.size<=sizeLine:=by rw [sizeLine_lim];simp;lia
      refine call_meets F.slot_list_pop ⟨_,hl,rfl⟩ F.entry_list_pop (F.args_list_pop_1 _) (MeetsSeq.list_pop_last p _ n y (by rw [<- hy,z1];simp) hz) ⟨hl,?_⟩
      have F2:=Fwd.change (tk:=s1.toks) F1.ok hp (Heap.SameBut.update s1.heap p (Obj.mapSeq fun xs=>xs.eraseIdxIfInBounds (vs'.toArray.size - 1))) ⟨_,by
        have:=IsL.update hl (fun xs=>xs.eraseIdxIfInBounds (vs'.toArray.size - 1))
        rwa [dropLast_erase _ hne] at this⟩ (VRels.dropLast rl) (by simp;lia)
      exact k _ _ _ _ _ q (F1.trans F2) (F2.val F1.ok ry)
    ·cases e2
   ·exact q.elim
theorem idx_none {c:Nat}:∀ {l:List Nat},(∀ j:Nat,l[j]? ≠ some c)->Mini.idx? c l=none
 | [],_=>rfl
 | x::l,h=>by
  unfold Mini.idx?
  have h0:¬ x=c:=fun e=>h 0 (by simp [e])
  rw [if_neg h0,idx_none fun j=>by have:=h (j+1);simpa using this];rfl
theorem idx_some {c:Nat}:∀ {l:List Nat}{k:Nat},l[k]? = some c->(∀ j:Nat,j<k->l[j]? ≠ some c)->Mini.idx? c l=some k
 | [],_,e,_=>by simp at e
 | x::l,0,e,_=>by
  unfold Mini.idx?
  have:x=c:=by simpa using e
  rw [if_pos this]
 | x::l,k+1,e,h=>by
  unfold Mini.idx?
  have h0:¬ x=c:=fun e=>h 0 (by lia) (by simp [e])
  rw [if_neg h0,idx_some (k:=k) (by simpa using e) fun j hj=>by have:=h (j+1) (by lia);simpa using this];rfl
theorem find3_findC (l:List Nat) (c:Nat) (i:Int) (h0:0<=i):Txt.find3 ⟨l.toArray⟩ ⟨#[c]⟩ i=Mini.findC l c i.toNat:=by
 have hg:∀ v,l[v]? = some c->(Str.mk l.toArray).cps.getD v 0=c:=fun v hv=>by
  have hlt:=(List.getElem?_eq_some_iff.mp hv).1
  have:=(List.getElem?_eq_some_iff.mp hv).2
  simp [Array.getD,hlt,this]
 have hg':∀ v,v<l.length->(Str.mk l.toArray).cps.getD v 0=c->l[v]? = some c:=fun v hlt hv=>by
  simp [Array.getD,hlt] at hv
  rw [List.getElem?_eq_getElem hlt,hv]
 have hlen:(Str.mk l.toArray).length=l.length:=by simp [Str.length]
 have hf:fromIndex l.length i=i.toNat:=by
  show (max 0 (if i<0 then i+(l.length:Nat) else i)).toNat=_
  rw [if_neg (Int.not_lt.mpr h0),Int.max_eq_right h0]
 unfold Mini.findC
 rcases StrLaws.find3_spec ⟨l.toArray⟩ c i with ⟨e,hn⟩ | ⟨k,e,h1,h2,h3,h4⟩
 ·rw [e]
  rw [hlen,hf] at hn
  rw [idx_none fun j hj=>?_]
  rw [List.getElem?_drop] at hj
  exact hn (i.toNat+j) (by lia) (List.getElem?_eq_some_iff.mp hj).1 (hg _ hj)
 ·rw [e]
  rw [hlen] at h2
  rw [hlen,hf] at h1 h4
  rw [idx_some (k:=k - i.toNat) ?_ fun j hj hx=>?_]
  ·simp only
   congr 1
   lia
  ·rw [List.getElem?_drop]
   have:i.toNat+(k - i.toNat)=k:=by lia
   rw [this];exact hg' k h2 h3
  ·rw [List.getElem?_drop] at hx
   exact h4 (i.toNat+j) (by lia) (by lia) (hg _ hx)
theorem snd_find {o a b:Mini.E}(ho:SndE X A C o) (ha:SndE X A C a) (hb:SndE X A C b):SndE X A C (.find o a b):=by
 intro re env nm ρ Q H φ s K EX hc L O h k
 refine Mini.inv_find hc fun o' x' y' ap p e9 h2 h3 h4 h5 h6=>?_
 clear hc;subst e9
 ·replace h:=Mini.un_find h
  refine meth (Q':=fun vo=>two fun va vb H₂=>ofStr (fun s=>Mini.findP s va vb Q H₂) vo) ho (sndL_two ha hb) h3 h2 h4 (chk_two h5 h6) (by simp) F.plainAttrs_str F.slot_str_find F.type_str_find L O h (fun v H' q=>?_) (fun v H1 φ1 x s1 q F1 r=>?_)
   (fun v vs H1 φ1 x xs s1 q F1 r rs _=>?_)
  ·split at q
   ·exact wp_two q
   ·exact q.elim
  ·split at q
   ·exact str_typed r
   ·exact q.elim
  ·have q2:=two_eq q
   clear q
   obtain ⟨va,vb,rfl,q3⟩:=q2
   have q2:=ofStr_eq q3
   clear q3
   obtain ⟨l,rfl,q⟩:=q2
   replace q:=Mini.pOne_ok q;obtain ⟨c,rfl,q⟩:=q
   replace q:=Mini.pInt_ok q;obtain ⟨i,rfl,q⟩:=q
   ·obtain ⟨t,rfl⟩:=vrel_str r
    obtain ⟨y,r',rfl,ry,rn⟩:=rs.uncons
    obtain ⟨z,r'',rfl,rz,rn⟩:=rn.uncons
    obtain rfl:=rn.unnil
    obtain ⟨u,rfl⟩:=vrel_str ry
    obtain ⟨u',rfl⟩:=vrel_int rz
    refine SC.find3 ?_
    rw [find3_findC _ _ _ q.1]
    exact k _ _ _ _ _ q.2 (F1.trans (Fwd.tok F1.ok)) mk_int
noncomputable def mkS (l:List Nat):Str:=⟨l.toArray⟩
theorem strs_vals {h₀ φ h}:∀ {l:List V}{ls:List (List Nat)}{vs:List Value},Mini.strL l=some ls->VRels h₀ φ h l vs->∃ lt:List (Str×Tok),vs=strValues lt/\lt.map (·.1)=ls.map mkS
 | [],ls,vs,e,r=>by
  simp [Mini.strL] at e;subst e
  obtain rfl:=r.unnil
  exact ⟨[],rfl,rfl⟩
 | v::l,ls,vs,e,r=>by
  obtain ⟨x,vs',rfl,rx,rr⟩:=r.uncons
  cases v<;>simp [Mini.strL] at e
  rename_i w
  obtain ⟨ls',e',rfl⟩:=e
  obtain ⟨t,rfl⟩:=vrel_str rx
  obtain ⟨lt,rfl,h2⟩:=strs_vals e' rr
  exact ⟨(mkS w,t)::lt,rfl,by simp [h2]⟩
theorem join_mk (s:List Nat):∀ ls:List (List Nat),Txt.join (mkS s) (ls.map mkS)=mkS (Mini.joinWith s ls):=by
 intro ls
 show Builtin.Str.glued _ _=_
 rw [StrLaws.glued_eq_join]
 induction ls with
 | nil=>rfl
 | cons w r ih =>
  cases r with
  | nil=>rfl
  | cons w2 r =>
   show mkS w++mkS s++Str.join (mkS s) ((w2::r).map mkS)=_
   rw [ih]
   show Str.append (Str.append (mkS w) (mkS s)) (mkS (Mini.joinWith s (w2::r)))=mkS (w++s++Mini.joinWith s (w2::r))
   simp [Str.append,mkS]
theorem join_ok {s:List Nat}{ls:List (List Nat)}(h:(ls.map List.length).sum+ls.length * s.length<=Mini.lim):JoinOk (mkS s) (ls.map mkS)=true:=by
 unfold JoinOk
 rw [StrLaws.joinTotal]
 have e:((ls.map mkS).map (·.length))=ls.map List.length:=by
  simp [List.map_map,Function.comp_def,mkS,Str.length]
 rw [e]
 simp only [Builtin.Str.tooLong,List.length_map,Bool.not_eq_true',decide_eq_false_iff_not,Nat.not_lt]
 rw [sizeLine_lim]
 simpa [mkS,Str.length] using h
theorem join_len (s:List Nat):∀ ls:List (List Nat),(Mini.joinWith s ls).length<=(ls.map List.length).sum+ls.length * s.length
 | []=>by simp [Mini.joinWith]
 | [w]=>by simp [Mini.joinWith]
 | w::w2::r=>by
  have:=join_len s (w2::r)
  simp only [Mini.joinWith,List.length_append,List.map_cons,List.sum_cons,List.length_cons,Nat.add_mul,Nat.one_mul] at this ⊢
  lia
theorem snd_join {o a:Mini.E}(ho:SndE X A C o) (ha:SndE X A C a):SndE X A C (.join o a):=by
 intro re env nm ρ Q H φ s K EX hc L O h k
 refine Mini.m1 hc fun o' e' ap p e9 h2 h3 h4 h5=>?_
 clear hc;subst e9
 ·replace h:=Mini.un_join h
  refine meth (Q':=fun vo=>one fun va H₂=>ofStr (fun s=>Mini.joinP s va Q H₂) vo) ho (sndL_one ha) h3 h2 h4 (chk_one h5) (by simp) F.plainAttrs_str F.slot_str_join F.type_str_join L O h (fun v H' q=>?_) (fun v H1 φ1 x s1 q F1 r=>?_)
   (fun v vs H1 φ1 x xs s1 q F1 r rs _=>?_)
  ·split at q
   ·exact wp_one q
   ·exact q.elim
  ·split at q
   ·exact str_typed r
   ·exact q.elim
  ·have q2:=one_eq q
   clear q
   obtain ⟨va,rfl,q3⟩:=q2
   have q2:=ofStr_eq q3
   clear q3
   obtain ⟨l,rfl,q⟩:=q2
   unfold Mini.joinP at q
   split at q
   ·rename_i b
    obtain ⟨t,rfl⟩:=vrel_str r
    obtain ⟨y,r',rfl,ry,rn⟩:=rs.uncons
    obtain rfl:=rn.unnil
    obtain ⟨p,hp,rfl⟩:=vrel_ref ry
    cases e0:H1[b]? with
    | none=>rw [e0] at q;exact q.elim
    | some ls =>
     rw [e0] at q
     simp only [Option.bind_some] at q
     split at q
     ·rename_i ts e1
      obtain ⟨vs',hpl,rl⟩:=F1.ok.lists _ _ _ hp e0
      obtain ⟨lt,rfl,hlt⟩:=strs_vals e1 rl
      refine free (SC.join hpl.isList hlt (join_ok q.1) (fun t' k' ht=>?_))
      have e9:Txt.join ⟨l.toArray⟩ (ts.map mkS)=⟨(Mini.joinWith l ts).toArray⟩:=join_mk l ts
      rw [e9]
      exact k _ _ _ _ _ q.2 (F1.trans (Fwd.tok F1.ok ht)) (mk_str (Nat.le_trans (join_len _ _) q.1))
     ·exact q.elim
   ·exact q.elim
theorem splitAt_free {c:Nat}:∀ {p:List Nat},c ∉ p->Mini.splitAt c p=[p]
 | [],_=>rfl
 | x::l,h=>by
  have h1:¬ x=c:=fun e=>h (by simp [e])
  have h2:c ∉ l:=fun e=>h (by simp [e])
  unfold Mini.splitAt
  rw [if_neg h1,splitAt_free h2]
theorem splitAt_cut {c:Nat}(rest:List Nat):∀ {p:List Nat},c ∉ p->Mini.splitAt c (p++c::rest)=p::Mini.splitAt c rest
 | [],_=>by simp [Mini.splitAt]
 | x::l,h=>by
  have h1:¬ x=c:=fun e=>h (by simp [e])
  have h2:c ∉ l:=fun e=>h (by simp [e])
  have e:Mini.splitAt c (x::(l++c::rest))=match Mini.splitAt c (l++c::rest) with
   | []=>[[x]]
   | w::r=>(x::w)::r:=by
   conv=>lhs;unfold Mini.splitAt
   rw [if_neg h1]
   all_goals (cases Mini.splitAt c (l++c::rest)<;>rfl)
  show Mini.splitAt c (x::(l++c::rest))=_
  rw [e,splitAt_cut rest h2]
theorem splitAt_join {c:Nat}:∀ {ps:List (List Nat)},ps≠[]->(∀ p∈ps,c ∉ p)->Mini.splitAt c (Mini.joinWith [c] ps)=ps
 | [],h,_=>absurd rfl h
 | [p],_,h=>by simp only [Mini.joinWith];exact splitAt_free (h p (by simp))
 | p::q::r,_,h=>by
  have e:Mini.joinWith [c] (p::q::r)=p++c::Mini.joinWith [c] (q::r):=by simp [Mini.joinWith]
  rw [e,splitAt_cut _ (h p (by simp)),splitAt_join (by simp) fun x hx=>h x (List.mem_cons_of_mem _ hx)]
theorem split_mk (c:Nat) (l:List Nat):Txt.split (mkS l) ⟨#[c]⟩=(Mini.splitAt c l).map mkS:=by
 have hj:=StrLaws.join_split (mkS l) ⟨#[c]⟩
 have hf:=StrLaws.split_free (mkS l) c
 have hne:Txt.split (mkS l) ⟨#[c]⟩≠[]:=by
  unfold Txt.split
  split
  ·simp
  ·split
   ·simp
   ·rw [StrLaws.partsBetween_eq]
    obtain ⟨p,r,e⟩:=StrLaws.partsFrom_ne (mkS l) (Str.length ⟨#[c]⟩) 0 (Builtin.Str.occurrences (mkS l) ⟨#[c]⟩ 0 (mkS l).length ((mkS l).length+1))
    rw [e];simp
 generalize Txt.split (mkS l) ⟨#[c]⟩=ps at *
 have e:ps=(ps.map fun p=>p.cps.toList).map mkS:=by
  rw [List.map_map]
  conv=>lhs;rw [<- List.map_id ps]
  apply List.map_congr_left
  intro p _
  simp [mkS,Function.comp]
 have hj2:mkS (Mini.joinWith [c] (ps.map fun p=>p.cps.toList))=mkS l:=by
  rw [<- join_mk,<- e]
  show Builtin.Str.glued _ _=_
  rw [StrLaws.glued_eq_join];exact hj
 have hj3:Mini.joinWith [c] (ps.map fun p=>p.cps.toList)=l:=by
  have:=congrArg (fun s:Str=>s.cps.toList) hj2
  simpa [mkS] using this
 have:=splitAt_join (c:=c) (ps:=ps.map fun p=>p.cps.toList) (by simpa using hne) (by
  intro p hp
  obtain ⟨q,hq,rfl⟩:=List.mem_map.mp hp
  exact hf q hq)
 rw [hj3] at this
 rw [this,<- e]
theorem replace1_join (c d:Nat):∀ l:List Nat,Mini.joinWith [d] (Mini.splitAt c l)=Mini.replace1 l c d
 | []=>rfl
 | x::l=>by
  have ih:=replace1_join c d l
  have hne:Mini.splitAt c l≠[]:=by
   cases l with
   | nil=>simp [Mini.splitAt]
   | cons y l =>
    unfold Mini.splitAt
    split
    ·simp
    ·split<;>simp
  unfold Mini.splitAt
  unfold Mini.replace1 at ih ⊢
  cases e:Mini.splitAt c l with
  | nil=>exact absurd e hne
  | cons w r =>
   rw [e] at ih
   split
   ·rename_i hx
    simp only [List.map_cons,if_pos hx]
    rw [<- ih]
    simp [Mini.joinWith]
   ·rename_i hx
    simp only [List.map_cons,if_neg hx]
    rw [<- ih]
    cases r<;>simp [Mini.joinWith]
theorem replace_mk (c d:Nat) (l:List Nat):Txt.replace (mkS l) ⟨#[c]⟩ ⟨#[d]⟩=mkS (Mini.replace1 l c d):=by
 rw [StrLaws.replace_one,split_mk,<- StrLaws.glued_eq_join]
 have:=join_mk [d] (Mini.splitAt c l)
 rw [replace1_join] at this
 exact this
theorem snd_replace {o a b:Mini.E}(ho:SndE X A C o):SndE X A C (.replace o a b):=by
 intro re env nm ρ Q H φ s K EX hc L O h k
 refine Mini.inv_replace hc fun o' x' y' ap p e9 h2 h3 g1 g2 h4 h5 h6=>?_
 clear hc;subst e9
 ·obtain ⟨lb,rfl⟩:=Mini.text_eq g2
  replace h:=Mini.un_replace h
  refine wpAny_Call_method (base_of h3 _ _) ?_ h2 F.plainAttrs_str F.slot_str_replace F.type_str_replace (ho _ env nm ρ _ H φ s _ EX h4 L O h fun v H1 φ1 x s1 q1 F1 r1=>?_)
  ·rw [all_plain (chk_two h5 h6)];rfl
  ·split at q1
   ·rename_i l
    refine ⟨(str_typed r1).1,(str_typed r1).2,?_⟩
    refine callWith_builtin (any_false (chk_two h5 h6)) (evalArgs_all (chk_two h5 h6) ?_)
    have hz:=len_str r1
    obtain ⟨t,rfl⟩:=vrel_str r1
    have fin:∀ (va:V) (ya:Str) (ta:Tok) (s2:Shared),Fwd X.h₀ φ1 s1 φ1 H1 s2->VRel X.h₀ φ1 s2.heap va (.str ya ta)->0<ta->ta<s2.toks->Mini.wpE C (.str lb) ρ (fun vb H₃=>Mini.replaceP l va vb Q H₃) H1 ->
      wpAny (Mdl X) A (spliced (backTo p (starEach [y'] env))) (fun vs s₂=>wpAny (Mdl X) A (call (.builtin "str.replace") ([Value.str ⟨l.toArray⟩ t]++(Args.mk (.str ya ta::vs) []).pos) (Args.mk (.str ya ta::vs) []).kw) K EX s₂) EX s2:=by
     intro va ya ta s2 F2 ra hta0 hta1 hq
     have hq:=wpE_lit hq
     refine args_cons (lit_str h6 ?_) (star_of h6 _ _)
     refine args_nil ?_
     replace hq:=Mini.pOne_ok hq;obtain ⟨c,rfl,hq⟩:=hq
     obtain ⟨d,e9,hq⟩:=Mini.pOne_ok hq
     ·cases e9
      obtain ⟨t9,e9⟩:=vrel_str ra
      cases e9
      have F3:Fwd X.h₀ φ1 s2 φ1 H1 { s2 with toks:=s2.toks+1 }:=Fwd.tok F2.ok
      refine free (SC.replace (u:=ta) (v:=s2.toks) (Nat.ne_of_gt hta0) (Nat.ne_of_gt (Nat.lt_trans hta0 hta1)) (Nat.ne_of_lt hta1) ?_ ?_ fun t' k' ht=>?_)
      ·have:¬ ((⟨#[c]⟩:Str)=⟨#[d]⟩):=fun e=>hq.1 (by simpa using e)
       simpa using this
      ·simp [Str.length];lia
      ·have e8:Txt.replace ⟨l.toArray⟩ ⟨[c].toArray⟩ ⟨[d].toArray⟩=⟨(Mini.replace1 l c d).toArray⟩:=replace_mk c d l
       rw [e8]
       exact k _ _ _ _ _ hq.2.2 (((F1.trans F2).trans F3).trans (Fwd.tok F3.ok ht)) (mk_str (by simpa [Mini.replace1] using hz))
    rcases Mini.lit_cases g1 with g1 | ⟨xv,rfl,h7⟩
    ·obtain ⟨g1,h7⟩:=Mini.and_ok g1
     obtain ⟨la,rfl⟩:=Mini.text_eq g1
     have hpos:0<s1.toks:=Nat.lt_of_lt_of_le (L.pos h7) F1.step.toks
     refine args_cons (lit_str h5 ?_) (star_of h5 _ _)
     have q2:=wpE_lit q1
     have F2:Fwd X.h₀ φ1 s1 φ1 H1 { s1 with toks:=s1.toks+1 }:=Fwd.tok F1.ok
     exact fin (.str la) _ _ _ F2 (mk_str (lit_len h5)) hpos (Nat.lt_succ_self _) q2
    ·refine Mini.inv_var h5 fun id pid e9 hc8=>?_
     clear h5;subst e9
     ·simp only [Bool.and_eq_true,beq_iff_eq] at hc8
      obtain ⟨⟨g1,g2⟩,g3⟩:=hc8
      simp only [Mini.noDebug,Bool.and_eq_true,Bool.not_eq_true'] at g3
      replace q1:=Mini.un_var q1
      split at q1
      ·rename_i va hva
       refine args_cons (wpAny_Name (load_var (L.fwd O F1) g1 g2 hva (fun y ry lr=>?_) g3.2) g3.1)
       obtain ⟨ly,ty,rfl,u1,u2⟩:=lr (by simpa using h7) y rfl
       exact fin va _ _ _ (Fwd.refl F1.ok) ry u1 u2 q1
      ·exact q1.elim
   ·exact q1.elim
end
end MiniS
set_option linter.unusedVariables false
namespace MiniS
open PySem PySem.Calls PyProof.Rows
open Mini (V D)
section
variable {X:Cx}{A:Around}{C:Mini.Calls}
theorem sub_eq (l:List Nat) (i j:Nat):Builtin.Str.strSub (mkS l) i j=mkS ((l.drop i).take (j - i)):=by
 show Str.mk (l.toArray.extract i j)=Str.mk _
 rw [List.extract_toArray]
theorem strip_eq (l:List Nat) (c:Nat):stripped (Str.mk #[c]).cps.contains true false (mkS l)=mkS (l.dropWhile (· == c))/\(stripSame (Str.mk #[c]).cps.contains true false (mkS l)=true->l.dropWhile (· == c)=l):=by
 have eg:(Str.mk #[c]).cps.contains=fun d=>d==c:=by
  funext d
  show ([c].toArray).contains d=_
  rw [List.contains_toArray,List.contains_cons,List.contains_nil,Bool.or_false]
 have e1:stripLo (fun d=>d==c) true (mkS l)=(l.takeWhile (· == c)).length:=by
  show ((mkS l).cps.toList.takeWhile _).length=_
  simp [mkS]
 have ed:l.drop (l.takeWhile (· == c)).length=l.dropWhile (· == c):=by
  have:=List.takeWhile_append_dropWhile (p:=(· == c)) (l:=l)
  replace this:=congrArg (fun x=>x.drop (l.takeWhile (· == c)).length) this
  simp only [List.drop_left] at this
  exact this.symm
 rw [eg]
 refine ⟨?_,fun h=>?_⟩
 ·show Builtin.Str.strSub (mkS l) (stripLo (fun d=>d==c) true (mkS l)) (mkS l).length=_
  rw [e1,sub_eq,ed,List.take_of_length_le]
  rw [<- ed,List.length_drop];simp [mkS,Str.length]
 ·unfold stripSame at h
  rw [e1] at h
  have h0:(l.takeWhile (· == c)).length=0:=by simpa using (Bool.and_eq_true_iff.mp h).1
  rw [h0,List.drop_zero] at ed
  exact ed.symm
theorem snd_lstrip {o a:Mini.E}(ho:SndE X A C o) (ha:SndE X A C a):SndE X A C (.lstrip o a):=by
 intro re env nm ρ Q H φ s K EX hc L O h k
 refine Mini.m1 hc fun o' e' ap p e9 h2 h3 h4 h5=>?_
 clear hc;subst e9
 replace h:=Mini.un_lstrip h
 refine meth (Q':=fun vo=>one fun va H₂=>ofStr (fun s=>Mini.lstripP s va Q H₂) vo) ho (sndL_one ha) h3 h2 h4 (chk_one h5) (by simp) F.plainAttrs_str F.slot_str_lstrip F.type_str_lstrip L O h (fun v H' q=>?_) (fun v H1 φ1 x s1 q F1 r=>?_)
  (fun v vs H1 φ1 x xs s1 q F1 r rs _=>?_)
 ·split at q
  ·exact wp_one q
  ·exact q.elim
 ·split at q
  ·exact str_typed r
  ·exact q.elim
 ·have q2:=one_eq q
  clear q
  obtain ⟨va,rfl,q3⟩:=q2
  have q2:=ofStr_eq q3
  clear q3
  obtain ⟨l,rfl,q⟩:=q2
  replace q:=Mini.pOne_ok q
  obtain ⟨c,rfl,q⟩:=q
  ·skip
   have hz:=len_str r
   obtain ⟨t,rfl⟩:=vrel_str r
   obtain ⟨y,r',rfl,ry,rn⟩:=rs.uncons
   obtain rfl:=rn.unnil
   obtain ⟨u,rfl⟩:=vrel_str ry
   have hx:(mkS l).length<=sizeLine:=by rw [sizeLine_lim];simpa [mkS,Str.length] using hz
   obtain ⟨g1,g2⟩:=strip_eq l c
   refine call_gives F.slot_str_lstrip (typeIs_str _ _ _) F.entry_str_lstrip (F.args_str_lstrip_2 _ _) (gives_str_lstrip_chars (mkS l) ⟨#[c]⟩ t u) ?_
   by_cases hs:stripSame (Str.mk #[c]).cps.contains true false (mkS l)=true
   ·rw [if_pos hs]
    rw [g2 hs] at q
    exact k _ _ _ _ _ q F1 r
   ·rw [if_neg hs,g1]
    have hd:(l.dropWhile (· == c)).length<=Mini.lim:=Nat.le_trans (List.dropWhile_sublist _).length_le hz
    refine ⟨by rw [<- g1];exact fits_stripped _ _ _ hx,k _ _ _ _ _ q (F1.trans (Fwd.tok F1.ok)) (mk_str hd)⟩
end
end MiniS
namespace MiniS
open PySem PySem.Calls PyProof.Rows
open Mini (V D)
section
variable {X:Cx}{A:Around}{C:Mini.Calls}
noncomputable def SndC (X:Cx) (A:Around) (C:Mini.Calls) (e:Mini.E):Prop :=
 ∀ (re:Expr) (env:Env) (nm:List Str) (ρ:Mini.Env) (Q:Bool->Mini.Heap->Prop) (H:Mini.Heap) (φ:List Addr) (s:Shared) (K:Bool->Shared->Prop) (EX:Value->Shared->Prop),
  Mini.chkE X.gl env.scope.names nm e re=true->EnvOk X φ nm env ρ s->Ok X.h₀ φ H s.heap->Mini.wpE C e ρ (fun v H₁=>Mini.boo (Mini.truthV v) Q H₁) H ->
  (∀ b H' φ' s',Q b H'->Fwd X.h₀ φ s φ' H' s'->K b s')->wpAny (Mdl X) A (isTrue re env (eval re env)) K EX s
theorem isTrue_rfl {gl sc nm e re}(h:Mini.chkE gl sc nm e re=true) (hp:Mini.plainC e=true) (env:Env) (w:Sem Value) :
  isTrue re env w=(do let v <- w;standAt re.pos;holding [v] (truthy v)):=by
 have hf:=(Mini.kinds h).form
 have ht:=(Mini.kinds h).test hp
 clear h
 cases re<;>first | rfl | exact Bool.noConfusion hf | exact Bool.noConfusion ht | skip
 rename_i o _ _
 cases o<;>first | rfl | exact Bool.noConfusion ht
theorem sndC_plain {e:Mini.E}(he:SndE X A C e) (hp:Mini.plainC e=true):SndC X A C e:=by
 intro re env nm ρ Q H φ s K EX hc L O h k
 refine isTrue_plain (he re env nm ρ _ H φ s _ EX hc L O h fun v H1 φ1 x s1 q F1 r=>?_) (isTrue_rfl hc hp env _)
 unfold Mini.boo at q
 split at q
 ·rename_i t e
  obtain rfl:=truth_of r e
  exact wpAny_truthy_bool (k _ _ _ _ q F1)
 ·exact q.elim
theorem sndC_not {e:Mini.E}(he:SndC X A C e):SndC X A C (.not e):=by
 intro re env nm ρ Q H φ s K EX hc L O h k
 refine Mini.inv_not hc fun e' p e9 hc9=>?_
 clear hc;subst e9
 ·replace h:=Mini.un_not h
  refine isTrue_not (he _ env nm ρ (fun b H=>Q (!b) H) H φ s _ EX hc9 L O ?_ fun b H1 φ1 s1 q F1=>k _ _ _ _ q F1)
  have e:(fun v H₁=>Mini.boo (Mini.truthV v) (fun b H=>Mini.boo (Mini.truthV (V.bool !b)) Q H) H₁)=fun v H₁=>Mini.boo (Mini.truthV v) (fun b H=>Q (!b) H) H₁:=by
   funext v H₁
   cases v<;>rfl
  rw [e] at h;exact h
theorem sndC_cmp (hu:A.units+106<cLine) {o:Mini.Cmp}{l r:Mini.E}(hl:SndE X A C l) (hr:SndE X A C r):SndC X A C (.cmp o l r):=by
 intro re env nm ρ Q H φ s K EX hc L O h k
 refine Mini.inv_cmp hc fun l' o' r' p e9 hc9=>?_
 clear hc;subst e9
 ·simp only [Bool.and_eq_true] at hc9
  obtain ⟨⟨h1,h2⟩,h3⟩:=hc9
  replace h:=Mini.un_cmp h
  refine wpAny_isTrue_Compare1 (hl _ env nm ρ _ H φ s _ EX h2 L O h fun a H1 φ1 x1 s1 q1 F1 r1=>?_) (marks_of h3 _)
  refine hr _ env nm ρ _ H1 φ1 s1 _ EX h3 (L.fwd O F1) F1.ok q1 fun b H2 φ2 x2 s2 q2 F2 r2=>?_
  unfold Mini.boo at q2
  split at q2
  ·rename_i t e
   exact snd_cmpV hu h1 F2.ok (F2.val F1.ok r1) r2 e (wpAny_truthy_bool (k _ _ _ _ q2 (F1.trans F2)))
  ·exact q2.elim
theorem sndC_cmp2 (hu:A.units+106<cLine) {o₁ o₂:Mini.Cmp}{a b c:Mini.E}(ha:SndE X A C a) (hb:SndE X A C b) (hcc:SndE X A C c):SndC X A C (.cmp2 o₁ o₂ a b c):=by
 intro re env nm ρ Q H φ s K EX hc L O h k
 refine Mini.inv_cmp2 hc fun a' o' p' b' c' p e9 hc9=>?_
 clear hc;subst e9
 ·simp only [Bool.and_eq_true] at hc9
  obtain ⟨⟨⟨⟨h1,h2⟩,h3⟩,h4⟩,h5⟩:=hc9
  replace h:=Mini.un_cmp2 h
  refine isTrue_chain (ha _ env nm ρ _ H φ s _ EX h3 L O h fun va H1 φ1 x1 s1 q1 F1 r1=>?_) (by simpa [lastMarks] using marks_of h5 _)
  refine test_link (hb _ env nm ρ _ H1 φ1 s1 _ EX h4 (L.fwd O F1) F1.ok q1 fun vb H2 φ2 x2 s2 q2 F2 r2=>?_)
  unfold Mini.boo at q2
  split at q2
  ·rename_i t e
   refine snd_cmpV hu h1 F2.ok (F2.val F1.ok r1) r2 e (wpAny_truthy_bool ?_)
   cases t with
   | false=>exact k _ _ _ _ q2 (F1.trans F2)
   | true =>
    refine test_last (hcc _ env nm ρ _ H2 φ2 s2 _ EX h5 ((L.fwd O F1).fwd F1.ok F2) F2.ok q2 fun vc H3 φ3 x3 s3 q3 F3 r3=>?_)
    split at q3
    ·rename_i t e
     exact snd_cmpV hu h2 F3.ok (F3.val F2.ok r2) r3 e (wpAny_truthy_bool (k _ _ _ _ q3 ((F1.trans F2).trans F3)))
    ·exact q3.elim
  ·exact q2.elim
theorem sndC_is {e:Mini.E}{c:Mini.Cst}(he:SndE X A C e):SndC X A C (.is e c):=by
 intro re env nm ρ Q H φ s K EX hc L O h k
 refine Mini.inv_is hc fun e' r' p e9 hc9=>?_
 clear hc;subst e9
 ·simp only [Bool.and_eq_true] at hc9
  replace h:=Mini.un_is h
  refine wpAny_isTrue_Compare1 (he _ env nm ρ _ H φ s _ EX hc9.1 L O h fun a H1 φ1 x1 s1 q1 F1 r1=>?_) (cst_marks hc9.2 _)
  obtain ⟨y,ev,hp,hq⟩:=is_cst (X:=X) (A:=A) (env:=env) (s:=s1) r1 hc9.2
  refine ev (wpAny_is_plain hp ?_)
  rw [hq]
  exact wpAny_truthy_bool (k _ _ _ _ q1 F1)
theorem sndC_isnot {e:Mini.E}{c:Mini.Cst}(he:SndE X A C e):SndC X A C (.isnot e c):=by
 intro re env nm ρ Q H φ s K EX hc L O h k
 refine Mini.inv_isnot hc fun e' r' p e9 hc9=>?_
 clear hc;subst e9
 ·simp only [Bool.and_eq_true] at hc9
  replace h:=Mini.un_isnot h
  refine wpAny_isTrue_Compare1 (he _ env nm ρ _ H φ s _ EX hc9.1 L O h fun a H1 φ1 x1 s1 q1 F1 r1=>?_) (cst_marks hc9.2 _)
  obtain ⟨y,ev,hp,hq⟩:=is_cst (X:=X) (A:=A) (env:=env) (s:=s1) r1 hc9.2
  refine ev (wpAny_isNot_plain hp ?_)
  rw [hq]
  exact wpAny_truthy_bool (k _ _ _ _ q1 F1)
noncomputable def SndCL (X:Cx) (A:Around) (C:Mini.Calls) (es:List Mini.E):Prop:=∀ e∈es,SndC X A C e
theorem sndC_and_go:∀ (es:List Mini.E) (res:List Expr) (env:Env) (nm:List Str) (ρ:Mini.Env) (Q:Bool->Mini.Heap->Prop) (H:Mini.Heap) (φ:List Addr) (s:Shared) (K:Bool->Shared->Prop) (EX:Value->Shared->Prop) (p:Pos) (w:Sem Value),
  SndCL X A C es->Mini.chkEs X.gl env.scope.names nm es res=true->EnvOk X φ nm env ρ s->Ok X.h₀ φ H s.heap->Mini.wpAnd C es ρ (fun v H₁=>Mini.boo (Mini.truthV v) Q H₁) H ->
  (∀ b H' φ' s',Q b H'->Fwd X.h₀ φ s φ' H' s'->K b s')->wpAny (Mdl X) A (isTrue (.BoolOp .And res p) env w) K EX s
 | [],_,_,_,_,_,_,_,_,_,_,_,_,_,_,_,_,h,_=>False.elim h
 | e::es,res,env,nm,ρ,Q,H,φ,s,K,EX,p,w,hs,hc,L,O,h,k=>by
  cases res with
  | nil=>nomatch hc
  | cons re res =>
   replace hc:=Mini.and_ok hc
   cases es with
   | nil =>
    cases res with
    | cons _ _=>nomatch hc
    | nil =>
     refine isTrue_and (hs e (by simp) _ env nm ρ Q H φ s _ EX hc.1 L O h fun b H1 φ1 s1 q F1=>?_)
     cases b with
     | false=>exact k _ _ _ _ q F1
     | true=>exact isTrue_and_nil (k _ _ _ _ q F1)
   | cons e2 es =>
    refine isTrue_and (hs e (by simp) _ env nm ρ (fun b H₁=>match b with
      | true=>Mini.wpAnd C (e2::es) ρ (fun v H₁=>Mini.boo (Mini.truthV v) Q H₁) H₁
      | false=>Q false H₁) H φ s _ EX hc.1 L O ?_ fun b H1 φ1 s1 q F1=>?_)
    ·have e9:(fun v H₁=>Mini.boo (Mini.truthV v) (fun b H₁=>match b with
      | true=>Mini.wpAnd C (e2::es) ρ (fun v H₁=>Mini.boo (Mini.truthV v) Q H₁) H₁
      | false=>Mini.boo (Mini.truthV v) Q H₁) H₁)=fun v H₁=>Mini.boo (Mini.truthV v) (fun b H₁=>match b with
      | true=>Mini.wpAnd C (e2::es) ρ (fun v H₁=>Mini.boo (Mini.truthV v) Q H₁) H₁
      | false=>Q false H₁) H₁:=by
      funext v H₁
      cases v<;>try rfl
      rename_i b
      cases b<;>rfl
     exact Eq.mp (congrArg (fun q=>Mini.wpE C e ρ q H) e9) h
    ·cases b with
     | false=>exact k _ _ _ _ q F1
     | true=>exact sndC_and_go (e2::es) res env nm ρ Q H1 φ1 s1 K EX p w (fun e' he'=>hs e' (List.mem_cons_of_mem _ he')) hc.2 (L.fwd O F1) F1.ok q fun b H2 φ2 s2 q2 F2=>k _ _ _ _ q2 (F1.trans F2)
theorem sndC_or_go:∀ (es:List Mini.E) (res:List Expr) (env:Env) (nm:List Str) (ρ:Mini.Env) (Q:Bool->Mini.Heap->Prop) (H:Mini.Heap) (φ:List Addr) (s:Shared) (K:Bool->Shared->Prop) (EX:Value->Shared->Prop) (p:Pos) (w:Sem Value),
  SndCL X A C es->Mini.chkEs X.gl env.scope.names nm es res=true->EnvOk X φ nm env ρ s->Ok X.h₀ φ H s.heap->Mini.wpOr C es ρ (fun v H₁=>Mini.boo (Mini.truthV v) Q H₁) H ->
  (∀ b H' φ' s',Q b H'->Fwd X.h₀ φ s φ' H' s'->K b s')->wpAny (Mdl X) A (isTrue (.BoolOp .Or res p) env w) K EX s
 | [],_,_,_,_,_,_,_,_,_,_,_,_,_,_,_,_,h,_=>False.elim h
 | e::es,res,env,nm,ρ,Q,H,φ,s,K,EX,p,w,hs,hc,L,O,h,k=>by
  cases res with
  | nil=>nomatch hc
  | cons re res =>
   replace hc:=Mini.and_ok hc
   cases es with
   | nil =>
    cases res with
    | cons _ _=>nomatch hc
    | nil =>
     refine isTrue_or (hs e (by simp) _ env nm ρ Q H φ s _ EX hc.1 L O h fun b H1 φ1 s1 q F1=>?_)
     cases b with
     | true=>exact k _ _ _ _ q F1
     | false=>exact isTrue_or_nil (k _ _ _ _ q F1)
   | cons e2 es =>
    refine isTrue_or (hs e (by simp) _ env nm ρ (fun b H₁=>match b with
      | true=>Q true H₁
      | false=>Mini.wpOr C (e2::es) ρ (fun v H₁=>Mini.boo (Mini.truthV v) Q H₁) H₁) H φ s _ EX hc.1 L O ?_ fun b H1 φ1 s1 q F1=>?_)
    ·have e9:(fun v H₁=>Mini.boo (Mini.truthV v) (fun b H₁=>match b with
      | true=>Mini.boo (Mini.truthV v) Q H₁
      | false=>Mini.wpOr C (e2::es) ρ (fun v H₁=>Mini.boo (Mini.truthV v) Q H₁) H₁) H₁)=fun v H₁=>Mini.boo (Mini.truthV v) (fun b H₁=>match b with
      | true=>Q true H₁
      | false=>Mini.wpOr C (e2::es) ρ (fun v H₁=>Mini.boo (Mini.truthV v) Q H₁) H₁) H₁:=by
      funext v H₁
      cases v<;>try rfl
      rename_i b
      cases b<;>rfl
     exact Eq.mp (congrArg (fun q=>Mini.wpE C e ρ q H) e9) h
    ·cases b with
     | true=>exact k _ _ _ _ q F1
     | false=>exact sndC_or_go (e2::es) res env nm ρ Q H1 φ1 s1 K EX p w (fun e' he'=>hs e' (List.mem_cons_of_mem _ he')) hc.2 (L.fwd O F1) F1.ok q fun b H2 φ2 s2 q2 F2=>k _ _ _ _ q2 (F1.trans F2)
theorem sndC_and {es:List Mini.E}(hs:SndCL X A C es):SndC X A C (.and es):=by
 intro re env nm ρ Q H φ s K EX hc L O h k
 refine Mini.inv_and hc fun es' p e9 hc9=>?_
 clear hc;subst e9
 ·replace h:=Mini.un_and h
  exact sndC_and_go es _ env nm ρ Q H φ s K EX _ _ hs hc9 L O h k
theorem sndC_or {es:List Mini.E}(hs:SndCL X A C es):SndC X A C (.or es):=by
 intro re env nm ρ Q H φ s K EX hc L O h k
 refine Mini.inv_or hc fun es' p e9 hc9=>?_
 clear hc;subst e9
 ·replace h:=Mini.un_or h
  exact sndC_or_go es _ env nm ρ Q H φ s K EX _ _ hs hc9 L O h k
end
end MiniS
namespace MiniS
open PySem PySem.Calls PyProof.Rows
open Mini (V D)
noncomputable def Own (env:Env) (b:Addr):Prop:=b=env.locals∨∃ x,env.cells.lookup x=some b
structure FwdS (h₀:Heap) (env:Env) (φ:List Addr) (s:Shared) (φ':List Addr) (H':Mini.Heap) (s':Shared):Prop where
 same:∃ h' tk,s'={ s with heap:=h',toks:=tk }
 keep:∀ b o,b ∉ φ->¬ Own env b->s.heap.get? b=some o->s'.heap.get? b=some o
 size:s.heap.objs.size<=s'.heap.objs.size
 toks:s.toks<=s'.toks
 grow:∃ ψ,φ'=φ++ψ/\∀ a∈ψ,s.heap.objs.size<=a
 ok:Ok h₀ φ' H' s'.heap
theorem Fwd.toS {h₀ φ s φ' H' s'}(F:Fwd h₀ φ s φ' H' s') (env:Env):FwdS h₀ env φ s φ' H' s' :=
 ⟨F.step.same,fun b o h _ e=>F.step.keep b o h e,F.step.size,F.step.toks,F.grow,F.ok⟩
theorem FwdS.refl {h₀ env φ s H}(K:Ok h₀ φ H s.heap):FwdS h₀ env φ s φ H s:=(Fwd.refl K).toS env
theorem FwdS.trans {h₀ env φ s φ₁ H₁ s₁ φ₂ H₂ s₂}(a:FwdS h₀ env φ s φ₁ H₁ s₁) (b:FwdS h₀ env φ₁ s₁ φ₂ H₂ s₂):FwdS h₀ env φ s φ₂ H₂ s₂:=by
 obtain ⟨⟨h1,t1,e1⟩,k1,z1,w1,⟨ψ1,g1,m1⟩,o1⟩:=a
 obtain ⟨⟨h2,t2,e2⟩,k2,z2,w2,⟨ψ2,g2,m2⟩,o2⟩:=b
 refine ⟨⟨h2,t2,by rw [e2,e1]⟩,fun b o hb hn e=>?_,Nat.le_trans z1 z2,Nat.le_trans w1 w2,⟨ψ1++ψ2,by rw [g2,g1,List.append_assoc],fun a ha=>?_⟩,o2⟩
 ·refine k2 b o ?_ hn (k1 b o hb hn e)
  rw [g1,List.mem_append,not_or]
  exact ⟨hb,fun hm=>absurd (Heap.lt_size e) (Nat.not_lt.mpr (m1 b hm))⟩
 ·rcases List.mem_append.mp ha with q | q
  ·exact m1 a q
  ·exact Nat.le_trans z1 (m2 a q)
theorem FwdS.idx {h₀ env φ s φ' H' s'}(F:FwdS h₀ env φ s φ' H' s'):∀ (i:Nat) (a:Addr),φ[i]? = some a->φ'[i]? = some a:=by
 obtain ⟨ψ,e,_⟩:=F.grow
 intro i a hi
 rw [e,List.getElem?_append_left (List.getElem?_eq_some_iff.mp hi).1];exact hi
theorem FwdS.fields {X:Cx}{env φ nm ρ s φ' H H' s'}(K:Ok X.h₀ φ H s.heap) (L:EnvOk X φ nm env ρ s) (F:FwdS X.h₀ env φ s φ' H' s') {b:Addr}{o:Obj}{vs:Array Value}(hd:o.data=.fields vs)
  (e:s.heap.get? b=some o):s'.heap.get? b=some o:=by
 refine F.keep b o (fun hm=>?_) (fun hn=>?_) e
 ·obtain ⟨vs',n,e'⟩:=K.mem hm
  rw [e'] at e;cases e;simp at hd
 ·rcases hn with rfl | ⟨x,hx⟩
  ·obtain ⟨m,⟨o',es,ep,ho',hd',_⟩,_⟩:=L.locals
   rw [ho'] at e;cases e;rw [hd'] at hd;cases hd
  ·obtain ⟨ov,o',ho',hd'⟩:=L.cellAll x b hx
   rw [ho'] at e;cases e;rw [hd'] at hd;cases hd
theorem Ok.other {h₀ φ H h h'}{a:Addr}{o:Obj}(K:Ok h₀ φ H h) (hs:Heap.SameBut a h h') (ho:h.get? a=some o) (hn:∀ vs n,o.data≠.seq vs n) (hab:h₀.objs.size<=a):Ok h₀ φ H h':=by
 have hna:a ∉ φ:=fun hm=>by
  obtain ⟨vs,n,e⟩:=K.mem hm
  rw [e] at ho;cases ho;exact hn _ _ rfl
 have keep:∀ b o,b≠a->h.get? b=some o->h'.get? b=some o:=fun b o hb e=>(hs.2 b hb).trans e
 have tups:∀ b o,TupObj o->h.get? b=some o->h'.get? b=some o:=fun b o' ht e=>keep b o' (by
  rintro rfl
  rw [e] at ho;cases ho
  obtain ⟨_,vs,n,hd⟩:=ht
  exact hn _ _ hd) e
 refine ⟨fun b o e=>keep b o (fun q=>?_) (K.base b o e),K.len,K.nodup,K.above,K.small,Nat.le_trans K.room (Nat.le_of_eq hs.1.symm),fun i b l hi hl=>?_⟩
 ·subst q;exact absurd (Heap.lt_size e) (Nat.not_lt.mpr hab)
 ·obtain ⟨vs,⟨n,e⟩,r⟩:=K.lists i b l hi hl
  have hb:b≠a:=fun q=>hna (q▸List.mem_of_getElem? hi)
  exact ⟨vs,⟨n,keep b _ hb e⟩,VRels.mono (fun _ _ q=>q) tups l r⟩
theorem vrel_other {h₀ φ h h'}{a:Addr}{o:Obj}(hs:Heap.SameBut a h h') (ho:h.get? a=some o) (hn:∀ vs n,o.data≠.seq vs n) {v:V}{x:Value}(r:VRel h₀ φ h v x):VRel h₀ φ h' v x :=
 VRel.mono (fun _ _ q=>q) (fun b o' ht e=>(hs.2 b (by
  rintro rfl
  rw [e] at ho;cases ho
  obtain ⟨_,vs,n,hd⟩:=ht
  exact hn _ _ hd)).trans e) v r
section
variable {X:Cx}{A:Around}{C:Mini.Calls}
theorem get_set_self {ρ:Mini.Env}{x:Nat}{v:V}(h:x<ρ.length):((ρ.set x (some v))[x]?).getD none=some v:=by
 rw [List.getElem?_set_self h];rfl
theorem get_set_ne {ρ:Mini.Env}{x y:Nat}{v:V}(h:x≠y):(ρ.set x (some v))[y]? = ρ[y]?:=List.getElem?_set_ne h
theorem store_var {env:Env}{nm:List Str}{ρ:Mini.Env}{φ:List Addr}{H:Mini.Heap}{s:Shared}{K:Unit->Shared->Prop}{EX:Value->Shared->Prop}{id:Str}{x:Nat}{v:V}{y:Value}
  (L:EnvOk X φ nm env ρ s) (O:Ok X.h₀ φ H s.heap) (hx:nm[x]? = some id) (hl:Mini.isLoc env.scope.names id=true) (hf:(env.scope.names.lookup id != some .free)=true) (hlit:X.gl.lits.contains x=false)
  (r:VRel X.h₀ φ s.heap v y) (k:∀ s',FwdS X.h₀ env φ s φ H s'->EnvOk X φ nm env (ρ.set x (some v)) s'->K () s'):wpAny (Mdl X) A (storeName env id y) K EX s:=by
 have hkind:env.kindOf id=env.scope.names.lookup id:=rfl
 have hxl:x<ρ.length:=by rw [L.len];exact (List.getElem?_eq_some_iff.mp hx).1
 have hxlit:x ∉ X.gl.lits:=by simpa using hlit
 have hone:∀ (i:Nat) (z:Str),nm[i]? = some z->z=id->i=x:=fun i z hz e=>by
  subst e
  exact (List.getElem?_inj (List.getElem?_eq_some_iff.mp hz).1 L.nodup).mp (hz.trans hx.symm)
 have hother:∀ (i:Nat) (z:Str),nm[i]? = some z->z≠id->i≠x:=fun i z hz e q=>by
  subst q
  rw [hx] at hz;cases hz;exact e rfl
 unfold Mini.isLoc at hl
 split at hl
 ·rename_i e
  obtain ⟨m,hns,hm⟩:=L.locals
  obtain ⟨o,es,ep,ho,hd,_⟩:=_root_.id hns
  refine wpAny_storeName_local (hkind.trans e) hns (fun h' hn hs=>?_) (by rw [L.kind];rfl)
  have hnd:∀ vs n,o.data≠.seq vs n:=fun vs n q=>by rw [hd] at q;cases q
  have O':Ok X.h₀ φ H h':=O.other hs ho hnd L.above
  have hr:∀ v x,VRel X.h₀ φ s.heap v x->VRel X.h₀ φ h' v x:=fun v x q=>vrel_other hs ho hnd q
  refine k _ ⟨⟨h',_,rfl⟩,fun b o hb hno e=>(hs.2 b fun q=>hno (Or.inl q)).trans e,Nat.le_of_eq hs.1.symm,Nat.le_succ _,⟨[],by simp,by simp⟩,O'⟩ ?_
  refine ⟨L.kind,L.glob,L.blt,by simp [L.len],L.nodup,fun hp=>Nat.lt_of_lt_of_le (L.pos hp) (Nat.le_succ _),⟨_,hn,fun i z hz hk=>?_⟩,fun i z hz hk=>?_,L.above,L.aboveC,fun z c hc=>?_,L.apart⟩
  ·by_cases hzi:z=id
   ·have:=hone i z hz hzi
    subst this
    rw [get_set_self hxl,if_pos hzi]
    exact ⟨⟨y,rfl,hr _ _ r⟩,fun hi=>absurd hi hxlit⟩
   ·rw [get_set_ne (Ne.symm (hother i z hz hzi)),if_neg hzi]
    exact ⟨(hm i z hz hk).1.mono hr,(hm i z hz hk).2.mono (Nat.le_succ _)⟩
  ·obtain ⟨c,ov,hc,⟨oc,hoc,hdc⟩,q,lr⟩:=L.cells i z hz hk
   have hzi:z≠id:=by
    rintro rfl
    rw [hkind,e] at hk
    rcases hk with hk | hk<;>cases hk
   have hcl:c≠env.locals:=by
    rintro rfl
    rw [ho] at hoc;cases hoc;rw [hd] at hdc;cases hdc
   rw [get_set_ne (Ne.symm (hother i z hz hzi))]
   exact ⟨c,ov,hc,⟨oc,(hs.2 c hcl).trans hoc,hdc⟩,q.mono hr,lr.mono (Nat.le_succ _)⟩
  ·obtain ⟨ov,oc,hoc,hdc⟩:=L.cellAll z c hc
   have hcl:c≠env.locals:=by
    rintro rfl
    rw [ho] at hoc;cases hoc;rw [hd] at hdc;cases hdc
   exact ⟨ov,oc,(hs.2 c hcl).trans hoc,hdc⟩
 ·rename_i e
  obtain ⟨c,ov,hc,hcell,q,lr⟩:=L.cells x id hx (Or.inl (hkind.trans e))
  obtain ⟨o,ho,hd⟩:=_root_.id hcell
  refine wpAny_storeName_cell L.kind (hkind.trans e) hc hcell fun h' hn hs=>?_
  have hnd:∀ vs n,o.data≠.seq vs n:=fun vs n q=>by rw [hd] at q;cases q
  have O':Ok X.h₀ φ H h':=O.other hs ho hnd (L.aboveC _ _ hc)
  have hr:∀ v x,VRel X.h₀ φ s.heap v x->VRel X.h₀ φ h' v x:=fun v x q=>vrel_other hs ho hnd q
  refine k _ ⟨⟨h',_,rfl⟩,fun b o hb hno e=>(hs.2 b fun q=>hno (Or.inr ⟨id,by rw [q];exact hc⟩)).trans e,Nat.le_of_eq hs.1.symm,Nat.le_refl _,⟨[],by simp,by simp⟩,O'⟩ ?_
  refine ⟨L.kind,L.glob,L.blt,by simp [L.len],L.nodup,L.pos,?_,fun i z hz hk=>?_,L.above,L.aboveC,fun z c' hc'=>?_,L.apart⟩
  ·obtain ⟨m,hns,hm⟩:=L.locals
   obtain ⟨ol,es,ep,hol,hdl,rest⟩:=hns
   have hcl:env.locals≠c:=by
    intro q
    rw [q,ho] at hol;cases hol;rw [hd] at hdl;cases hdl
   refine ⟨m,⟨ol,es,ep,(hs.2 _ hcl).trans hol,hdl,rest⟩,fun i z hz hk=>?_⟩
   have hzi:z≠id:=by
    rintro rfl
    rw [hkind,e] at hk;cases hk
   rw [get_set_ne (Ne.symm (hother i z hz hzi))]
   exact ⟨(hm i z hz hk).1.mono hr,(hm i z hz hk).2⟩
  ·obtain ⟨c',ov',hc',⟨oc,hoc,hdc⟩,q',lr'⟩:=L.cells i z hz hk
   by_cases hzi:z=id
   ·have:=hone i z hz hzi
    subst this
    subst hzi
    rw [hc] at hc';cases hc'
    rw [get_set_self hxl]
    exact ⟨c,some y,hc,hn,⟨y,rfl,hr _ _ r⟩,fun hi=>absurd hi hxlit⟩
   ·have hcc:c'≠c:=by
     rintro rfl
     exact hzi (L.apart z id c' hc' hc)
    rw [get_set_ne (Ne.symm (hother i z hz hzi))]
    exact ⟨c',ov',hc',⟨oc,(hs.2 c' hcc).trans hoc,hdc⟩,q'.mono hr,lr'⟩
  ·by_cases hcc:c'=c
   ·subst hcc;exact ⟨some y,hn⟩
   ·obtain ⟨ov',oc,hoc,hdc⟩:=L.cellAll z c' hc'
    exact ⟨ov',oc,(hs.2 c' hcc).trans hoc,hdc⟩
 ·rename_i e
  rw [e] at hf;simp at hf
 ·cases hl
end
end MiniS
namespace MiniS
open PySem
theorem size_upd (h:Heap) (a:Addr) (f:Obj->Obj):(h.update a f).objs.size=h.objs.size:=by
 obtain ⟨o,l⟩:=h
 simp [Heap.update]
theorem size_psh (h:Heap) (o:Obj):(h.push o).objs.size=h.objs.size+1:=by
 obtain ⟨os,l⟩:=h
 simp [Heap.push]
theorem runs_size {M:Model}{Γ:Ctx}{p:Pos}{t:Sem Fin}{fs:List Frame}{s s':Shared}{e:End}(h:Runs M Γ p t fs s e s'):s.heap.objs.size<=s'.heap.objs.size:=by
 induction h<;>(try simp only [Shared.setGen,size_upd,size_psh] at *)<;>lia
theorem returns_size {M:Model}{Γ:Ctx}{p:Pos}{s s':Shared}{r:Result}(h:Returns M Γ p s r s'):s.heap.objs.size<=s'.heap.objs.size:=runs_size h
theorem wakes_size {M:Model}{Γ:Ctx}{p:Pos}{g:Nat}{r:Resume}{s s':Shared}{res:GenResult}(h:Wakes M Γ p g r s res s'):s.heap.objs.size<=s'.heap.objs.size:=by
 unfold Wakes at h
 split at h
 ·exact h.elim
 ·split at h
  ·obtain ⟨e₁,s₁,hr,_,_,rfl⟩:=h;exact (runs_size hr:(s.setGen g .running).heap.objs.size<=s₁.heap.objs.size)
  ·rw [h.2];exact Nat.le_refl _
  ·rw [h.2];exact Nat.le_refl _
 ·obtain ⟨e₁,s₁,hr,_,_,rfl⟩:=h;exact (runs_size hr:(s.setGen g .running).heap.objs.size<=s₁.heap.objs.size)
 ·rw [h.2];exact Nat.le_refl _
 ·rw [h.2];exact Nat.le_refl _
open Sem (wp)
theorem wp_size {α:Type}(M:Model) (Γ:Ctx) (n:Nat) (t:Sem α):∀ (Q:α->Pos->Shared->Prop) (E:Value->Pos->Shared->Prop) (p:Pos) (s:Shared),n<=s.heap.objs.size->wp M Γ t Q E p s ->
  wp M Γ t (fun a p' s'=>n<=s'.heap.objs.size/\Q a p' s') (fun e p' s'=>n<=s'.heap.objs.size/\E e p' s') p s:=by
 induction t with
 | pure a=>intro Q E p s hn h;exact ⟨hn,h⟩
 | raise e=>intro Q E p s hn h;exact ⟨hn,h⟩
 | unsupported _=>intro Q E p s _ h;exact h
 | finish _=>intro Q E p s _ h;exact h
 | rule _ k ih=>intro Q E p s hn h;exact ih () Q E p s hn h
 | «at» p' k ih=>intro Q E p s hn h;exact ih () Q E p' s hn h
 | load a _ k ih=>intro Q E p s hn h;obtain ⟨o,ho,h⟩:=h;exact ⟨o,ho,ih o Q E p s hn h⟩
 | update a _ f k ih=>intro Q E p s hn h;exact ⟨h.1,ih () Q E p _ (by show n<=(s.heap.update a f).objs.size;rw [size_upd];exact hn) h.2⟩
 | loadIfAlive a k ih=>intro Q E p s hn h;exact ih _ Q E p s hn h
 | point _ k ih=>intro Q E p s hn h;exact ih () Q E p s hn h
 | register _ _=>intro Q E p s _ h;exact h
 | alloc o k ih=>intro Q E p s hn h;exact ih _ Q E p _ (by show n<=(s.heap.push o).objs.size;rw [size_psh];exact Nat.le_succ_of_le hn) h
 | fresh k ih=>intro Q E p s hn h;exact ih _ Q E p _ hn h
 | ask k ih=>intro Q E p s hn h;exact ih _ Q E p s hn h
 | choose src m k ih=>intro Q E p s hn h;exact ⟨h.1,ih _ Q E p _ hn h.2⟩
 | os q _ k ih=>intro Q E p s hn h;exact ih _ Q E p _ hn h
 | call c hd _ _ k ih=>intro Q E p s hn h;obtain ⟨r,s',hr,h⟩:=h;exact ⟨r,s',hr,ih r Q E p s' (Nat.le_trans hn (returns_size hr)) h⟩
 | handled own k ih=>intro Q E p s hn h;exact ih _ Q E p s hn h
 | genState g k ih=>intro Q E p s hn h;obtain ⟨st,hs,h⟩:=h;exact ⟨st,hs,ih _ Q E p s hn h⟩
 | newGen c k ih=>intro Q E p s hn h;exact ih _ Q E p _ hn h
 | resume g r _ k ih=>intro Q E p s hn h;obtain ⟨res,s',hw,h⟩:=h;exact ⟨res,s',hw,ih res Q E p s' (Nat.le_trans hn (wakes_size hw)) h⟩
 | yield _ _ _ _=>intro Q E p s _ h;exact h
 | stack k ih=>intro Q E p s hn h;exact ih _ Q E p s hn h
 | fork _ _=>intro Q E p s _ h;exact h
 | thread k ih=>intro Q E p s hn h;exact ih _ Q E p s hn h
 | await _ _ _ _ _=>intro Q E p s _ h;exact h
theorem freeZ {α:Type}{M:Model}{A:Around}{t:Sem α}{K:α->Shared->Prop}{EX:Value->Shared->Prop}{s:Shared}
  (h:wpAny M A t (fun x s'=>s.heap.objs.size<=s'.heap.objs.size->K x s') EX s):wpAny M A t K EX s :=
 fun Γ p hΓ=>Sem.wp_mono M Γ t (fun _ _ _ q=>q.2 q.1) (fun _ _ _ q=>q.2) p s (wp_size M Γ s.heap.objs.size t _ _ p s (Nat.le_refl _) (h Γ p hΓ))
end MiniS
namespace MiniS
open PySem PySem.Calls PyProof.Rows
open Mini (V D)
structure But (I:Addr) (s s':Shared):Prop where
 same:∃ h' tk,s'={ s with heap:=h',toks:=tk }
 keep:∀ b o,b≠I->s.heap.get? b=some o->s'.heap.get? b=some o
 size:s.heap.objs.size<=s'.heap.objs.size
 toks:s.toks<=s'.toks
theorem But.ok {h₀ φ H I s s'}{o:Obj}{vs:Array Value}(B:But I s s') (K:Ok h₀ φ H s.heap) (ho:s.heap.get? I=some o) (hd:o.data=.fields vs) (hab:h₀.objs.size<=I):Ok h₀ φ H s'.heap:=by
 have hna:I ∉ φ:=fun hm=>by
  obtain ⟨vs',n,e⟩:=K.mem hm
  rw [e] at ho;cases ho;simp at hd
 have tups:∀ b o,TupObj o->s.heap.get? b=some o->s'.heap.get? b=some o:=fun b o' ht e=>B.keep b o' (by
  rintro rfl
  rw [e] at ho;cases ho
  obtain ⟨_,vs',n,hd'⟩:=ht
  rw [hd] at hd';cases hd') e
 refine ⟨fun b o e=>B.keep b o (fun q=>?_) (K.base b o e),K.len,K.nodup,K.above,K.small,Nat.le_trans K.room B.size,fun i b l hi hl=>?_⟩
 ·subst q;exact absurd (Heap.lt_size e) (Nat.not_lt.mpr hab)
 ·obtain ⟨vs',⟨n,e⟩,r⟩:=K.lists i b l hi hl
  have hb:b≠I:=fun q=>hna (q▸List.mem_of_getElem? hi)
  exact ⟨vs',⟨n,B.keep b _ hb e⟩,VRels.mono (fun _ _ q=>q) tups l r⟩
theorem But.val {h₀ φ I s s'}{o:Obj}{vs:Array Value}(B:But I s s') (ho:s.heap.get? I=some o) (hd:o.data=.fields vs) {v:V}{x:Value}(r:VRel h₀ φ s.heap v x):VRel h₀ φ s'.heap v x :=
 VRel.mono (fun _ _ q=>q) (fun b o' ht e=>B.keep b o' (by
  rintro rfl
  rw [e] at ho;cases ho
  obtain ⟨_,vs',n,hd'⟩:=ht
  rw [hd] at hd';cases hd') e) v r
theorem But.env {X:Cx}{φ nm env ρ I s s'}{o:Obj}{vs:Array Value}(B:But I s s') (L:EnvOk X φ nm env ρ s) (ho:s.heap.get? I=some o) (hd:o.data=.fields vs):EnvOk X φ nm env ρ s':=by
 have hr:∀ v x,VRel X.h₀ φ s.heap v x->VRel X.h₀ φ s'.heap v x:=fun v x r=>B.val ho hd r
 have hcell:∀ c ov,s.heap.IsCell c ov->s'.heap.IsCell c ov:=fun c ov hc=>by
  obtain ⟨oc,hoc,hdc⟩:=hc
  refine ⟨oc,B.keep c oc (fun q=>?_) hoc,hdc⟩
  subst q
  rw [ho] at hoc;cases hoc;rw [hd] at hdc;cases hdc
 refine ⟨L.kind,L.glob,L.blt,L.len,L.nodup,fun hp=>Nat.lt_of_lt_of_le (L.pos hp) B.toks,?_,?_,L.above,L.aboveC,fun x c hc=>?_,L.apart⟩
 ·obtain ⟨m,⟨ol,es,ep,hol,hdl,q⟩,hm⟩:=L.locals
  have hn:env.locals≠I:=fun e=>by
   rw [e,ho] at hol;cases hol;rw [hd] at hdl;cases hdl
  exact ⟨m,⟨ol,es,ep,B.keep _ _ hn hol,hdl,q⟩,fun i x hx hk=>⟨(hm i x hx hk).1.mono hr,(hm i x hx hk).2.mono B.toks⟩⟩
 ·intro i x hx hk
  obtain ⟨c,ov,hc,hcl,r,lr⟩:=L.cells i x hx hk
  exact ⟨c,ov,hc,hcell c ov hcl,r.mono hr,lr.mono B.toks⟩
 ·obtain ⟨ov,hcl⟩:=L.cellAll x c hc
  exact ⟨ov,hcell c ov hcl⟩
theorem FwdS.but {h₀ env φ₀ s₀ φ H I s s'}(F:FwdS h₀ env φ₀ s₀ φ H s) (B:But I s s') (hI:s₀.heap.objs.size<=I) (O:Ok h₀ φ H s'.heap):FwdS h₀ env φ₀ s₀ φ H s':=by
 obtain ⟨⟨h1,t1,e1⟩,k1,z1,w1,g1,_⟩:=F
 obtain ⟨⟨h2,t2,e2⟩,k2,z2,w2⟩:=B
 exact ⟨⟨h2,t2,by rw [e2,e1]⟩,fun b o hb hn e=>k2 b o (fun q=>by
  subst q;exact absurd (Heap.lt_size e) (Nat.not_lt.mpr hI)) (k1 b o hb hn e),Nat.le_trans z1 z2,Nat.le_trans w1 w2,g1,O⟩
inductive ItOk (X:Cx) (φ:List Addr):Mini.It->Addr->Nat->Heap->Prop
 | lst {a:Nat}{p I:Addr}{i:Nat}{h:Heap}:φ[a]? = some p->h.IsListIter I p i->ItOk X φ (.lst a) I i h
 | frz {ns:List Int}{a:Addr}{items:List Value}{I:Addr}{i:Nat}{h:Heap}:X.h₀.IsList a items.toArray->IntsOf ns items->h.IsListIter I a i->ItOk X φ (.fix (ns.map V.int)) I i h
 | str {l:List Nat}{ty:String}{t:Tok}{I:Addr}{i:Nat}{h:Heap}:(ty = "str_ascii_iterator" ∨ ty = "str_iterator")->h.IsStrIter I ty ⟨l.toArray⟩ t i->ItOk X φ (.fix (l.map fun c=>V.str [c])) I i h
 | rng {n:Nat}{I:Addr}{i:Nat}{h:Heap}:i<=n->IsRangeIter h I (i:Int) ((n:Int) - (i:Int)) 1->ItOk X φ (.fix ((List.range n).map fun k:Nat=>V.int (k:Int))) I i h
theorem ItOk.obj {X:Cx}{φ it I i h}(W:ItOk X φ it I i h):∃ o vs,h.get? I=some o/\o.data=.fields vs/\∀ φ' h',(∀ (j:Nat) (a:Addr),φ[j]? = some a->φ'[j]? = some a)->h'.get? I=some o->ItOk X φ' it I i h':=by
 cases W with
 | lst hp hi =>
  obtain ⟨o,ho,hc,hd⟩:=hi
  exact ⟨o,_,ho,hd,fun φ' h' hφ ho'=>.lst (hφ _ _ hp) ⟨o,ho',hc,hd⟩⟩
 | frz hl hn hi =>
  obtain ⟨o,ho,hc,hd⟩:=hi
  exact ⟨o,_,ho,hd,fun φ' h' hφ ho'=>.frz hl hn ⟨o,ho',hc,hd⟩⟩
 | str ht hi =>
  obtain ⟨o,ho,hc,hd⟩:=hi
  exact ⟨o,_,ho,hd,fun φ' h' hφ ho'=>.str ht ⟨o,ho',hc,hd⟩⟩
 | rng hle hi=>exact ⟨_,_,hi,rfl,fun φ' h' hφ ho'=>.rng hle ho'⟩
section
variable {X:Cx}{A:Around}{C:Mini.Calls}
theorem it_next (hh:A.handled=none) {φ:List Addr}{H:Mini.Heap}{s:Shared}{it:Mini.It}{I:Addr}{i:Nat}{K:Option Value->Shared->Prop}{EX:Value->Shared->Prop}
  (O:Ok X.h₀ φ H s.heap) (W:ItOk X φ it I i s.heap)
  (hitem:∀ v x s',it.at H i=some v->VRel X.h₀ φ s'.heap v x->But I s s'->ItOk X φ it I (i+1) s'.heap->K (some x) s')
  (hend:∀ s',it.at H i=none->But I s s'->K none s'):wpAny (Mdl X) A (pyNext (.ref I)) K EX s:=by
 have same:∀ {h':Heap}{tk:Nat},Heap.SameBut I s.heap h'->s.toks<=tk->But I s { s with heap:=h',toks:=tk }:=fun hs ht =>
  ⟨⟨_,_,rfl⟩,fun b o hb e=>(hs.2 b hb).trans e,Nat.le_of_eq hs.1.symm,ht⟩
 obtain ⟨o,vs,hoI,hdI,_⟩:=W.obj
 have ext:∀ {h':Heap},Heap.ExtBut I s.heap h'->s.heap.objs.size<=h'.objs.size->But I s { s with heap:=h' }:=fun hs hz =>
  ⟨⟨_,_,rfl⟩,fun b o hb e=>hs b o hb e,hz,Nat.le_refl _⟩
 cases W with
 | @lst a p _ _ _ hp hi =>
  have hlt:a<H.length:=by rw [<- O.len];exact (List.getElem?_eq_some_iff.mp hp).1
  obtain ⟨l,hl⟩:∃ l,H[a]? = some l:=⟨_,List.getElem?_eq_getElem hlt⟩
  obtain ⟨vs',hpl,rs⟩:=O.lists _ _ _ hp hl
  cases hx:l[i]? with
  | some v =>
   obtain ⟨x,hx',rx⟩:=rs.get hx
   refine wpAny_pyNext_list_item hi hpl.isList (by simpa using hx') fun h' hi' hs=>?_
   have B:=same (tk:=s.toks) hs (Nat.le_refl _)
   exact hitem v x _ (by simp [Mini.It.at,hl,hx]) (B.val hoI hdI rx) B (.lst hp hi')
  | none =>
   have hx':vs'[i]? = none:=by
    rw [List.getElem?_eq_none_iff] at hx ⊢
    rw [<- rs.length];exact hx
   exact freeZ (wpAny_pyNext_list_end hh hi hpl.isList (by simpa using hx') fun h' he hz=>hend _ (by simp [Mini.It.at,hl,hx]) (ext he hz))
 | @frz ns a items _ _ _ hl hn hi =>
  have rs:VRels X.h₀ φ s.heap (ns.map V.int) items:=hn.rels
  have hL:s.heap.IsList a items.toArray:=by obtain ⟨o,ho,r⟩:=hl;exact ⟨o,O.base _ _ ho,r⟩
  cases hx:(ns.map V.int)[i]? with
  | some v =>
   obtain ⟨x,hx',rx⟩:=rs.get hx
   refine wpAny_pyNext_list_item hi hL (by simpa using hx') fun h' hi' hs=>?_
   have B:=same (tk:=s.toks) hs (Nat.le_refl _)
   exact hitem v x _ hx (B.val hoI hdI rx) B (.frz hl hn hi')
  | none =>
   have hx':items[i]? = none:=by
    rw [List.getElem?_eq_none_iff] at hx ⊢
    rw [<- rs.length];exact hx
   exact freeZ (wpAny_pyNext_list_end hh hi hL (by simpa using hx') fun h' he hz=>hend _ hx (ext he hz))
 | @str l ty t _ _ _ ht hi =>
  cases hx:l[i]? with
  | some c =>
   have hx':(Str.mk l.toArray).cps[i]? = some c:=by simpa using hx
   have hat:(Mini.It.fix (l.map fun c=>V.str [c])).at H i=some (.str [c]):=by simp [Mini.It.at,hx]
   rcases ht with rfl | rfl
   ·refine wpAny_pyNext_ascii_item hi hx' fun h' hi' hs=>?_
    exact hitem _ _ _ hat (mk_str (by simp [Mini.lim])) (same hs (Nat.le_succ _)) (.str (Or.inl rfl) hi')
   ·refine wpAny_pyNext_wide_item hi hx' fun h' hi' hs=>?_
    exact hitem _ _ _ hat (mk_str (by simp [Mini.lim])) (same hs (Nat.le_succ _)) (.str (Or.inr rfl) hi')
  | none =>
   have hx':(Str.mk l.toArray).cps[i]? = none:=by
    rw [List.getElem?_eq_none_iff] at hx
    simpa using hx
   have hat:(Mini.It.fix (l.map fun c=>V.str [c])).at H i=none:=by simp [Mini.It.at,hx]
   rcases ht with rfl | rfl
   ·exact freeZ (wpAny_pyNext_ascii_end hh hi hx' fun h' he hz=>hend _ hat (ext he hz))
   ·exact freeZ (wpAny_pyNext_wide_end hh hi hx' fun h' he hz=>hend _ hat (ext he hz))
 | @rng n _ _ _ hle hi =>
  by_cases hlt:i<n
  ·have hat:(Mini.It.fix ((List.range n).map fun k:Nat=>V.int (k:Int))).at H i=some (.int (i:Int)):=by simp [Mini.It.at,hlt]
   refine wpAny_pyNext_range_item hi (by lia) fun h' hi' hs=>?_
   refine hitem _ _ _ hat mk_int (same hs (Nat.le_succ _)) (.rng hlt ?_)
   have e1:((i:Int)+1)=((i+1:Nat):Int):=by lia
   have e2:((n:Int) - (i:Int) - 1)=(n:Int) - ((i+1:Nat):Int):=by lia
   rw [e1,e2] at hi'
   exact hi'
  ·have hat:(Mini.It.fix ((List.range n).map fun k:Nat=>V.int (k:Int))).at H i=none:=by simp [Mini.It.at];lia
   exact freeZ (wpAny_pyNext_range_end hh hi (by lia) fun h' he hz=>hend _ hat (ext he hz))
theorem it_make {φ:List Addr}{H:Mini.Heap}{s:Shared}{v:V}{x:Value}{it:Mini.It}{K:Value->Shared->Prop}{EX:Value->Shared->Prop}(O:Ok X.h₀ φ H s.heap) (r:VRel X.h₀ φ s.heap v x) (h:Mini.iterV v=some it)
  (k:∀ o s',s'={ s with heap:=s.heap.push o }->ItOk X φ it s.heap.objs.size 0 s'.heap->Fwd X.h₀ φ s φ H s'->K (.ref s.heap.objs.size) s'):wpAny (Mdl X) A (pyIter x) K EX s:=by
 unfold Mini.iterV at h
 split at h
 ·rename_i a
  cases h
  obtain ⟨p,hp,rfl⟩:=vrel_ref r
  obtain ⟨vs,n,e⟩:=O.mem (List.mem_of_getElem? hp)
  exact wpAny_pyIter_list ⟨_,e,rfl,n,rfl⟩ (k _ _ rfl (.lst hp ⟨_,Heap.get?_push_size _ rfl,rfl,rfl⟩) (Fwd.push (tk:=s.toks) O))
 ·cases h
  obtain ⟨_,a,vs,rfl,hl,hn⟩:=vrel_frz r
  have hL:s.heap.IsList a vs.toArray:=by obtain ⟨o,ho,r⟩:=hl;exact ⟨o,O.base _ _ ho,r⟩
  exact wpAny_pyIter_list hL (k _ _ rfl (.frz hl hn ⟨_,Heap.get?_push_size _ rfl,rfl,rfl⟩) (Fwd.push (tk:=s.toks) O))
 ·rename_i l
  cases h
  obtain ⟨t,rfl⟩:=vrel_str r
  cases ha:(Str.mk l.toArray).cps.all (· < 128) with
  | true=>exact wpAny_pyIter_ascii ha (k _ _ rfl (.str (Or.inl rfl) ⟨_,Heap.get?_push_size _ rfl,rfl,rfl⟩) (Fwd.push (tk:=s.toks) O))
  | false=>exact wpAny_pyIter_wide ha (k _ _ rfl (.str (Or.inr rfl) ⟨_,Heap.get?_push_size _ rfl,rfl,rfl⟩) (Fwd.push (tk:=s.toks) O))
 ·cases h
theorem it_self {φ:List Addr}{s:Shared}{it:Mini.It}{I:Addr}{i:Nat}{K:Value->Shared->Prop}{EX:Value->Shared->Prop}(W:ItOk X φ it I i s.heap) (k:K (.ref I) s):wpAny (Mdl X) A (pyIter (.ref I)) K EX s:=by
 cases W with
 | lst hp hi=>exact wpAny_pyIter_listiter hi k
 | frz hl hn hi=>exact wpAny_pyIter_listiter hi k
 | str ht hi =>
  rcases ht with rfl | rfl
  ·exact wpAny_pyIter_striter_ascii hi k
  ·exact wpAny_pyIter_striter_wide hi k
 | rng hle hi=>exact wpAny_pyIter_rangeiter hi k
theorem it_range {φ:List Addr}{H:Mini.Heap}{s:Shared}{v:V}{x:Value}{it:Mini.It}{K:Value->Shared->Prop}{EX:Value->Shared->Prop}(O:Ok X.h₀ φ H s.heap) (r:VRel X.h₀ φ s.heap v x) (h:Mini.rangeV v=some it)
  (k:∀ I s',s.heap.objs.size<=I->ItOk X φ it I 0 s'.heap->Fwd X.h₀ φ s φ H s'->K (.ref I) s'):wpAny (Mdl X) A (call (.type "range") [x]) (fun y s₁=>wpAny (Mdl X) A (pyIter y) K EX s₁) EX s:=by
 unfold Mini.rangeV at h
 split at h
 ·rename_i n
  split at h
  ·rename_i hn
   cases h
   obtain ⟨t,rfl⟩:=vrel_int r
   refine call_range_1 ?_
   have F1:Fwd X.h₀ φ s φ H { s with heap:=s.heap.push { cls:=.type "range",data:=.fields #[.int 0 s.toks,.int n t,.int 1 (s.toks+1)] },toks:=s.toks+1+1 }:=Fwd.push O
   ·refine wpAny_pyIter_range (IsRange.new ..) (small_one (by lia) (by lia) (by lia) (by lia)) ?_
    have F2:=Fwd.push (ob:={ cls:=.type "range_iterator",data:=.fields #[rawInt 0,rawInt (Builtin.Range.rangeSize 0 n 1),rawInt 1] }) (tk:=s.toks+1+1) F1.ok
    refine k _ _ ?_ (.rng (Nat.zero_le _) ?_) (F1.trans F2)
    ·show s.heap.objs.size<=(s.heap.push _).objs.size
     rw [Heap.size_push];exact Nat.le_succ _
    ·have e:Builtin.Range.rangeSize 0 n 1=((n.toNat:Nat):Int) - ((0:Nat):Int):=by
      rw [rangeSize_one];split<;>lia
     rw [e]
     exact Heap.get?_push_size _ rfl
  ·cases h
 ·cases h
end
end MiniS
namespace MiniS
open PySem PySem.Calls PyProof.Rows
open Mini (V D)
noncomputable def closL (env:Env):List (Str×NameKind)->List (Str×Addr)->List (Str×Addr)
 | [],acc=>acc
 | (n,k)::r,acc=>if k==.free then closL env r ((n,(env.cells.lookup n).getD 0)::acc) else closL env r acc
theorem clos_go (env:Env) (f:Str×NameKind->List (Str×Addr)->Sem (ForInStep (List (Str×Addr)))) (hf:∀ n k cs,f (n,k) cs=if k==.free then (do let a <- cellOf env n;pure (.yield ((n,a)::cs))) else pure (.yield cs)) :
  ∀ (names:List (Str×NameKind)) (acc:List (Str×Addr)),(∀ x∈names,x.2=.free->(env.cells.lookup x.1).isSome=true)->(forIn names acc f:Sem (List (Str×Addr)))=pure (closL env names acc)
 | [],acc,_=>by rw [List.forIn_nil];rfl
 | (n,k)::r,acc,h=>by
  rw [List.forIn_cons,hf]
  unfold closL
  cases hk:k==NameKind.free with
  | false =>
   simp only [Bool.false_eq_true,if_false]
   show (forIn r acc f:Sem _)=_
   exact clos_go env f hf r acc fun x hx=>h x (List.mem_cons_of_mem _ hx)
  | true =>
   simp only [if_true]
   have hs:=h (n,k) (by simp) (by simpa using hk)
   obtain ⟨c,hc⟩:=Option.isSome_iff_exists.mp hs
   have e:cellOf env n=pure c:=by unfold cellOf;simp only at hc;rw [hc]
   rw [e]
   simp only at hc
   rw [hc]
   show (forIn r ((n,c)::acc) f:Sem _)=_
   exact clos_go env f hf r _ fun x hx=>h x (List.mem_cons_of_mem _ hx)
theorem closureFor_eq {scope:Scope}{env:Env}(h:∀ x∈scope.names,x.2=.free->(env.cells.lookup x.1).isSome=true):closureFor scope env=pure (closL env scope.names []):=by
 unfold closureFor
 have:=clos_go env (fun x cs=>match x with | (name,kind)=>if kind==.free then (do let a <- cellOf env name;pure (.yield ((name,a)::cs))) else pure (.yield cs)) (fun n k cs=>rfl) scope.names [] h
 show (do let s <- forIn scope.names [] _;pure s)=_
 rw [this]
 rfl
theorem closL_sub (env:Env):∀ (names:List (Str×NameKind)) (acc:List (Str×Addr)),(∀ x∈names,x.2=.free->(env.cells.lookup x.1).isSome=true)->(∀ x c,acc.lookup x=some c->env.cells.lookup x=some c) ->
  ∀ x c,(closL env names acc).lookup x=some c->env.cells.lookup x=some c
 | [],_,_,ha,x,c,h=>ha x c h
 | (n,k)::r,acc,hn,ha,x,c,h=>by
  unfold closL at h
  split at h
  ·rename_i hk
   refine closL_sub env r _ (fun y hy=>hn y (List.mem_cons_of_mem _ hy)) (fun y d hd=>?_) x c h
   rw [List.lookup_cons] at hd
   split at hd
   ·rename_i e
    have e:y=n:=by simpa using e
    subst e
    cases hd
    obtain ⟨c',hc'⟩:=Option.isSome_iff_exists.mp (hn (y,k) (by simp) (by simpa using hk))
    simp only at hc'
    rw [hc'];rfl
   ·exact ha y d hd
  ·exact closL_sub env r acc (fun y hy=>hn y (List.mem_cons_of_mem _ hy)) ha x c h
theorem closL_has (env:Env):∀ (names:List (Str×NameKind)) (acc:List (Str×Addr)) (x:Str),((x,NameKind.free)∈names∨(acc.lookup x).isSome=true)->((closL env names acc).lookup x).isSome=true
 | [],_,_,h=>by
  rcases h with h | h
  ·cases h
  ·exact h
 | (n,k)::r,acc,x,h=>by
  unfold closL
  split
  ·rename_i hk
   refine closL_has env r _ x ?_
   rcases h with h | h
   ·rcases List.mem_cons.mp h with h | h
    ·cases h;right;simp
    ·exact Or.inl h
   ·right
    rw [List.lookup_cons]
    split
    ·rfl
    ·exact h
  ·rename_i hk
   refine closL_has env r _ x ?_
   rcases h with h | h
   ·rcases List.mem_cons.mp h with h | h
    ·cases h;simp at hk
    ·exact Or.inl h
   ·exact Or.inr h
theorem relab_names {scope:Scope}{env:Env}(hk:env.scope.kind=.function):(relabel scope env).names=Mini.relab env.scope.names scope.names:=by
 unfold relabel Mini.relab
 simp only [hk]
 apply List.map_congr_left
 intro x _
 obtain ⟨n,k⟩:=x
 simp [Env.kindOf]
theorem relab_lookup {sc:List (Str×NameKind)}:∀ {names:List (Str×NameKind)}{z:Str}{k:NameKind},(Mini.relab sc names).lookup z=some k->∃ k',names.lookup z=some k'/\(k=k'∨(k'=.free/\k=.cell))
 | [],_,_,h=>by simp [Mini.relab] at h
 | (n,k0)::r,z,k,h=>by
  unfold Mini.relab at h
  simp only [List.map_cons] at h
  by_cases hz:z=n
  ·subst hz
   by_cases hc:(k0==NameKind.free&&sc.lookup z==some NameKind.cell)=true
   ·rw [if_pos hc] at h
    simp at h
    refine ⟨k0,by simp,Or.inr ⟨?_,h.symm⟩⟩
    simp at hc;exact hc.1
   ·rw [if_neg hc] at h
    simp at h
    exact ⟨k0,by simp,Or.inl h.symm⟩
  ·have hb:(z==n)=false:=by simpa using hz
   have:(Mini.relab sc r).lookup z=some k:=by
    unfold Mini.relab
    by_cases hc:(k0==NameKind.free&&sc.lookup n==some NameKind.cell)=true
    ·rw [if_pos hc] at h
     simpa [List.lookup_cons,hb] using h
    ·rw [if_neg hc] at h
     simpa [List.lookup_cons,hb] using h
   obtain ⟨k',e,q⟩:=relab_lookup this
   exact ⟨k',by simp [List.lookup_cons,hb,e],q⟩
section
variable {X:Cx}{A:Around}{C:Mini.Calls}
structure CompOk (env:Env) (nm:List Str) (id:Str) (scope:Scope):Prop where
 kind:scope.kind=.function
 loc:scope.names.lookup id=some .local
 nocell:∀ x∈scope.names,x.2≠.cell
 locs:∀ x∈scope.names,x.2=.local->scope.names.lookup x.1=some .local/\(x.1=id∨x.1 ∉ nm)
 frees:∀ x∈scope.names,x.2=.free->x.1∈nm/\(env.kindOf x.1=some .cell∨env.kindOf x.1=some .free)
theorem compOk_of {env:Env}{nm:List Str}{id:Str}{scope:Scope}(h:Mini.compScope env.scope.names nm id scope=true):CompOk env nm id scope:=by
 unfold Mini.compScope at h
 simp only [Bool.and_eq_true,List.all_eq_true,beq_iff_eq,bne_iff_ne,Bool.or_eq_true] at h
 obtain ⟨⟨⟨h1,h2⟩,h3⟩,h4⟩:=h
 refine ⟨h1,h2,fun x hx=>(h3 x hx).1,fun x hx hl=>?_,fun x hx hf=>?_⟩
 ·rcases (h3 x hx).2 with q | q
  ·exact absurd hl q
  ·refine ⟨q.1,q.2.imp _root_.id fun q=>by simpa using q⟩
 ·rcases h4 x hx with q | q
  ·exact absurd hf q
  ·exact ⟨by simpa using q.1,q.2⟩
end
end MiniS
namespace MiniS
open PySem PySem.Calls PyProof.Rows
open Mini (V D)
theorem But.ok' {h₀ φ H a s s'}{o:Obj}(B:But a s s') (K:Ok h₀ φ H s.heap) (hna:a ∉ φ) (ho:s.heap.get? a=some o) (ht:¬ TupObj o) (hab:h₀.objs.size<=a):Ok h₀ φ H s'.heap:=by
 have tups:∀ b o,TupObj o->s.heap.get? b=some o->s'.heap.get? b=some o:=fun b o' h e=>B.keep b o' (by
  rintro rfl
  rw [e] at ho;cases ho;exact ht h) e
 refine ⟨fun b o e=>B.keep b o (fun q=>?_) (K.base b o e),K.len,K.nodup,K.above,K.small,Nat.le_trans K.room B.size,fun i b l hi hl=>?_⟩
 ·subst q;exact absurd (Heap.lt_size e) (Nat.not_lt.mpr hab)
 ·obtain ⟨vs',⟨n,e⟩,r⟩:=K.lists i b l hi hl
  have hb:b≠a:=fun q=>hna (q▸List.mem_of_getElem? hi)
  exact ⟨vs',⟨n,B.keep b _ hb e⟩,VRels.mono (fun _ _ q=>q) tups l r⟩
theorem But.val' {h₀ φ a s s'}{o:Obj}(B:But a s s') (ho:s.heap.get? a=some o) (ht:¬ TupObj o) {v:V}{x:Value}(r:VRel h₀ φ s.heap v x):VRel h₀ φ s'.heap v x :=
 VRel.mono (fun _ _ q=>q) (fun b o' h e=>B.keep b o' (by
  rintro rfl
  rw [e] at ho;cases ho;exact ht h) e) v r
theorem But.vals' {h₀ φ a s s'}{o:Obj}(B:But a s s') (ho:s.heap.get? a=some o) (ht:¬ TupObj o) {v:List V}{x:List Value}(r:VRels h₀ φ s.heap v x):VRels h₀ φ s'.heap v x :=
 VRels.mono (fun _ _ q=>q) (fun b o' h e=>B.keep b o' (by
  rintro rfl
  rw [e] at ho;cases ho;exact ht h) e) v r
theorem But.env' {X:Cx}{φ nm env ρ a s s'}{o:Obj}(B:But a s s') (L:EnvOk X φ nm env ρ s) (ho:s.heap.get? a=some o) (ht:¬ TupObj o) (hd1:∀ es ep,o.data≠.dict es ep) (hd2:∀ ov,o.data≠.cell ov):EnvOk X φ nm env ρ s':=by
 have hr:∀ v x,VRel X.h₀ φ s.heap v x->VRel X.h₀ φ s'.heap v x:=fun v x r=>B.val' ho ht r
 have hcell:∀ c ov,s.heap.IsCell c ov->s'.heap.IsCell c ov:=fun c ov hc=>by
  obtain ⟨oc,hoc,hdc⟩:=hc
  refine ⟨oc,B.keep c oc (fun q=>?_) hoc,hdc⟩
  subst q
  rw [ho] at hoc;cases hoc;exact hd2 _ hdc
 refine ⟨L.kind,L.glob,L.blt,L.len,L.nodup,fun hp=>Nat.lt_of_lt_of_le (L.pos hp) B.toks,?_,?_,L.above,L.aboveC,fun x c hc=>?_,L.apart⟩
 ·obtain ⟨m,⟨ol,es,ep,hol,hdl,q⟩,hm⟩:=L.locals
  have hn:env.locals≠a:=fun e=>by
   rw [e,ho] at hol;cases hol;exact hd1 _ _ hdl
  exact ⟨m,⟨ol,es,ep,B.keep _ _ hn hol,hdl,q⟩,fun i x hx hk=>⟨(hm i x hx hk).1.mono hr,(hm i x hx hk).2.mono B.toks⟩⟩
 ·intro i x hx hk
  obtain ⟨c,ov,hc,hcl,r,lr⟩:=L.cells i x hx hk
  exact ⟨c,ov,hc,hcell c ov hcl,r.mono hr,lr.mono B.toks⟩
 ·obtain ⟨ov,hcl⟩:=L.cellAll x c hc
  exact ⟨ov,hcell c ov hcl⟩
theorem Fwd.but {h₀ φ₀ s₀ φ H a s s'}(F:Fwd h₀ φ₀ s₀ φ H s) (B:But a s s') (ha:s₀.heap.objs.size<=a) (O:Ok h₀ φ H s'.heap):Fwd h₀ φ₀ s₀ φ H s':=by
 obtain ⟨⟨⟨h1,t1,e1⟩,k1,z1,w1⟩,g1,_⟩:=F
 obtain ⟨⟨h2,t2,e2⟩,k2,z2,w2⟩:=B
 exact ⟨⟨⟨h2,t2,by rw [e2,e1]⟩,fun b o hb e=>k2 b o (fun q=>by
  subst q;exact absurd (Heap.lt_size e) (Nat.not_lt.mpr ha)) (k1 b o hb e),Nat.le_trans z1 z2,Nat.le_trans w1 w2⟩,g1,O⟩
theorem But.of_same {a:Addr}{s:Shared}{h':Heap}{tk:Nat}(hs:Heap.SameBut a s.heap h') (ht:s.toks<=tk:=by first | exact Nat.le_refl _ | exact Nat.le_succ _):But a s { s with heap:=h',toks:=tk } :=
 ⟨⟨_,_,rfl⟩,fun b o hb e=>(hs.2 b hb).trans e,Nat.le_of_eq hs.1.symm,ht⟩
theorem not_tup_dict {o:Obj}{es:Array DictEntry}{ep}(h:o.data=.dict es ep):¬ TupObj o:=by
 rintro ⟨_,vs,n,e⟩;rw [h] at e;cases e
theorem not_tup_fields {o:Obj}{vs:Array Value}(h:o.data=.fields vs):¬ TupObj o:=by
 rintro ⟨_,vs,n,e⟩;rw [h] at e;cases e
theorem not_tup_list {o:Obj}(h:o.cls=.type "list"):¬ TupObj o:=by
 rintro ⟨e,_⟩;rw [h] at e;simp at e
theorem Ok.add {h₀ φ H h}{a:Addr}{l:List V}{vs:List Value}(K:Ok h₀ φ H h) (hna:a ∉ φ) (hab:h₀.objs.size<=a) (hp:h.PlainList a vs.toArray) (r:VRels h₀ φ h l vs) (hl:l.length<=Mini.lim):Ok h₀ (φ++[a]) (H++[l]) h:=by
 have hi:∀ (i:Nat) (b:Addr),φ[i]? = some b->(φ++[a])[i]? = some b:=fun i b e=>by
  rw [List.getElem?_append_left (List.getElem?_eq_some_iff.mp e).1];exact e
 refine ⟨K.base,by simp [K.len],?_,?_,?_,K.room,?_⟩
 ·rw [List.nodup_append]
  refine ⟨K.nodup,by simp,fun b hb c hc=>?_⟩
  simp at hc;subst hc
  rintro rfl;exact hna hb
 ·intro b hb
  rcases List.mem_append.mp hb with q | q
  ·exact K.above b q
  ·simp at q;subst q;exact hab
 ·intro l' hl'
  rcases List.mem_append.mp hl' with q | q
  ·exact K.small l' q
  ·simp at q;subst q;exact hl
 ·intro i b l' e el
  by_cases hlt:i<φ.length
  ·rw [List.getElem?_append_left hlt] at e
   rw [List.getElem?_append_left (by rw [<- K.len];exact hlt)] at el
   obtain ⟨vs',p,r'⟩:=K.lists i b l' e el
   exact ⟨vs',p,VRels.mono hi (fun a o _ q=>q) l' r'⟩
  ·have hle:φ.length<=i:=Nat.le_of_not_lt hlt
   rw [List.getElem?_append_right hle] at e
   rw [List.getElem?_append_right (by rw [<- K.len];exact hle)] at el
   have:i - φ.length=0:=by
    cases h:i - φ.length with
    | zero=>rfl
    | succ k=>rw [h] at e;simp at e
   rw [this] at e
   rw [<- K.len,this] at el
   simp at e el
   subst e;subst el
   exact ⟨vs,hp,VRels.mono hi (fun a o _ q=>q) _ r⟩
theorem Fwd.add {h₀ φ₀ s₀ φ H s}{a:Addr}{l:List V}{vs:List Value}(F:Fwd h₀ φ₀ s₀ φ H s) (hna:a ∉ φ) (ha:s₀.heap.objs.size<=a) (hab:h₀.objs.size<=a) (hp:s.heap.PlainList a vs.toArray) (r:VRels h₀ φ s.heap l vs) (hl:l.length<=Mini.lim) :
  Fwd h₀ φ₀ s₀ (φ++[a]) (H++[l]) s:=by
 obtain ⟨st,⟨ψ,g,m⟩,O⟩:=F
 refine ⟨st,⟨ψ++[a],by rw [g,List.append_assoc],fun b hb=>?_⟩,O.add hna hab hp r hl⟩
 rcases List.mem_append.mp hb with q | q
 ·exact m b q
 ·simp at q;subst q;exact ha
section
variable {X:Cx}{A:Around}{C:Mini.Calls}
theorem store_local {env:Env}{nm:List Str}{ρ:Mini.Env}{φ:List Addr}{s:Shared}{K:Unit->Shared->Prop}{EX:Value->Shared->Prop}{id:Str}{x:Nat}{v:V}{y:Value}
  (L:EnvOk X φ nm env ρ s) (hx:nm[x]? = some id) (e:env.kindOf id=some .local) (hxlit:x ∉ X.gl.lits)
  (r:VRel X.h₀ φ s.heap v y) (k:∀ s',But env.locals s s'->EnvOk X φ nm env (ρ.set x (some v)) s'->K () s'):wpAny (Mdl X) A (storeName env id y) K EX s:=by
 have hxl:x<ρ.length:=by rw [L.len];exact (List.getElem?_eq_some_iff.mp hx).1
 have hone:∀ (i:Nat) (z:Str),nm[i]? = some z->z=id->i=x:=fun i z hz e=>by
  subst e
  exact (List.getElem?_inj (List.getElem?_eq_some_iff.mp hz).1 L.nodup).mp (hz.trans hx.symm)
 have hother:∀ (i:Nat) (z:Str),nm[i]? = some z->z≠id->i≠x:=fun i z hz e q=>by
  subst q
  rw [hx] at hz;cases hz;exact e rfl
 obtain ⟨m,hns,hm⟩:=L.locals
 obtain ⟨o,es,ep,ho,hd,_⟩:=_root_.id hns
 refine wpAny_storeName_local e hns (fun h' hn hs=>?_) (by rw [L.kind];rfl)
 have B:But env.locals s { s with heap:=h',toks:=s.toks+1 }:=But.of_same hs
 have hr:∀ v x,VRel X.h₀ φ s.heap v x->VRel X.h₀ φ h' v x:=fun v x q=>B.val' ho (not_tup_dict hd) q
 refine k _ B ?_
 refine ⟨L.kind,L.glob,L.blt,by simp [L.len],L.nodup,fun hp=>Nat.lt_of_lt_of_le (L.pos hp) (Nat.le_succ _),⟨_,hn,fun i z hz hk=>?_⟩,fun i z hz hk=>?_,L.above,L.aboveC,fun z c hc=>?_,L.apart⟩
 ·by_cases hzi:z=id
  ·have:=hone i z hz hzi
   subst this
   rw [get_set_self hxl,if_pos hzi]
   exact ⟨⟨y,rfl,hr _ _ r⟩,fun hi=>absurd hi hxlit⟩
  ·rw [get_set_ne (Ne.symm (hother i z hz hzi)),if_neg hzi]
   exact ⟨(hm i z hz hk).1.mono hr,(hm i z hz hk).2.mono (Nat.le_succ _)⟩
 ·obtain ⟨c,ov,hc,⟨oc,hoc,hdc⟩,q,lr⟩:=L.cells i z hz hk
  have hzi:z≠id:=by
   rintro rfl
   rw [e] at hk
   rcases hk with hk | hk<;>cases hk
  have hcl:c≠env.locals:=by
   rintro rfl
   rw [ho] at hoc;cases hoc;rw [hd] at hdc;cases hdc
  rw [get_set_ne (Ne.symm (hother i z hz hzi))]
  exact ⟨c,ov,hc,⟨oc,(hs.2 c hcl).trans hoc,hdc⟩,q.mono hr,lr.mono (Nat.le_succ _)⟩
 ·obtain ⟨ov,oc,hoc,hdc⟩:=L.cellAll z c hc
  have hcl:c≠env.locals:=by
   rintro rfl
   rw [ho] at hoc;cases hoc;rw [hd] at hdc;cases hdc
  exact ⟨ov,oc,(hs.2 c hcl).trans hoc,hdc⟩
theorem env_comp {env:Env}{nm:List Str}{ρ:Mini.Env}{φ:List Addr}{s:Shared}{id:Str}{x:Nat}{scope:Scope}{Ca:Addr}(L:EnvOk X φ nm env ρ s) (W:CompOk env nm id scope) (hx:nm[x]? = some id)
  (hn:s.heap.Ns Ca fun _=>none) (hab:X.h₀.objs.size<=Ca) :
  EnvOk X φ nm (compEnvC scope (closL env scope.names []) Ca env) (ρ.set x none) s:=by
 have hclos:∀ y∈scope.names,y.2=.free->(env.cells.lookup y.1).isSome=true:=fun y hy hf=>by
  obtain ⟨hm,hk⟩:=W.frees y hy hf
  obtain ⟨i,hi⟩:=List.getElem?_of_mem hm
  obtain ⟨c,ov,hc,_⟩:=L.cells i _ hi hk
  rw [hc];rfl
 have hsub:=closL_sub env scope.names [] hclos (fun x c h=>by simp at h)
 have hlook:∀ z k,(compEnvC scope (closL env scope.names []) Ca env).kindOf z=some k->∃ k',scope.names.lookup z=some k'/\(k=k'∨(k'=.free/\k=.cell)):=fun z k h=>by
  have h:(relabel scope env).names.lookup z=some k:=h
  rw [relab_names L.kind] at h
  exact relab_lookup h
 refine ⟨W.kind,L.glob,L.blt,by simp [L.len],L.nodup,L.pos,⟨_,hn,fun i z hz hk=>?_⟩,fun i z hz hk=>?_,hab,fun z c hc=>L.aboveC z c (hsub z c hc),fun z c hc=>L.cellAll z c (hsub z c hc),fun y z c hy hz=>L.apart y z c (hsub y c hy) (hsub z c hz)⟩
 ·obtain ⟨k',hk',e⟩:=hlook z _ hk
  rcases e with rfl | ⟨_,e⟩
  ·obtain ⟨_,e | e⟩:=W.locs (z,.local) (mem_of_lookup hk') rfl
   ·have:i=x:=by
     simp only at e;subst e
     exact (List.getElem?_inj (List.getElem?_eq_some_iff.mp hz).1 L.nodup).mp (hz.trans hx.symm)
    subst this
    refine ⟨?_,fun _ y hy=>by cases hy⟩
    rw [List.getElem?_set_self (by rw [L.len];exact (List.getElem?_eq_some_iff.mp hz).1)]
    trivial
   ·exact absurd (List.mem_of_getElem? hz) e
  ·cases e
 ·have hf:scope.names.lookup z=some .free:=by
   rcases hk with hk | hk
   ·obtain ⟨k',hk',e⟩:=hlook z _ hk
    rcases e with rfl | ⟨rfl,_⟩
    ·exact absurd rfl (W.nocell _ (mem_of_lookup hk'))
    ·exact hk'
   ·obtain ⟨k',hk',e⟩:=hlook z _ hk
    rcases e with rfl | ⟨rfl,_⟩
    ·exact hk'
    ·exact hk'
  obtain ⟨hm,hk2⟩:=W.frees (z,.free) (mem_of_lookup hf) rfl
  obtain ⟨c,ov,hc,hcl,r,lr⟩:=L.cells i z hz hk2
  obtain ⟨c',hc'⟩:=Option.isSome_iff_exists.mp (closL_has env scope.names [] z (Or.inl (mem_of_lookup hf)))
  have e:=hsub z c' hc'
  rw [hc] at e;cases e
  have hix:i≠x:=by
   rintro rfl
   rw [hx] at hz;cases hz
   rw [W.loc] at hf;cases hf
  refine ⟨c,ov,hc',hcl,?_,lr⟩
  rw [List.getElem?_set_ne (Ne.symm hix)];exact r
theorem tests_false {env:Env}:∀ (ifs:List Expr),(forIn ifs false fun c r=>if r=true then do let ok <- isTrue c env (eval c env);pure (ForInStep.yield ok) else pure (ForInStep.yield r):Sem Bool)=pure false
 | []=>rfl
 | c::ifs=>by
  rw [List.forIn_cons]
  simp only [Bool.false_eq_true,if_false]
  show (forIn ifs false _:Sem Bool)=_
  have:=tests_false (env:=env) ifs
  simpa using this
theorem snd_tests:∀ (ifs:List Mini.E) (ifs':List Expr) (env:Env) (nm:List Str) (ρ:Mini.Env) (Q:Bool->Mini.Heap->Prop) (H:Mini.Heap) (φ:List Addr) (s:Shared) (K:Bool->Shared->Prop) (EX:Value->Shared->Prop),
  (∀ e∈ifs,SndC X A C e)->Mini.chkEs X.gl env.scope.names nm ifs ifs'=true->EnvOk X φ nm env ρ s->Ok X.h₀ φ H s.heap->Mini.wpTest C ifs ρ Q H ->
  (∀ b H' φ' s',Q b H'->Fwd X.h₀ φ s φ' H' s'->K b s') ->
  wpAny (Mdl X) A (forIn ifs' true fun c r=>if r=true then do let ok <- isTrue c env (eval c env);pure (ForInStep.yield ok) else pure (ForInStep.yield r)) K EX s
 | [],ifs',env,nm,ρ,Q,H,φ,s,K,EX,_,hc,L,O,h,k=>by
  cases ifs' with
  | cons _ _=>nomatch hc
  | nil =>
   exact wpAny_tests_nil (k _ _ _ _ h (Fwd.refl O))
 | e::es,ifs',env,nm,ρ,Q,H,φ,s,K,EX,hs,hc,L,O,h,k=>by
  cases ifs' with
  | nil=>nomatch hc
  | cons re res =>
   replace hc:=Mini.and_ok hc
   rw [List.forIn_cons]
   simp only [if_true]
   refine wpAny_bind (wpAny_bind (hs e (by simp) re env nm ρ _ H φ s _ EX hc.1 L O h fun b H1 φ1 s1 q F1=>wpAny_pure ?_))
   cases b with
   | false =>
    show wpAny (Mdl X) A (forIn res false _) K EX s1
    exact wpAny_of_eq (tests_false (env:=env) res) (k _ _ _ _ q F1)
   | true =>
    exact snd_tests es res env nm ρ Q H1 φ1 s1 K EX (fun e' he'=>hs e' (List.mem_cons_of_mem _ he')) hc.2 (L.fwd O F1) F1.ok q fun b H2 φ2 s2 q2 F2=>k _ _ _ _ q2 (F1.trans F2)
structure CompEnd (X:Cx) (Q:List V->Mini.Heap->Prop) (φ₀:List Addr) (s₀:Shared) (Da Ca:Addr) (s':Shared):Prop where
 ex:∃ acc H' φ' vs m,Q acc H'/\Fwd X.h₀ φ₀ s₀ φ' H' s'/\Da ∉ φ'/\s'.heap.PlainList Da vs.toArray/\VRels X.h₀ φ' s'.heap acc vs/\acc.length<=Mini.lim/\s'.heap.Ns Ca m
 D:s₀.heap.objs.size<=Da
 C:s₀.heap.objs.size<=Ca
 ne:Da≠Ca
theorem comp_core (hh:A.handled=none) {elt:Mini.E}{ifs:List Mini.E}(he:SndE X A C elt) (ht:∀ e∈ifs,SndC X A C e)
  {env:Env}{nm:List Str}{ρ:Mini.Env}{φ:List Addr}{H:Mini.Heap}{s₀ s:Shared}{I:Addr}{it:Mini.It}{x n:Nat}{id:Str}{scope:Scope}{elt' iter:Expr}{ifs':List Expr}{pos px:Pos}
  {Q:List V->Mini.Heap->Prop}{R:Value->Addr->Result->Shared->Prop}{EX:Value->Shared->Prop}
  (L:EnvOk X φ nm env ρ s) (F0:Fwd X.h₀ φ s₀ φ H s) (hroom:X.h₀.objs.size<=s₀.heap.objs.size) (W:ItOk X φ it I 0 s.heap) (hI:s₀.heap.objs.size<=I) (hx:nm[x]? = some id) (hlit:X.gl.lits.contains x=false)
  (hsc:Mini.compScope env.scope.names nm id scope=true) (h1:Mini.chkE X.gl (Mini.relab env.scope.names scope.names) nm elt elt'=true) (h2:Mini.chkEs X.gl (Mini.relab env.scope.names scope.names) nm ifs ifs'=true)
  (hwp:Mini.compN (Mini.wpTest C ifs) (Mini.wpE C elt) x ρ it n 0 [] Q H) (k:∀ Da Ca s',CompEnd X Q φ s₀ Da Ca s'->R (.ref Da) Ca (.ok .next) s') :
  wpAny (Mdl X) A (newList []) (fun acc s₃ =>
   wpAny (Mdl X) A (newFunctionEnv scope env.globals (closL env scope.names []) [] env.qual none .none (some env)) (fun cenv s₄ =>
    codeAny (Mdl X) A (.compStart (.ListComp elt' [⟨.Name id px,iter,ifs',0⟩] scope pos) 0 (.ref I) acc { cenv with scope:=relabel scope env }) (R acc cenv.locals) s₄) EX s₃) EX s:=by
 have CW:=compOk_of hsc
 have hkd:(compEnvC scope (closL env scope.names []) default env).scope.kind=.function:=CW.kind
 refine wpAny_newObj_type (hd:=sizeOk_of (by simp)) (wpAny_newFunctionEnv CW.nocell (by intro y hy;simp at hy) (fun h₁ hns hsb=>?_) CW.kind)
 dsimp only at hns hsb ⊢
 generalize hH2:s.heap.push { cls:=.type "list",dict:=none,data:=.seq ([]:List Value).toArray }=H2 at hns hsb ⊢
 have hC:H2.objs.size=s.heap.objs.size+1:=by rw [<- hH2,Heap.size_push]
 generalize hDa:s.heap.objs.size=Da at hC ⊢
 generalize hCa:H2.objs.size=Ca at hC hns hsb ⊢
 have hz0:=F0.step.size
 have hIlt:@LT.lt Nat _ I Da:=by
  obtain ⟨o,vs,ho,_⟩:=W.obj
  rw [<- hDa];exact Heap.lt_size ho
 have hC:@Eq Nat Ca (Da+1):=hC
 have hDa:@Eq Nat s.heap.objs.size Da:=hDa
 have old:∀ b o,s.heap.get? b=some o->h₁.get? b=some o:=fun b o e=>by
  have:=Heap.lt_size e
  have hne:b≠Ca:=by
   have:@LT.lt Nat _ b s.heap.objs.size:=this
   exact Nat.ne_of_lt (by lia)
  exact hsb.extBut b o hne (Heap.get?_push_of_some _ (hH2▸Heap.get?_push_of_some _ e))
 have hDCne:Da≠Ca:=Nat.ne_of_lt (by lia)
 have hDIne:Da≠I:=Nat.ne_of_gt hIlt
 have hICne:I≠Ca:=Nat.ne_of_lt (by lia)
 have zC0:X.h₀.objs.size<=Ca:=by lia
 have zC:s₀.heap.objs.size<=Ca:=by lia
 have zD:s₀.heap.objs.size<=Da:=by lia
 have zD0:X.h₀.objs.size<=Da:=by lia
 have zI0:X.h₀.objs.size<=I:=by lia
 have hDobj:h₁.PlainList Da ([]:List Value).toArray:=⟨0,hsb.extBut _ _ hDCne (Heap.get?_push_of_some _ (hH2▸hDa▸Heap.get?_push_size _ rfl))⟩
 have hz1:@LT.lt Nat _ Ca h₁.objs.size:=hns.lt
 have F1:Fwd X.h₀ φ s φ H { s with heap:=h₁,toks:=s.toks+([]:List (Str×Value)).length }:=Fwd.ext F0.ok old (by lia) (Nat.le_refl _)
 have L1:=env_comp (Ca:=Ca) (L.fwd F0.ok F1) CW hx (by simpa using hns) zC0
 have hna:∀ a,s.heap.objs.size<=a->a ∉ φ:=fun a ha hm=>absurd (F0.ok.lt hm) (Nat.not_lt.mpr ha)
 obtain ⟨oI,vI,hoI,hdI,hItk⟩:=W.obj
 let J:Nat->Shared->Prop:=fun k st=>∃ i acc H' φ' ov vs,Mini.compN (Mini.wpTest C ifs) (Mini.wpE C elt) x ρ it k i acc Q H'/\Fwd X.h₀ φ s₀ φ' H' st /\
  EnvOk X φ' nm (compEnvC scope (closL env scope.names []) Ca env) (ρ.set x ov) st/\ItOk X φ' it I i st.heap/\Da ∉ φ'/\st.heap.PlainList Da vs.toArray/\VRels X.h₀ φ' st.heap acc vs/\acc.length<=Mini.lim
 have hJ:J n { s with heap:=h₁,toks:=s.toks+([]:List (Str×Value)).length } :=
  ⟨0,[],H,φ,none,[],hwp,F0.trans F1,L1,hItk φ h₁ (fun _ _ q=>q) (old _ _ hoI),hna _ (by lia),hDobj,VRels.nil,by simp⟩
 have names:(compEnvC scope (closL env scope.names []) Ca env).scope.names=Mini.relab env.scope.names scope.names:=relab_names L.kind
 have kid:(compEnvC scope (closL env scope.names []) Ca env).kindOf id=some .local:=lookup_relabel_local CW.loc
 have loop:∀ st,J n st->codeAny (Mdl X) A (.compLoop (.ListComp elt' [⟨.Name id px,iter,ifs',0⟩] scope pos) 0 (.ref I) (.ref Da) (compEnvC scope (closL env scope.names []) Ca env)) (R (.ref Da) Ca) st:=by
  intro st hst
  refine codeAny_compLoop_tests J (fun k0 st hst=>?_) n hst
  obtain ⟨i,acc,H',φ',ov,vs,hw,F,LE,WI,hD,hDp,rs,hlen⟩:=hst
  cases k0 with
  | zero=>exact False.elim hw
  | succ k0 =>
   replace hw:(match it.at H' i with | none=>_ | some v=>_):=hw
   obtain ⟨oJ,vJ,hoJ,hdJ,hJk⟩:=WI.obj
   refine it_next hh F.ok WI (fun v y s' hat ry B WI'=>?_) (fun s' hat B=>?_)
   ·rw [hat] at hw
    simp only at hw
    have hDI:Da≠I:=hDIne
    have O1:=B.ok F.ok hoJ hdJ zI0
    have F2:=F.but B hI O1
    have LE2:=B.env LE hoJ hdJ
    have hDp2:s'.heap.PlainList Da vs.toArray:=by obtain ⟨m,e⟩:=hDp;exact ⟨m,B.keep _ _ hDI e⟩
    have rs2:=B.vals' hoJ (not_tup_fields hdJ) rs
    refine wpAny_assign_Name (store_local LE2 hx kid (by simpa using hlit) ry fun s2 B2 LE3=>?_)
    rw [List.set_set] at LE3
    obtain ⟨m2,⟨o2,es2,ep2,ho2,hd2,_⟩,_⟩:=LE2.locals
    have hCD:Da≠Ca:=hDCne
    have hIC:I≠Ca:=hICne
    have hCφ:Ca ∉ φ':=fun hm=>by
     obtain ⟨vs',n',e'⟩:=O1.mem hm
     have ho2:s'.heap.get? Ca=some o2:=ho2
     rw [e'] at ho2;cases ho2;cases hd2
    have O2:=B2.ok' O1 hCφ ho2 (not_tup_dict hd2) zC0
    have F3:=F2.but B2 zC O2
    have hDp3:s2.heap.PlainList Da vs.toArray:=by obtain ⟨m,e⟩:=hDp2;exact ⟨m,B2.keep _ _ hCD e⟩
    have rs3:=B2.vals' ho2 (not_tup_dict hd2) rs2
    obtain ⟨oK,vK,hoK,hdK,hKk⟩:=WI'.obj
    have WI2:=hKk φ' s2.heap (fun _ _ q=>q) (B2.keep _ _ hIC hoK)
    refine snd_tests ifs ifs' _ nm _ _ H' φ' s2 _ _ ht (by rw [names];exact h2) LE3 O2 hw fun b H3 φ3 s3 q3 F4=>?_
    have hDφ:∀ {φa sa φb Hb sb},Da ∉ φa->(∃ m:Nat,sa.heap.get? Da=some { cls:=.type "list",data:=.seq vs.toArray m })->Fwd X.h₀ φa sa φb Hb sb->Da ∉ φb:=fun h0 hm Fx hmem=>by
     obtain ⟨ψ,e,hψ⟩:=Fx.grow
     rw [e] at hmem
     rcases List.mem_append.mp hmem with q | q
     ·exact h0 q
     ·obtain ⟨m,em⟩:=hm
      exact absurd (Heap.lt_size em) (Nat.not_lt.mpr (hψ _ q))
    have LE4:=LE3.fwd O2 F4
    have hD4:Da ∉ φ3:=hDφ hD hDp3 F4
    have hDp4:s3.heap.PlainList Da vs.toArray:=by obtain ⟨m,e⟩:=hDp3;exact ⟨m,F4.step.keep _ _ hD e⟩
    have rs4:=F4.vals O2 rs3
    obtain ⟨oM,vM,hoM,hdM,hMk⟩:=WI2.obj
    have keepI:∀ {φa Ha sa φb Hb sb},Ok X.h₀ φa Ha sa.heap->ItOk X φa it I (i+1) sa.heap->Fwd X.h₀ φa sa φb Hb sb->ItOk X φb it I (i+1) sb.heap:=fun Oa Wa Fx=>by
     obtain ⟨oN,vN,hoN,hdN,hNk⟩:=Wa.obj
     refine hNk _ _ Fx.idx (Fx.step.keep _ _ (fun hm=>?_) hoN)
     obtain ⟨vs',n',e'⟩:=Oa.mem hm
     rw [e'] at hoN;cases hoN;simp at hdN
    have WI4:=keepI O2 WI2 F4
    have F5:=F3.trans F4
    cases b with
    | false =>
     simp only at q3
     simp only [Bool.false_eq_true,if_false]
     exact ⟨k0,Nat.lt_succ_self _,i+1,acc,H3,φ3,_,vs,q3,F5,LE4,WI4,hD4,hDp4,rs4,hlen⟩
    | true =>
     simp only at q3
     simp only [if_true]
     refine he elt' _ nm _ _ H3 φ3 s3 _ _ (by rw [names];exact h1) LE4 F4.ok q3 fun w H6 φ6 y6 s6 q6 F6 r6=>?_
     obtain ⟨hlt,q6⟩:=q6
     have hD6:Da ∉ φ6:=hDφ hD4 hDp4 F6
     obtain ⟨m6,hDp6⟩:s6.heap.PlainList Da vs.toArray:=by obtain ⟨m,e⟩:=hDp4;exact ⟨m,F6.step.keep _ _ hD4 e⟩
     have rs6:=F6.vals F4.ok rs4
     have WI6:=keepI F4.ok WI4 F6
     have LE6:=LE4.fwd F4.ok F6
     have hz:vs.toArray.size<=sizeLine:=by rw [sizeLine_lim];simp [<- rs6.length];lia
     refine call_meets PySem.F.slot_list_append ⟨_,hDp6,rfl⟩ PySem.F.entry_list_append (PySem.F.args_list_append_2 _ _) (list_append Da _ m6 y6 hz) ⟨hDp6,?_⟩
     have B7:But Da s6 { s6 with heap:=s6.heap.update Da (Obj.mapSeq fun xs=>xs.push y6),toks:=s6.toks }:=But.of_same (Heap.SameBut.update s6.heap Da (Obj.mapSeq fun xs=>xs.push y6))
     have nt:¬ TupObj { cls:=.type "list",data:=.seq vs.toArray m6 }:=not_tup_list rfl
     have O7:=B7.ok' F6.ok hD6 hDp6 nt zD0
     have F7:=(F5.trans F6).but B7 zD O7
     have hp7:PySem.Heap.PlainList (s6.heap.update Da (Obj.mapSeq fun xs=>xs.push y6)) Da (vs++[y6]).toArray:=⟨_,by
      have:=IsL.update hDp6 (fun xs=>xs.push y6)
      rwa [List.push_toArray] at this⟩
     have rs7:=B7.vals' hDp6 nt (rs6.append (VRels.one r6))
     have LE7:=B7.env' LE6 hDp6 nt (fun _ _ h=>by cases h) (fun _ h=>by cases h)
     obtain ⟨oN,vN,hoN,hdN,hNk⟩:=WI6.obj
     refine ⟨k0,Nat.lt_succ_self _,i+1,acc++[w],H6,φ6,_,vs++[y6],q6,F7,LE7,hNk _ _ (fun _ _ q=>q) (B7.keep _ _ (Ne.symm hDI) hoN),hD6,hp7,rs7,by simp;lia⟩
   ·rw [hat] at hw
    simp only at hw
    have O1:=B.ok F.ok hoJ hdJ zI0
    have F2:=F.but B hI O1
    have LE2:=B.env LE hoJ hdJ
    obtain ⟨m2,hns2,_⟩:=LE2.locals
    have hDp2:s'.heap.PlainList Da vs.toArray:=by obtain ⟨m,e⟩:=hDp;exact ⟨m,B.keep _ _ hDIne e⟩
    exact k Da Ca s' ⟨⟨acc,H',φ',vs,m2,hw,F2,hD,hDp2,B.vals' hoJ (not_tup_fields hdJ) rs,hlen,hns2⟩,zD,zC,hDCne⟩
 refine codeAny_compStart_list (loop _ hJ) (it_self (hItk φ h₁ (fun _ _ q=>q) (old _ _ hoI)) (loop _ hJ))
end
end MiniS
namespace MiniS
open PySem PySem.Calls PyProof.Rows
open Mini (V D)
theorem But.env2 {X:Cx}{φ nm env ρ a s s'}{o:Obj}(B:But a s s') (L:EnvOk X φ nm env ρ s) (ho:s.heap.get? a=some o) (ht:¬ TupObj o) (hl:env.locals≠a) (hcs:∀ x,env.cells.lookup x≠some a):EnvOk X φ nm env ρ s':=by
 have hr:∀ v x,VRel X.h₀ φ s.heap v x->VRel X.h₀ φ s'.heap v x:=fun v x r=>B.val' ho ht r
 have hcell:∀ x c ov,env.cells.lookup x=some c->s.heap.IsCell c ov->s'.heap.IsCell c ov:=fun x c ov hx hc=>by
  obtain ⟨oc,hoc,hdc⟩:=hc
  exact ⟨oc,B.keep c oc (fun q=>hcs x (q▸hx)) hoc,hdc⟩
 refine ⟨L.kind,L.glob,L.blt,L.len,L.nodup,fun hp=>Nat.lt_of_lt_of_le (L.pos hp) B.toks,?_,?_,L.above,L.aboveC,fun x c hc=>?_,L.apart⟩
 ·obtain ⟨m,⟨ol,es,ep,hol,hdl,q⟩,hm⟩:=L.locals
  exact ⟨m,⟨ol,es,ep,B.keep _ _ hl hol,hdl,q⟩,fun i x hx hk=>⟨(hm i x hx hk).1.mono hr,(hm i x hx hk).2.mono B.toks⟩⟩
 ·intro i x hx hk
  obtain ⟨c,ov,hc,hcl,r,lr⟩:=L.cells i x hx hk
  exact ⟨c,ov,hc,hcell x c ov hc hcl,r.mono hr,lr.mono B.toks⟩
 ·obtain ⟨ov,hcl⟩:=L.cellAll x c hc
  exact ⟨ov,hcell x c ov hc hcl⟩
theorem noSet {gl sc nm e re}(h:Mini.chkE gl sc nm e re=true) (env:Env) (x:Value):foldedSetIterable re env x=pure x:=by
 have h:=(Mini.kinds h).form
 cases re<;>first | rfl | nomatch h
section
variable {X:Cx}{A:Around}{C:Mini.Calls}
noncomputable def Began (X:Cx) (φ:List Addr) (s:Shared) (Q:Mini.It->Mini.Heap->Prop) (s₁:Shared) (y:Value) (s₂:Shared):Prop :=
 ∃ it I H1 φ1,y=.ref I/\Fwd X.h₀ φ s φ1 H1 s₁/\Fwd X.h₀ φ1 s₁ φ1 H1 s₂/\ItOk X φ1 it I 0 s₂.heap/\s₁.heap.objs.size<=I/\Q it H1
theorem began_iter {src:Mini.E}(hs:SndE X A C src) {re:Expr}{env:Env}{nm:List Str}{ρ:Mini.Env}{φ:List Addr}{H:Mini.Heap}{s:Shared}{EX:Value->Shared->Prop}{Q:Mini.It->Mini.Heap->Prop}
  (hc:Mini.chkE X.gl env.scope.names nm src re=true) (L:EnvOk X φ nm env ρ s) (O:Ok X.h₀ φ H s.heap)
  (h:Mini.wpE C src ρ (fun v H₁=>match Mini.iterV v with
   | some it=>Q it H₁
   | none=>False) H):wpAny (Mdl X) A (eval re env) (fun x s₁=>wpAny (Mdl X) A (pyIter x) (Began X φ s Q s₁) EX s₁) EX s:=by
 refine hs re env nm ρ _ H φ s _ EX hc L O h fun v H1 φ1 x s1 q F1 r=>?_
 cases hi:Mini.iterV v with
 | none=>simp only [hi] at q
 | some it =>
  simp only [hi] at q
  refine it_make F1.ok r hi fun o s' e W F2=>⟨it,_,H1,φ1,rfl,F1,F2,W,Nat.le_refl _,q⟩
theorem began_range (G:Gnd X) {src:Mini.E}(hs:SndE X A C src) {re fn:Expr}{p:Pos}{env:Env}{nm:List Str}{ρ:Mini.Env}{φ:List Addr}{H:Mini.Heap}{s:Shared}{EX:Value->Shared->Prop}{Q:Mini.It->Mini.Heap->Prop}
  (hf:Mini.isName env.scope.names "range" fn=true) (hc:Mini.chkE X.gl env.scope.names nm src re=true) (L:EnvOk X φ nm env ρ s) (O:Ok X.h₀ φ H s.heap)
  (h:Mini.wpE C src ρ (fun v H₁=>match Mini.rangeV v with
   | some it=>Q it H₁
   | none=>False) H):wpAny (Mdl X) A (eval (.Call fn [re] [] p) env) (fun x s₁=>wpAny (Mdl X) A (pyIter x) (fun y s₂=>∃ s₁',Began X φ s Q s₁' y s₂/\Fwd X.h₀ φ s φ H s) EX s₁) EX s:=by
 refine ty1 G (by decide) hs hc hf L O h fun v H1 φ1 x s1 q F1 r=>?_
 cases hi:Mini.rangeV v with
 | none=>simp only [hi] at q
 | some it =>
  simp only [hi] at q
  exact it_range F1.ok r hi fun I s' hI W F2=>⟨s1,⟨it,_,H1,φ1,rfl,F1,F2,W,hI,q⟩,Fwd.refl O⟩
abbrev compQ (C:Mini.Calls) (ifs:List Mini.E) (elt:Mini.E) (x:Nat) (ρ:Mini.Env) (Q:V->Mini.Heap->Prop) (it:Mini.It) (H₁:Mini.Heap):Prop :=
 ∃ n,Mini.compN (Mini.wpTest C ifs) (Mini.wpE C elt) x ρ it n 0 [] (fun vs H₂=>Q (.ref H₂.length) (H₂++[vs])) H₁
theorem hclos {env:Env}{nm:List Str}{ρ:Mini.Env}{φ:List Addr}{s:Shared}{id:Str}{scope:Scope}(L:EnvOk X φ nm env ρ s) (W:CompOk env nm id scope):closureFor scope env=pure (closL env scope.names []) :=
 closureFor_eq fun y hy hf=>by
  obtain ⟨hm,hk⟩:=W.frees y hy hf
  obtain ⟨i,hi⟩:=List.getElem?_of_mem hm
  obtain ⟨c,ov,hc,_⟩:=L.cells i _ hi hk
  rw [hc];rfl
theorem comp_expr (hh:A.handled=none) {elt:Mini.E}{ifs:List Mini.E}(he:SndE X A C elt) (ht:∀ e∈ifs,SndC X A C e)
  {env:Env}{nm:List Str}{ρ:Mini.Env}{φ:List Addr}{H:Mini.Heap}{s:Shared}{x:Nat}{id:Str}{scope:Scope}{elt' iter:Expr}{ifs':List Expr}{pos px:Pos}
  {Q:V->Mini.Heap->Prop}{K EX:Value->Shared->Prop}(L:EnvOk X φ nm env ρ s) (O:Ok X.h₀ φ H s.heap) (hx:nm[x]? = some id) (hlit:X.gl.lits.contains x=false)
  (hsc:Mini.compScope env.scope.names nm id scope=true) (h1:Mini.chkE X.gl (Mini.relab env.scope.names scope.names) nm elt elt'=true) (h2:Mini.chkEs X.gl (Mini.relab env.scope.names scope.names) nm ifs ifs'=true)
  (hns:∀ y,foldedSetIterable iter env y=pure y)
  (hf:wpAny (Mdl X) A (eval iter env) (fun x' s₁=>wpAny (Mdl X) A (pyIter x') (fun y s₂=>∃ s₁',Began X φ s (compQ C ifs elt x ρ Q) s₁' y s₂/\Fwd X.h₀ φ s φ H s) EX s₁) EX s)
  (k:PostOk X Q φ s K):wpAny (Mdl X) A (eval (.ListComp elt' [⟨.Name id px,iter,ifs',0⟩] scope pos) env) K EX s:=by
 have W:=compOk_of hsc
 show wpAny (Mdl X) A (comprehension (.ListComp elt' [⟨.Name id px,iter,ifs',0⟩] scope pos) scope env _ (newList []) false (eval iter env) none) K EX s
 refine wpAny_comprehension_free rfl hns (hclos L W) W.kind (fun y hy hl=>(W.locs y hy hl).1) (wpAny_mono hf (fun x1 s1 hx1=>wpAny_mono hx1 (fun y s2 hy=>?_) fun _ _ q=>q) fun _ _ q=>q)
 obtain ⟨s1',⟨it,I,H1,φ1,rfl,F1,F2,WI,hI,n,hw⟩,_⟩:=hy
 refine comp_core (R:=compPost (Mdl X) A EX none K) hh he ht (L.fwd O (F1.trans F2)) F2 (Nat.le_trans O.room F1.step.size) WI hI hx hlit hsc h1 h2 hw fun Da Ca s' E=>?_
 obtain ⟨acc,H',φ',vs,m,q,F,hD,hp,rs,hl,hn⟩:=E.ex
 refine ⟨m,hn,fun h' hsb=>?_⟩
 have zD:=Nat.le_trans (Nat.le_trans O.room F1.step.size) E.D
 have zC:=Nat.le_trans (Nat.le_trans O.room F1.step.size) E.C
 have Fa:=F.add hD E.D zD hp rs hl
 have B:But Ca s' { s' with heap:=h',toks:=s'.toks }:=But.of_same hsb
 obtain ⟨o,es,ep,ho,hd,_⟩:=hn
 have hCn:Ca ∉ φ'++[Da]:=fun hm=>by
  obtain ⟨_,_,e⟩:=Fa.ok.mem hm
  rw [e] at ho;cases ho;cases hd
 have Fb:=Fa.but B E.C (B.ok' Fa.ok hCn ho (not_tup_dict hd) zC)
 exact k _ _ _ _ _ q (F1.trans Fb) (mk_ref (by rw [<- F.ok.len];simp))
theorem comp_use (hh:A.handled=none) {elt:Mini.E}{ifs:List Mini.E}(he:SndE X A C elt) (ht:∀ e∈ifs,SndC X A C e)
  {env:Env}{nm:List Str}{ρ:Mini.Env}{φ:List Addr}{H:Mini.Heap}{s:Shared}{x:Nat}{id:Str}{scope:Scope}{elt' iter:Expr}{ifs':List Expr}{pos px:Pos}{z:Nat}{tgt:Str}{pt:Pos}
  {Q:V->Mini.Heap->Prop}{K:Unit->Shared->Prop}{EX:Value->Shared->Prop}(L:EnvOk X φ nm env ρ s) (O:Ok X.h₀ φ H s.heap) (hx:nm[x]? = some id) (hlit:X.gl.lits.contains x=false)
  (hsc:Mini.compScope env.scope.names nm id scope=true) (h1:Mini.chkE X.gl (Mini.relab env.scope.names scope.names) nm elt elt'=true) (h2:Mini.chkEs X.gl (Mini.relab env.scope.names scope.names) nm ifs ifs'=true)
  (hns:∀ y,foldedSetIterable iter env y=pure y)
  (hz:nm[z]? = some tgt) (hzl:Mini.isLoc env.scope.names tgt=true) (hzf:(env.scope.names.lookup tgt != some .free)=true) (hzlit:X.gl.lits.contains z=false)
  (hf:wpAny (Mdl X) A (eval iter env) (fun x' s₁=>wpAny (Mdl X) A (pyIter x') (fun y s₂=>∃ s₁',Began X φ s (compQ C ifs elt x ρ Q) s₁' y s₂/\Fwd X.h₀ φ s φ H s) EX s₁) EX s)
  (k:∀ v H' φ' s',Q v H'->FwdS X.h₀ env φ s φ' H' s'->EnvOk X φ' nm env (ρ.set z (some v)) s'->K () s') :
  wpAny (Mdl X) A (evalThenUse (.ListComp elt' [⟨.Name id px,iter,ifs',0⟩] scope pos) env (assign (.Name tgt pt) env)) K EX s:=by
 have W:=compOk_of hsc
 show wpAny (Mdl X) A (do let _ <- comprehension (.ListComp elt' [⟨.Name id px,iter,ifs',0⟩] scope pos) scope env _ (newList []) false (eval iter env) (some (assign (.Name tgt pt) env))) K EX s
 refine wpAny_bind ?_
 refine wpAny_comprehension_free rfl hns (hclos L W) W.kind (fun y hy hl=>(W.locs y hy hl).1) (wpAny_mono hf (fun x1 s1 hx1=>wpAny_mono hx1 (fun y s2 hy=>?_) fun _ _ q=>q) fun _ _ q=>q)
 obtain ⟨s1',⟨it,I,H1,φ1,rfl,F1,F2,WI,hI,n,hw⟩,_⟩:=hy
 refine comp_core (R:=compPost (Mdl X) A EX (some (assign (.Name tgt pt) env)) _) hh he ht (L.fwd O (F1.trans F2)) F2 (Nat.le_trans O.room F1.step.size) WI hI hx hlit hsc h1 h2 hw fun Da Ca s' E=>?_
 obtain ⟨acc,H',φ',vs,m,q,F,hD,hp,rs,hl,hn⟩:=E.ex
 have zD:=Nat.le_trans (Nat.le_trans O.room F1.step.size) E.D
 have zC:=Nat.le_trans (Nat.le_trans O.room F1.step.size) E.C
 have Fa:=F1.trans (F.add hD E.D zD hp rs hl)
 have L1:=L.fwd O Fa
 have hLC:@LT.lt Nat _ env.locals Ca:=by
  obtain ⟨_,hns,_⟩:=L.locals
  exact Nat.lt_of_lt_of_le hns.lt (Nat.le_trans F1.step.size E.C)
 have hcC:∀ y,env.cells.lookup y≠some Ca:=fun y hy=>by
  obtain ⟨ov,oc,hoc,_⟩:=L.cellAll y Ca hy
  exact absurd (Heap.lt_size hoc) (Nat.not_lt.mpr (Nat.le_trans F1.step.size E.C))
 show wpAny (Mdl X) A (assign (.Name tgt pt) env (.ref Da)) _ EX s'
 refine wpAny_assign_Name (store_var (v:=.ref H'.length) L1 Fa.ok hz hzl hzf hzlit (mk_ref (by rw [<- F.ok.len];simp)) fun s2 F3 L3=>?_)
 obtain ⟨o,es,ep,ho,hd,hrest⟩:=hn
 have hCn:Ca ∉ φ'++[Da]:=fun hm=>by
  obtain ⟨_,_,e⟩:=Fa.ok.mem hm
  rw [e] at ho;cases ho;cases hd
 have ho2:s2.heap.get? Ca=some o:=F3.keep _ _ hCn (fun hown=>by
  rcases hown with q | ⟨y,hy⟩
  ·rw [<- q] at hLC;exact Nat.lt_irrefl _ hLC
  ·exact hcC y hy) ho
 refine ⟨m,⟨o,es,ep,ho2,hd,hrest⟩,fun h' hsb=>?_⟩
 have B:But Ca s2 { s2 with heap:=h',toks:=s2.toks }:=But.of_same hsb
 have O4:=B.ok' F3.ok hCn ho2 (not_tup_dict hd) zC
 have F4:=((Fa.toS env).trans F3).but B (Nat.le_trans F1.step.size E.C) O4
 exact wpAny_pure (k _ _ _ _ q F4 (B.env2 L3 ho2 (not_tup_dict hd) (Nat.ne_of_lt hLC) hcC))
theorem snd_comp (hh:A.handled=none) {elt src:Mini.E}{x:Nat}{ifs:List Mini.E}(he:SndE X A C elt) (hs:SndE X A C src) (ht:∀ e∈ifs,SndC X A C e):SndE X A C (.comp elt x src ifs):=by
 intro re env nm ρ Q H φ s K EX hc L O h k
 refine Mini.inv_comp hc fun elt' id' px it' ifs' scope pos e9 hc9=>?_
 clear hc;subst e9
 ·simp only [Bool.and_eq_true,beq_iff_eq,Bool.not_eq_true'] at hc9
  obtain ⟨⟨⟨⟨⟨h1,h2⟩,h3⟩,h4⟩,h5⟩,h6⟩:=hc9
  replace h:=Mini.un_comp h
  exact comp_expr hh he ht L O h1 h2 h3 h5 h6 (noSet h4 env) (wpAny_mono (began_iter hs h4 L O h) (fun _ _ q=>wpAny_mono q (fun _ _ q=>⟨_,q,Fwd.refl O⟩) fun _ _ q=>q) fun _ _ q=>q) k
theorem snd_compR (G:Gnd X) (hh:A.handled=none) {elt src:Mini.E}{x:Nat}{ifs:List Mini.E}(he:SndE X A C elt) (hs:SndE X A C src) (ht:∀ e∈ifs,SndC X A C e):SndE X A C (.compR elt x src ifs):=by
 intro re env nm ρ Q H φ s K EX hc L O h k
 refine Mini.inv_compR hc fun elt' id' px fn n' pp ifs' scope pos e9 hf9 hc9=>?_
 clear hc;subst e9
 ·simp only [Bool.and_eq_true,beq_iff_eq,Bool.not_eq_true'] at hc9
  obtain ⟨⟨⟨⟨⟨h1,h2⟩,h3⟩,h5⟩,h6⟩,h7⟩:=hc9
  have h4:=hf9
  replace h:=Mini.un_compR h
  exact comp_expr hh he ht L O h1 h2 h3 h6 h7 (fun _=>rfl) (began_range G hs h4 h5 L O h) k
end
end MiniS
namespace MiniS
open PySem PySem.Calls PyProof.Rows
open Mini (V D)
theorem VRels.set {h₀ φ h}:∀ {l:List V}{vs:List Value}{k:Nat}{v:V}{x:Value},VRels h₀ φ h l vs->VRel h₀ φ h v x->VRels h₀ φ h (l.set k v) (vs.set k x)
 | [],vs,_,_,_,H,_=>by obtain rfl:=H.unnil;exact H
 | w::l,vs,0,_,_,H,r=>by
  obtain ⟨y,r',rfl,_,ht⟩:=H.uncons
  exact VRels.cons r ht
 | w::l,vs,k+1,_,_,H,r=>by
  obtain ⟨y,r',rfl,hy,ht⟩:=H.uncons
  exact VRels.cons hy (VRels.set ht r)
noncomputable def FlowRel (h₀:Heap) (φ:List Addr) (h:Heap):Mini.Flow->Flow->Prop
 | .next,f=>f=.next
 | .cont,f=>f=.cont
 | .ret v,f=>∃ x,f=.ret x/\VRel h₀ φ h v x
noncomputable def PostSOk (X:Cx) (Q:Mini.PostS) (env:Env) (nm:List Str) (φ:List Addr) (s:Shared) (K:Flow->Shared->Prop):Prop :=
 ∀ fl ρ' H' φ' f s',Q fl ρ' H'->FwdS X.h₀ env φ s φ' H' s'->EnvOk X φ' nm env ρ' s'->FlowRel X.h₀ φ' s'.heap fl f->K f s'
noncomputable def SndS (X:Cx) (A:Around) (C:Mini.Calls) (st:Mini.S):Prop :=
 ∀ (re:Stmt) (env:Env) (nm:List Str) (ρ:Mini.Env) (Q:Mini.PostS) (H:Mini.Heap) (φ:List Addr) (s:Shared) (K:Flow->Shared->Prop) (EX:Value->Shared->Prop),
  Mini.chkS X.gl env.scope.names nm st re=true->EnvOk X φ nm env ρ s->Ok X.h₀ φ H s.heap->Mini.wpS C st ρ Q H->PostSOk X Q env nm φ s K ->
  wpAny (Mdl X) A (exec re env) K EX s
noncomputable def SndSs (X:Cx) (A:Around) (C:Mini.Calls) (st:List Mini.S):Prop :=
 ∀ (re:List Stmt) (env:Env) (nm:List Str) (ρ:Mini.Env) (Q:Mini.PostS) (H:Mini.Heap) (φ:List Addr) (s:Shared) (K:Flow->Shared->Prop) (EX:Value->Shared->Prop),
  Mini.chkSs X.gl env.scope.names nm st re=true->EnvOk X φ nm env ρ s->Ok X.h₀ φ H s.heap->Mini.wpSs C st ρ Q H->PostSOk X Q env nm φ s K ->
  wpAny (Mdl X) A (execs re env) K EX s
section
variable {X:Cx}{A:Around}{C:Mini.Calls}
theorem PostSOk.after {Q:Mini.PostS}{env nm φ s K φ₁ H₁ s₁}(k:PostSOk X Q env nm φ s K) (F:FwdS X.h₀ env φ s φ₁ H₁ s₁):PostSOk X Q env nm φ₁ s₁ K :=
 fun fl ρ' H' φ' f s' q F' L' r=>k fl ρ' H' φ' f s' q (F.trans F') L' r
theorem snd_nil:SndSs X A C []:=by
 intro re env nm ρ Q H φ s K EX hc L O h k
 obtain rfl:=Mini.inv_ss_nil hc
 ·replace h:=Mini.us_nil h
  exact wpAny_execs_nil (k .next ρ H φ _ s h (FwdS.refl O) L rfl)
theorem snd_cons {st:Mini.S}{sts:List Mini.S}(h1:SndS X A C st) (h2:SndSs X A C sts):SndSs X A C (st::sts):=by
 intro re env nm ρ Q H φ s K EX hc L O h k
 obtain ⟨re,res,e9,hc9⟩:=Mini.inv_ss_cons hc
 clear hc;subst e9
 have hc:=hc9
 clear hc9
 ·replace h:=Mini.us_cons h
  refine wpAny_execs_cons (h1 re env nm ρ _ H φ s _ EX hc.1 L O h fun fl ρ1 H1 φ1 f s1 q F1 L1 r=>?_)
  cases fl with
  | next =>
   obtain rfl:=r
   exact h2 res env nm ρ1 Q H1 φ1 s1 K EX hc.2 L1 F1.ok q (k.after F1)
  | cont =>
   obtain rfl:=r
   exact k _ _ _ _ _ _ q F1 L1 rfl
  | ret v =>
   obtain ⟨x,rfl,r⟩:=r
   exact k _ _ _ _ _ _ q F1 L1 ⟨x,rfl,r⟩
theorem swaps_no {gl sc nm e re}(h:Mini.chkE gl sc nm e re=true) (hn:Mini.notComp e=true) (t:Option Expr) (l:Nat) (env:Env):swapsWith re t l env=pure false:=by
 have hf:=(Mini.kinds h).form
 have hc:=(Mini.kinds h).comp hn
 clear h
 cases re<;>first | rfl | exact Bool.noConfusion hf | exact Bool.noConfusion hc
theorem swaps_sub (re:Expr) (o i:Expr) (p:Pos) (l:Nat) (env:Env):swapsWith re (some (.Subscript o i p)) l env=pure false:=by
 cases re<;>rfl
theorem snd_assign (G:Gnd X) (hh:A.handled=none) {x:Nat}{e:Mini.E}(he:SndE X A C e)
  (hcomp:∀ elt y src ifs,(e=.comp elt y src ifs∨e=.compR elt y src ifs)->SndE X A C elt/\SndE X A C src/\∀ c∈ifs,SndC X A C c):SndS X A C (.assign x e):=by
 intro re env nm ρ Q H φ s K EX hc L O h k
 refine Mini.inv_assign hc fun id p e' p' e9 hc9=>?_
 clear hc;subst e9
 ·simp only [Bool.and_eq_true,beq_iff_eq,Bool.not_eq_true'] at hc9
  obtain ⟨⟨⟨⟨h1,h2⟩,h3⟩,h4⟩,h5⟩:=hc9
  replace h:=Mini.us_assign h
  have plain:swapsWith e' (some (.Name id p)) p'.line env=pure false->wpAny (Mdl X) A (exec (.Assign [.Name id p] e' p') env) K EX s:=fun hsw=>by
   refine wpAny_Assign_Name (he e' env nm ρ _ H φ s _ EX h5 L O h fun v H1 φ1 y s1 q F1 r=>?_) hsw
   exact store_var (L.fwd O F1) F1.ok h1 h2 h3 h4 r fun s2 F2 L2=>k .next _ _ _ _ _ q ((F1.toS env).trans F2) L2 rfl
  cases hn:Mini.notComp e with
  | true=>exact plain (swaps_no h5 hn _ _ env)
  | false =>
   rcases Mini.notComp_false hn with ⟨elt,y,src,ifs,rfl⟩ | ⟨elt,y,src,ifs,rfl⟩
   ·obtain ⟨e1,e2,e3⟩:=hcomp elt y src ifs (Or.inl rfl)
    refine Mini.inv_comp h5 fun elt' id' px it' ifs' scope pos e9 hc8=>?_
    clear h5;subst e9
    ·simp only [Bool.and_eq_true,beq_iff_eq,Bool.not_eq_true'] at hc8
     obtain ⟨⟨⟨⟨⟨g1,g2⟩,g3⟩,g4⟩,g5⟩,g6⟩:=hc8
     have hb:∃ b,swapsWith (.ListComp elt' [⟨.Name id' px,it',ifs',0⟩] scope pos) (some (.Name id p)) p'.line env=pure b:=⟨_,rfl⟩
     obtain ⟨b,hb⟩:=hb
     cases b with
     | false=>exact plain hb
     | true =>
      rw [exec_Assign_Name_used _ _ _ _ hb]
      replace h:=Mini.un_comp h
      refine wpAny_bind (wpAny_standAt (wpAny_bind (comp_use hh e1 e3 L O g1 g2 g3 g5 g6 (noSet g4 env) h1 h2 h3 h4
       (wpAny_mono (began_iter e2 g4 L O h) (fun _ _ q=>wpAny_mono q (fun _ _ q=>⟨_,q,Fwd.refl O⟩) fun _ _ q=>q) fun _ _ q=>q) fun v H1 φ1 s1 q F1 L1=>wpAny_pure (k .next _ _ _ _ _ q F1 L1 rfl))))
   ·obtain ⟨e1,e2,e3⟩:=hcomp elt y src ifs (Or.inr rfl)
    refine Mini.inv_compR h5 fun elt' id' px fn n' pp ifs' scope pos e9 g4 hc8=>?_
    clear h5;subst e9
    ·simp only [Bool.and_eq_true,beq_iff_eq,Bool.not_eq_true'] at hc8
     obtain ⟨⟨⟨⟨⟨g1,g2⟩,g3⟩,g5⟩,g6⟩,g7⟩:=hc8
     have hb:∃ b,swapsWith (.ListComp elt' [⟨.Name id' px,.Call fn [n'] [] pp,ifs',0⟩] scope pos) (some (.Name id p)) p'.line env=pure b:=⟨_,rfl⟩
     obtain ⟨b,hb⟩:=hb
     cases b with
     | false=>exact plain hb
     | true =>
      rw [exec_Assign_Name_used _ _ _ _ hb]
      replace h:=Mini.un_compR h
      refine wpAny_bind (wpAny_standAt (wpAny_bind (comp_use hh e1 e3 L O g1 g2 g3 g6 g7 (fun _=>rfl) h1 h2 h3 h4
       (began_range G e2 g4 g5 L O h) fun v H1 φ1 s1 q F1 L1=>wpAny_pure (k .next _ _ _ _ _ q F1 L1 rfl))))
theorem snd_setIdx {o i e:Mini.E}(ho:SndE X A C o) (hi:SndE X A C i) (he:SndE X A C e):SndS X A C (.setIdx o i e):=by
 intro re env nm ρ Q H φ s K EX hc L O h k
 have hlim:Mini.lim=16777216:=rfl
 refine Mini.inv_setIdx hc fun o' i' p e' p' e9 hc9=>?_
 clear hc;subst e9
 ·simp only [Bool.and_eq_true] at hc9
  obtain ⟨⟨h1,h2⟩,h3⟩:=hc9
  replace h:=Mini.us_setIdx h
  refine wpAny_Assign_Subscript (he _ env nm ρ _ H φ s _ EX h3 L O h fun v H1 φ1 x1 s1 q1 F1 r1=>?_) (swaps_sub ..)
  refine ho _ env nm ρ _ H1 φ1 s1 _ EX h1 (L.fwd O F1) F1.ok q1 fun vo H2 φ2 x2 s2 q2 F2 r2=>?_
  have F12:=F1.trans F2
  refine hi _ env nm ρ _ H2 φ2 s2 _ EX h2 (L.fwd O F12) F12.ok q2 fun vi H3 φ3 x3 s3 q3 F3 r3=>?_
  have F13:=F12.trans F3
  have r1':=F3.val F2.ok (F2.val F1.ok r1)
  have r2':=F3.val F2.ok r2
  unfold Mini.hea at q3
  split at q3
  ·rename_i H4 e4
   replace e4:=Mini.onRef_ok e4;obtain ⟨a,rfl,e4⟩:=e4
   replace e4:=Mini.onInt_ok e4;obtain ⟨j,rfl,e4⟩:=e4
   ·obtain ⟨p,hp,rfl⟩:=vrel_ref r2'
    obtain ⟨t,rfl⟩:=vrel_int r3
    cases e0:H3[a]? with
    | none=>rw [e0] at e4;cases e4
    | some l =>
     rw [e0] at e4
     simp only [Option.bind_some] at e4
     obtain ⟨kk,ek,rfl⟩:=Option.map_eq_some_iff.mp e4
     obtain ⟨vs,⟨n,hl⟩,rl⟩:=F3.ok.lists _ _ _ hp e0
     have hlen:=rl.length
     have hz:=F3.ok.small l (List.mem_of_getElem? e0)
     have fin:∀ kk',kk'=kk->K .next { s3 with heap:=s3.heap.update p (Obj.mapSeq (·.setIfInBounds kk' x1)) }:=fun kk' ekk=>by
      subst ekk
      have F4:=Fwd.change (tk:=s3.toks) F3.ok hp (Heap.SameBut.update s3.heap p (Obj.mapSeq (·.setIfInBounds kk' x1))) (vs':=vs.set kk' x1) (l':=l.set kk' v) ⟨_,by
       have:=IsL.update hl (fun xs=>xs.setIfInBounds kk' x1)
       rwa [List.setIfInBounds_toArray] at this⟩ (rl.set r1') (by simpa using hz)
      exact k .next _ _ _ _ _ q3 ((F13.trans F4).toS env) (L.fwd O (F13.trans F4)) rfl
     unfold Mini.place at ek
     split at ek
     ·rename_i h0
      split at ek
      ·rename_i hlt
       cases ek
       exact PySem.W.ki_setAt hl h0 (by lia) (by simpa [<- hlen] using hlt) (fin _ rfl)
      ·cases ek
     ·rename_i h0
      split at ek
      ·rename_i hle
       cases ek
       refine PySem.W.ki_setBack hl (by lia) (by simpa [<- hlen] using hle) (by lia) (fin _ ?_)
       simp [<- hlen]
      ·cases ek
  ·exact q3.elim
theorem snd_expr {e:Mini.E}(he:SndE X A C e):SndS X A C (.expr e):=by
 intro re env nm ρ Q H φ s K EX hc L O h k
 refine Mini.inv_expr hc fun e' p e9 hc9=>?_
 clear hc;subst e9
 ·simp only [Bool.and_eq_true] at hc9
  replace h:=Mini.us_expr h
  refine wpAny_Expr_any (he _ env nm ρ _ H φ s _ EX hc9.2 L O h fun v H1 φ1 x1 s1 q1 F1 r1=>k .next _ _ _ _ _ q1 (F1.toS env) (L.fwd O F1) rfl) ?_ (swaps_no hc9.2 hc9.1 _ _ env)
  unfold interactive;rw [L.kind];rfl
theorem snd_ite {c:Mini.E}{t f:List Mini.S}(hc':SndC X A C c) (ht:SndSs X A C t) (hf:SndSs X A C f):SndS X A C (.ite c t f):=by
 intro re env nm ρ Q H φ s K EX hc L O h k
 refine Mini.inv_ite hc fun c' t' f' p e9 hc9=>?_
 clear hc;subst e9
 ·simp only [Bool.and_eq_true] at hc9
  obtain ⟨⟨h1,h2⟩,h3⟩:=hc9
  replace h:=Mini.us_ite h
  refine wpAny_If (hc' _ env nm ρ _ H φ s _ EX h1 L O h fun b H1 φ1 s1 q1 F1=>?_)
  cases b with
  | true=>exact ht _ env nm ρ Q H1 φ1 s1 K EX h2 (L.fwd O F1) F1.ok q1 (k.after (F1.toS env))
  | false=>exact hf _ env nm ρ Q H1 φ1 s1 K EX h3 (L.fwd O F1) F1.ok q1 (k.after (F1.toS env))
theorem snd_whl {c:Mini.E}{b:List Mini.S}(hc':SndC X A C c) (hb:SndSs X A C b):SndS X A C (.whl c b):=by
 intro re env nm ρ Q H φ s K EX hc L O h k
 refine Mini.inv_whl hc fun c' b' p e9 hc9=>?_
 clear hc;subst e9
 ·simp only [Bool.and_eq_true] at hc9
  obtain ⟨h1,h2⟩:=hc9
  replace h:=Mini.us_whl h
  obtain ⟨n,hn⟩:=h
  refine wpAny_While (codeAny_whileLoop (fun k0 st=>∃ ρ' H' φ',Mini.whileN (Mini.wpE C c) (Mini.wpSs C b) k0 ρ' Q H'/\FwdS X.h₀ env φ s φ' H' st/\EnvOk X φ' nm env ρ' st) (fun k0 st hst=>?_) n ⟨ρ,H,φ,hn,FwdS.refl O,L⟩)
  obtain ⟨ρ',H',φ',hw,F,L'⟩:=hst
  cases k0 with
  | zero=>exact False.elim hw
  | succ k0 =>
   refine hc' _ env nm ρ' _ H' φ' st _ _ h1 L' F.ok hw fun t H1 φ1 s1 q1 F1=>?_
   have L1:=L'.fwd F.ok F1
   have FF:=F.trans (F1.toS env)
   cases t with
   | false =>
    simp only [Bool.false_eq_true,if_false]
    exact wpAny_execs_nil (k .next _ _ _ _ _ q1 FF L1 rfl)
   | true =>
    simp only [if_true]
    refine hb _ env nm ρ' _ H1 φ1 s1 _ _ h2 L1 F1.ok q1 fun fl ρ2 H2 φ2 f s2 q2 F2 L2 r2=>?_
    cases fl with
    | next=>obtain rfl:=r2;exact ⟨k0,Nat.lt_succ_self _,ρ2,H2,φ2,q2,FF.trans F2,L2⟩
    | cont=>obtain rfl:=r2;exact ⟨k0,Nat.lt_succ_self _,ρ2,H2,φ2,q2,FF.trans F2,L2⟩
    | ret v =>
     obtain ⟨x,rfl,r⟩:=r2
     exact k (.ret v) _ _ _ _ _ q2 (FF.trans F2) L2 ⟨x,rfl,r⟩
theorem for_core (hh:A.handled=none) {b:List Mini.S}{x n:Nat}(hb:SndSs X A C b) {id:Str}{p:Pos}{b':List Stmt}{env:Env}{nm:List Str}{ρ:Mini.Env}{Q:Mini.PostS}{H:Mini.Heap}{φ:List Addr}{s₀ s:Shared}{φ₀:List Addr}{I:Addr}{it:Mini.It}{K:Flow->Shared->Prop}{EX:Value->Shared->Prop}
  (L:EnvOk X φ nm env ρ s) (F0:FwdS X.h₀ env φ₀ s₀ φ H s) (hroom:X.h₀.objs.size<=s₀.heap.objs.size) (W:ItOk X φ it I 0 s.heap) (hI:s₀.heap.objs.size<=I)
  (h1:nm[x]? = some id) (h2:Mini.isLoc env.scope.names id=true) (h3:(env.scope.names.lookup id != some .free)=true) (h4:X.gl.lits.contains x=false)
  (h6:Mini.chkSs X.gl env.scope.names nm b b'=true) (hw:Mini.forN (Mini.wpSs C b) x it n 0 ρ Q H) (k:PostSOk X Q env nm φ₀ s₀ K) :
  codeAny (Mdl X) A (.forLoop (.Name id p) (.ref I) b' [] env) (fun r s'=>match r with | .ok f=>K f s' | .error e=>cameBackBy (Mdl X) A env EX e s') s:=by
 refine codeAny_forLoop (fun k0 st=>∃ i ρ' H' φ',Mini.forN (Mini.wpSs C b) x it k0 i ρ' Q H'/\FwdS X.h₀ env φ₀ s₀ φ' H' st/\EnvOk X φ' nm env ρ' st/\ItOk X φ' it I i st.heap) (fun k0 st hst=>?_) n ⟨0,ρ,H,φ,hw,F0,L,W⟩
 obtain ⟨i,ρ',H',φ',hw,F,L',WI⟩:=hst
 cases k0 with
 | zero=>exact False.elim hw
 | succ k0 =>
  replace hw:(match it.at H' i with | none=>_ | some v=>_):=hw
  obtain ⟨oI,vI,hoI,hdI,hIk⟩:=WI.obj
  refine it_next hh F.ok WI (fun v y s' hat ry B WI'=>?_) (fun s' hat B=>?_)
  ·rw [hat] at hw
   simp only at hw
   have O1:=B.ok F.ok hoI hdI (Nat.le_trans hroom hI)
   have F1:=F.but B hI O1
   have L1:=B.env L' hoI hdI
   refine wpAny_assign_Name (store_var L1 O1 h1 h2 h3 h4 ry fun s2 F2 L2=>?_)
   obtain ⟨oJ,vJ,hoJ,hdJ,hJk⟩:=WI'.obj
   have WI2:=hJk φ' s2.heap (fun _ _ q=>q) (FwdS.fields O1 L1 F2 hdJ hoJ)
   refine hb _ env nm _ _ H' φ' s2 _ _ h6 L2 F2.ok hw fun fl ρ3 H3 φ3 f s3 q3 F3 L3 r3=>?_
   have FF:=(F1.trans F2).trans F3
   obtain ⟨oK,vK,hoK,hdK,hKk⟩:=WI2.obj
   have WI3:=hKk φ3 s3.heap F3.idx (FwdS.fields F2.ok L2 F3 hdK hoK)
   cases fl with
   | next=>obtain rfl:=r3;exact ⟨k0,Nat.lt_succ_self _,i+1,ρ3,H3,φ3,q3,FF,L3,WI3⟩
   | cont=>obtain rfl:=r3;exact ⟨k0,Nat.lt_succ_self _,i+1,ρ3,H3,φ3,q3,FF,L3,WI3⟩
   | ret v =>
    obtain ⟨x,rfl,r⟩:=r3
    exact k (.ret v) _ _ _ _ _ q3 FF L3 ⟨x,rfl,r⟩
  ·rw [hat] at hw
   simp only at hw
   have O1:=B.ok F.ok hoI hdI (Nat.le_trans hroom hI)
   exact wpAny_execs_nil (k .next _ _ _ _ _ hw (F.but B hI O1) (B.env L' hoI hdI) rfl)
theorem snd_forIn (hh:A.handled=none) {x:Nat}{e:Mini.E}{b:List Mini.S}(he:SndE X A C e) (hb:SndSs X A C b):SndS X A C (.forIn x e b):=by
 intro re env nm ρ Q H φ s K EX hc L O h k
 refine Mini.inv_forIn hc fun id p e' b' p' e9 hc9=>?_
 clear hc;subst e9
 ·simp only [Bool.and_eq_true,beq_iff_eq,Bool.not_eq_true'] at hc9
  obtain ⟨⟨⟨⟨⟨h1,h2⟩,h3⟩,h4⟩,h5⟩,h6⟩:=hc9
  replace h:=Mini.us_forIn h
  refine wpAny_For (wpAny_mono (began_iter (Q:=fun it H₁=>∃ n,Mini.forN (Mini.wpSs C b) x it n 0 ρ Q H₁) he h5 L O h) (fun x1 s1 hx1=>wpAny_mono hx1 (fun y s2 hy=>?_) fun _ _ q=>q) fun _ _ q=>q) (noSet h5 env)
  obtain ⟨it,I,H1,φ1,rfl,F1,F2,WI,hI,n,hw⟩:=hy
  have FF:=F1.trans F2
  exact for_core hh hb (L.fwd O FF) (FF.toS env) O.room WI (Nat.le_trans F1.step.size hI) h1 h2 h3 h4 h6 hw k
theorem snd_forR (G:Gnd X) (hh:A.handled=none) {x:Nat}{e:Mini.E}{b:List Mini.S}(he:SndE X A C e) (hb:SndSs X A C b):SndS X A C (.forR x e b):=by
 intro re env nm ρ Q H φ s K EX hc L O h k
 refine Mini.inv_forR hc fun id p fn e' pp b' p' e9 hf9 hc9=>?_
 clear hc;subst e9
 ·simp only [Bool.and_eq_true,beq_iff_eq,Bool.not_eq_true'] at hc9
  obtain ⟨⟨⟨⟨⟨h1,h2⟩,h3⟩,h4⟩,h6⟩,h7⟩:=hc9
  have h5:=hf9
  replace h:=Mini.us_forR h
  refine wpAny_For (wpAny_mono (began_range (Q:=fun it H₁=>∃ n,Mini.forN (Mini.wpSs C b) x it n 0 ρ Q H₁) G he h5 h6 L O h) (fun x1 s1 hx1=>wpAny_mono hx1 (fun y s2 hy=>?_) fun _ _ q=>q) fun _ _ q=>q) (fun _=>rfl)
  obtain ⟨s1',⟨it,I,H1,φ1,rfl,F1,F2,WI,hI,n,hw⟩,_⟩:=hy
  have FF:=F1.trans F2
  exact for_core hh hb (L.fwd O FF) (FF.toS env) O.room WI (Nat.le_trans F1.step.size hI) h1 h2 h3 h4 h7 hw k
theorem snd_ret {e:Mini.E}(he:SndE X A C e):SndS X A C (.ret e):=by
 intro re env nm ρ Q H φ s K EX hc L O h k
 refine Mini.inv_ret hc fun e' p e9 hc9=>?_
 clear hc;subst e9
 ·replace h:=Mini.us_ret h
  exact wpAny_Return_some (he _ env nm ρ _ H φ s _ EX hc9 L O h fun v H1 φ1 x1 s1 q1 F1 r1=>k (.ret v) _ _ _ _ _ q1 (F1.toS env) (L.fwd O F1) ⟨_,rfl,r1⟩)
theorem snd_retNone:SndS X A C .retNone:=by
 intro re env nm ρ Q H φ s K EX hc L O h k
 refine Mini.inv_retNone hc fun p e9=>?_
 clear hc;subst e9
 ·replace h:=Mini.us_retNone h
  exact wpAny_Return_none (k (.ret .none) _ _ _ _ _ h (FwdS.refl O) L ⟨_,rfl,by unfold VRel;rfl⟩)
theorem snd_cont:SndS X A C .cont:=by
 intro re env nm ρ Q H φ s K EX hc L O h k
 refine Mini.inv_cont hc fun p e9=>?_
 clear hc;subst e9
 ·replace h:=Mini.us_cont h
  exact wpAny_Continue (k .cont _ _ _ _ _ h (FwdS.refl O) L rfl)
theorem snd_pass:SndS X A C .pass:=by
 intro re env nm ρ Q H φ s K EX hc L O h k
 refine Mini.inv_pass hc fun p e9=>?_
 clear hc;subst e9
 ·replace h:=Mini.us_pass h
  exact wpAny_Pass (k .next _ _ _ _ _ h (FwdS.refl O) L rfl)
theorem snd_raise {a b}:SndS X A C (.raise a b):=by
 intro re env nm ρ Q H φ s K EX hc L O h k
 replace h:=Mini.us_raise h
 exact h.elim
structure ButP (N:Addr->Prop) (s s':Shared):Prop where
 same:∃ h' tk,s'={ s with heap:=h',toks:=tk }
 keep:∀ b o,¬ N b->s.heap.get? b=some o->s'.heap.get? b=some o
 size:s.heap.objs.size<=s'.heap.objs.size
 toks:s.toks<=s'.toks
end
end MiniS
namespace MiniS
open PySem PySem.Calls PyProof.Rows
open Mini (V D)
section
variable {X:Cx}{A:Around}{C:Mini.Calls}
theorem sndL_cons {e:Mini.E}{es:List Mini.E}(h:SndE X A C e) (hs:SndL X A C es):SndL X A C (e::es):=fun e' h'=>by
 rcases List.mem_cons.mp h' with rfl | h'
 ·exact h
 ·exact hs e' h'
theorem sndCL_cons {e:Mini.E}{es:List Mini.E}(h:SndC X A C e) (hs:SndCL X A C es):SndCL X A C (e::es):=fun e' h'=>by
 rcases List.mem_cons.mp h' with rfl | h'
 ·exact h
 ·exact hs e' h'
theorem both {e:Mini.E}(h:SndE X A C e) (hp:Mini.plainC e=true):SndE X A C e/\SndC X A C e:=⟨h,sndC_plain h hp⟩
mutual
theorem all_E (G:Gnd X) (hh:A.handled=none) (hu:A.units+106<cLine) (hC:CallOk X A C):∀ e:Mini.E,SndE X A C e/\SndC X A C e
 | .none=>both snd_none rfl
 | .bool _=>both snd_bool rfl
 | .int _=>both snd_int rfl
 | .str _=>both snd_str rfl
 | .var _=>both snd_var rfl
 | .glob _ _=>both (snd_glob G) rfl
 | .bin _ l r=>both (snd_bin (all_E G hh hu hC l).1 (all_E G hh hu hC r).1) rfl
 | .neg _=>both snd_neg rfl
 | .cmp _ l r=>⟨snd_cmp hu (all_E G hh hu hC l).1 (all_E G hh hu hC r).1,sndC_cmp hu (all_E G hh hu hC l).1 (all_E G hh hu hC r).1⟩
 | .cmp2 _ _ a b c=>⟨snd_cmp2 hu (all_E G hh hu hC a).1 (all_E G hh hu hC b).1 (all_E G hh hu hC c).1,sndC_cmp2 hu (all_E G hh hu hC a).1 (all_E G hh hu hC b).1 (all_E G hh hu hC c).1⟩
 | .is e _=>⟨snd_is (all_E G hh hu hC e).1,sndC_is (all_E G hh hu hC e).1⟩
 | .isnot e _=>⟨snd_isnot (all_E G hh hu hC e).1,sndC_isnot (all_E G hh hu hC e).1⟩
 | .and es=>⟨snd_and (all_L G hh hu hC es).1,sndC_and (all_L G hh hu hC es).2⟩
 | .or es=>⟨snd_or (all_L G hh hu hC es).1,sndC_or (all_L G hh hu hC es).2⟩
 | .not e=>⟨snd_not (all_E G hh hu hC e).1,sndC_not (all_E G hh hu hC e).2⟩
 | .idx o i=>both (snd_idx (all_E G hh hu hC o).1 (all_E G hh hu hC i).1) rfl
 | .slc o l h=>both (snd_slc (all_E G hh hu hC o).1 (all_E G hh hu hC l).1 (all_E G hh hu hC h).1) rfl
 | .slcL o l=>both (snd_slcL (all_E G hh hu hC o).1 (all_E G hh hu hC l).1) rfl
 | .slcH o h=>both (snd_slcH (all_E G hh hu hC o).1 (all_E G hh hu hC h).1) rfl
 | .call _ es=>both (snd_call G hC (all_L G hh hu hC es).1) rfl
 | .isinst e _=>both (snd_isinst G (all_E G hh hu hC e).1) rfl
 | .len e=>both (snd_len G (all_E G hh hu hC e).1) rfl
 | .toInt e=>both (snd_toInt G (all_E G hh hu hC e).1) rfl
 | .ord e=>both (snd_ord G (all_E G hh hu hC e).1) rfl
 | .append o e=>both (snd_append (all_E G hh hu hC o).1 (all_E G hh hu hC e).1) rfl
 | .extend o e=>both (snd_extend (all_E G hh hu hC o).1 (all_E G hh hu hC e).1) rfl
 | .pop o=>both (snd_pop (all_E G hh hu hC o).1) rfl
 | .find o a b=>both (snd_find (all_E G hh hu hC o).1 (all_E G hh hu hC a).1 (all_E G hh hu hC b).1) rfl
 | .replace o _ _=>both (snd_replace (all_E G hh hu hC o).1) rfl
 | .join o a=>both (snd_join (all_E G hh hu hC o).1 (all_E G hh hu hC a).1) rfl
 | .lstrip o a=>both (snd_lstrip (all_E G hh hu hC o).1 (all_E G hh hu hC a).1) rfl
 | .list es=>both (snd_list (all_L G hh hu hC es).1) rfl
 | .tup es=>both (snd_tup (all_L G hh hu hC es).1) rfl
 | .comp elt _ src ifs=>both (snd_comp hh (all_E G hh hu hC elt).1 (all_E G hh hu hC src).1 (all_L G hh hu hC ifs).2) rfl
 | .compR elt _ src ifs=>both (snd_compR G hh (all_E G hh hu hC elt).1 (all_E G hh hu hC src).1 (all_L G hh hu hC ifs).2) rfl
theorem all_L (G:Gnd X) (hh:A.handled=none) (hu:A.units+106<cLine) (hC:CallOk X A C):∀ es:List Mini.E,SndL X A C es/\SndCL X A C es
 | []=>⟨fun e h=>(nomatch h),fun e h=>(nomatch h)⟩
 | e::es=>⟨sndL_cons (all_E G hh hu hC e).1 (all_L G hh hu hC es).1,sndCL_cons (all_E G hh hu hC e).2 (all_L G hh hu hC es).2⟩
end
mutual
theorem all_S (G:Gnd X) (hh:A.handled=none) (hu:A.units+106<cLine) (hC:CallOk X A C):∀ st:Mini.S,SndS X A C st
 | .assign _ e=>snd_assign G hh (all_E G hh hu hC e).1 fun elt _ src ifs _=>⟨(all_E G hh hu hC elt).1,(all_E G hh hu hC src).1,(all_L G hh hu hC ifs).2⟩
 | .setIdx o i e=>snd_setIdx (all_E G hh hu hC o).1 (all_E G hh hu hC i).1 (all_E G hh hu hC e).1
 | .expr e=>snd_expr (all_E G hh hu hC e).1
 | .ite c t f=>snd_ite (all_E G hh hu hC c).2 (all_Ss G hh hu hC t) (all_Ss G hh hu hC f)
 | .whl c b=>snd_whl (all_E G hh hu hC c).2 (all_Ss G hh hu hC b)
 | .forIn _ e b=>snd_forIn hh (all_E G hh hu hC e).1 (all_Ss G hh hu hC b)
 | .forR _ e b=>snd_forR G hh (all_E G hh hu hC e).1 (all_Ss G hh hu hC b)
 | .ret e=>snd_ret (all_E G hh hu hC e).1
 | .retNone=>snd_retNone
 | .cont=>snd_cont
 | .pass=>snd_pass
 | .raise _ _=>snd_raise
theorem all_Ss (G:Gnd X) (hh:A.handled=none) (hu:A.units+106<cLine) (hC:CallOk X A C):∀ sts:List Mini.S,SndSs X A C sts
 | []=>snd_nil
 | st::sts=>snd_cons (all_S G hh hu hC st) (all_Ss G hh hu hC sts)
end
theorem lookup_zip:∀ {names:List Str}{vals:List Value}{i:Nat}{n:Str}{v:Value},names.Nodup->names[i]? = some n->vals[i]? = some v->(names.zip vals).lookup n=some v
 | [],_,_,_,_,_,h,_=>by simp at h
 | _::_,[],_,_,_,_,_,h=>by simp at h
 | a::names,b::vals,0,n,v,_,h1,h2=>by
  simp at h1 h2;subst h1;subst h2;simp
 | a::names,b::vals,i+1,n,v,hd,h1,h2=>by
  simp at h1 h2
  have hd:=List.nodup_cons.mp hd
  have hne:(n==a)=false:=by
   rw [beq_eq_false_iff_ne];rintro rfl
   exact hd.1 (List.mem_of_getElem? h1)
  rw [List.zip_cons_cons,List.lookup_cons,hne]
  exact lookup_zip hd.2 h1 h2
theorem filterMap_zip:∀ {names:List Str}{vals:List Value}(l:List (Str×Value)),names.length=vals.length->(∀ (i:Nat) (n:Str) (v:Value),names[i]? = some n->vals[i]? = some v->l.lookup n=some v) ->
  (names.filterMap fun n=>(l.lookup n).map (n,·))=names.zip vals
 | [],_,_,_,_=>by simp
 | _::_,[],_,h,_=>by simp at h
 | a::names,b::vals,l,h,hl=>by
  rw [List.filterMap_cons,hl 0 a b rfl rfl]
  simp only [Option.map_some,List.zip_cons_cons]
  rw [filterMap_zip l (by simpa using h) fun i n v h1 h2=>hl (i+1) n v (by simpa using h1) (by simpa using h2)]
theorem bind_zip {name:Str}{params:Arguments}{body:List Stmt}{scope:Scope}{pm cd doc:Value}{vals:List Value}
  (h1:params.posonlyargs=[]) (h2:params.vararg=none) (h3:params.kwonlyargs=[]) (h4:params.kwarg=none) (hlen:params.args.length=vals.length) (hnd:(params.args.map (·.arg)).Nodup) :
  bindArgs (docDef name params body scope pm cd doc) ⟨vals,[]⟩=pure ((params.args.map (·.arg)).zip vals):=by
 have hz:∀ (i:Nat) (n:Str) (v:Value),(params.args.map (·.arg))[i]? = some n->vals[i]? = some v->((params.args.map (·.arg)).zip vals).lookup n=some v:=fun i n v e1 e2=>lookup_zip hnd e1 e2
 have hf:=filterMap_zip (names:=params.args.map (·.arg)) (vals:=vals) ((params.args.map (·.arg)).zip vals) (by simpa using hlen) hz
 have hm:((params.args.map (·.arg)).filter fun n=>(((params.args.map (·.arg)).zip vals).lookup n).isNone)=[]:=by
  rw [List.filter_eq_nil_iff]
  intro n hn
  obtain ⟨i,hi⟩:=List.getElem?_of_mem hn
  have:i<vals.length:=by
   have:=(List.getElem?_eq_some_iff.mp hi).1
   simp at this;lia
  rw [hz i n _ hi (List.getElem?_eq_getElem this)]
  simp
 unfold bindArgs docDef
 simp only [h1,h2,h3,h4,List.map_nil,List.nil_append,List.append_nil]
 rw [List.forIn_nil]
 have e:seqItems? Value.none=pure none:=rfl
 have hgt:decide ((params.args.map (·.arg)).length<vals.length)=false:=by simp [hlen]
 have ht:(params.args.map (·.arg)).take ((params.args.map (·.arg)).length - 0)=params.args.map (·.arg):=List.take_of_length_le (Nat.le_refl _)
 simp only [pure_bind,e,Option.getD_none,gt_iff_lt,hgt,Bool.false_and,Bool.false_eq_true,if_false,List.drop_nil,List.length_nil,Nat.zero_sub,ht,hm,List.isEmpty_nil,Bool.not_true,List.zip_nil_right,List.forIn_nil,hf]
theorem bindL_other {kindOf:Str->Option NameKind}:∀ {names:List Str}{vals:List Value}{m:Str->Option Value}{n:Str},n ∉ names->bindL kindOf (names.zip vals) m n=m n
 | [],_,_,_,_=>rfl
 | _::_,[],_,_,_=>rfl
 | a::names,b::vals,m,n,h=>by
  simp only [List.mem_cons,not_or] at h
  rw [List.zip_cons_cons]
  unfold bindL
  rw [bindL_other h.2]
  split
  ·exact if_neg h.1
  ·rfl
theorem bindL_get {kindOf:Str->Option NameKind}:∀ {names:List Str}{vals:List Value}{m:Str->Option Value}{i:Nat}{n:Str}{v:Value},names.Nodup->names[i]? = some n->vals[i]? = some v->kindOf n=some .local->bindL kindOf (names.zip vals) m n=some v
 | [],_,_,_,_,_,_,h,_,_=>by simp at h
 | _::_,[],_,_,_,_,_,_,h,_=>by simp at h
 | a::names,b::vals,m,0,n,v,hd,h1,h2,hk=>by
  simp at h1 h2;subst h1;subst h2
  rw [List.zip_cons_cons]
  unfold bindL
  rw [bindL_other (List.nodup_cons.mp hd).1,if_pos hk,if_pos rfl]
 | a::names,b::vals,m,i+1,n,v,hd,h1,h2,hk=>by
  simp at h1 h2
  rw [List.zip_cons_cons]
  unfold bindL
  exact bindL_get (List.nodup_cons.mp hd).2 h1 h2 hk
theorem bindC_other {kindOf:Str->Option NameKind}:∀ {names:List Str}{vals:List Value}{m:Str->Option Value}{n:Str},n ∉ names->bindC kindOf (names.zip vals) m n=m n
 | [],_,_,_,_=>rfl
 | _::_,[],_,_,_=>rfl
 | a::names,b::vals,m,n,h=>by
  simp only [List.mem_cons,not_or] at h
  rw [List.zip_cons_cons]
  unfold bindC
  rw [bindC_other h.2]
  split
  ·rfl
  ·exact if_neg h.1
theorem bindC_get {kindOf:Str->Option NameKind}:∀ {names:List Str}{vals:List Value}{m:Str->Option Value}{i:Nat}{n:Str}{v:Value},names.Nodup->names[i]? = some n->vals[i]? = some v->kindOf n≠some .local->bindC kindOf (names.zip vals) m n=some v
 | [],_,_,_,_,_,_,h,_,_=>by simp at h
 | _::_,[],_,_,_,_,_,_,h,_=>by simp at h
 | a::names,b::vals,m,0,n,v,hd,h1,h2,hk=>by
  simp at h1 h2;subst h1;subst h2
  rw [List.zip_cons_cons]
  unfold bindC
  rw [bindC_other (List.nodup_cons.mp hd).1,if_neg hk,if_pos rfl]
 | a::names,b::vals,m,i+1,n,v,hd,h1,h2,hk=>by
  simp at h1 h2
  rw [List.zip_cons_cons]
  unfold bindC
  exact bindC_get (List.nodup_cons.mp hd).2 h1 h2 hk
theorem cellsFrom_has:∀ (names:List (Str×NameKind)) (n:Nat) (acc:List (Str×Addr)) (x:Str),((x,NameKind.cell)∈names∨(acc.lookup x).isSome=true)->((cellsFrom n names acc).lookup x).isSome=true
 | [],_,_,_,h=>by
  rcases h with h | h
  ·cases h
  ·exact h
 | (a,k)::r,n,acc,x,h=>by
  unfold cellsFrom
  split
  ·rename_i hk
   refine cellsFrom_has r _ _ x ?_
   rcases h with h | h
   ·rcases List.mem_cons.mp h with h | h
    ·cases h;right;simp
    ·exact Or.inl h
   ·right
    rw [List.lookup_cons]
    split
    ·rfl
    ·exact h
  ·rename_i hk
   refine cellsFrom_has r _ _ x ?_
   rcases h with h | h
   ·rcases List.mem_cons.mp h with h | h
    ·cases h;simp at hk
    ·exact Or.inl h
   ·exact Or.inr h
theorem nodupB_iff:∀ {l:List Str},Mini.nodupB l=true->l.Nodup
 | [],_=>List.nodup_nil
 | x::l,h=>by
  simp only [Mini.nodupB,Bool.and_eq_true,Bool.not_eq_true'] at h
  exact List.nodup_cons.mpr ⟨by simpa using h.1,nodupB_iff h.2⟩
theorem newEnv_bump {M:Model}{A:Around}{E:Value->Shared->Prop}{s:Shared}{scope:Scope}{globals:Addr}{binds:List (Str×Value)}{qual:Str}{func:Option Addr}{code:Value}{builtins:Addr}{Q:Env->Shared->Prop}
  (hk:scope.kind=.function)
  (hkind:∀ x∈binds,scope.names.lookup x.1=some .local∨(scope.names.lookup x.1=some .cell/\((cellsFrom (s.heap.objs.size+1) scope.names []).lookup x.1).isSome=true))
  (hQ:∀ env,env=newEnv scope s.heap.objs.size globals (cellsFrom (s.heap.objs.size+1) scope.names []) qual func code none builtins ->
   ∀ s',InCallC s env.locals (bindL env.kindOf binds fun _=>none) env.cells (bindC env.kindOf binds fun _=>none) s'->s.toks<=s'.toks->(∀ n v r,binds=(n,v)::r->scope.names.lookup n=some .local->s.toks<s'.toks)->Q env s') :
  wpAny M A (newFunctionEnv scope globals [] binds qual func code none builtins) Q E s:=by
 cases binds with
 | nil=>exact free (wpAny_newFunctionEnv_cells hk hkind fun env he s' W ht=>hQ env he s' W ht fun _ _ _ e=>by cases e)
 | cons b r =>
  obtain ⟨n,v⟩:=b
  by_cases hl:scope.names.lookup n=some .local
  ·refine free ?_
   simp only [newFunctionEnv,Option.isSome_none,Bool.false_eq_true,if_false]
   refine wpAny_bind (wpAny_alloc ?_)
   refine wpAny_bind (wpAny_layCells _ (fun name kind cells=>by cases hkc:kind==NameKind.cell<;>simp [hkc]) _ _ _ _ ?_)
   have ok:=cellsFrom_ok scope.names (s.heap.push { cls:=.type "frame",data:=.dict #[] }) (s.heap.objs.size+1) [] ⟨fun _ _ hm=>(nomatch hm),List.Pairwise.nil⟩ (by rw [Heap.size_push];exact Nat.le_refl _)
   rw [Heap.size_push] at ok
   rw [show ({ s with heap:=s.heap.push { cls:=.type "frame",data:=.dict #[] } }:Shared).heap.objs.size=s.heap.objs.size+1 from Heap.size_push ..]
   rw [List.forIn_cons]
   generalize hE:newEnv scope s.heap.objs.size globals (cellsFrom (s.heap.objs.size+1) scope.names []) qual func code none builtins=env at hQ
   have hEk:env.scope=scope:=by rw [<- hE];rfl
   have hEl:env.locals=s.heap.objs.size:=by rw [<- hE];rfl
   have hEc:env.cells=cellsFrom (s.heap.objs.size+1) scope.names []:=by rw [<- hE];rfl
   have x:InCallC s env.locals (fun _=>none) env.cells (fun _=>none) { s with heap:=pushCells (s.heap.push { cls:=.type "frame",data:=.dict #[] }) scope.names }:=by
    rw [hEl,hEc]
    exact ⟨⟨⟨_,_,rfl⟩,(Heap.Ns.new s.heap (.type "frame")).keeps (pushCells_keeps _ _),fun b o e=>pushCells_keeps _ _ b o (Heap.get?_push_of_some _ e),Nat.le_refl _⟩,
     fun n c hc=>(ok.empty n c (mem_of_lookup hc)).1,ok.apart,fun n c hm=>(ok.empty n c hm).2⟩
   have hkl:env.kindOf n=some .local:=by show env.scope.names.lookup n=_;rw [hEk];exact hl
   show wpAny M A ((do storeName (newEnv scope s.heap.objs.size globals (cellsFrom (s.heap.objs.size+1) scope.names []) qual func code none builtins) n v;pure (ForInStep.yield PUnit.unit)) >>= _ >>= _) _ _ _
   rw [hE]
   refine wpAny_bind (wpAny_bind (wpAny_bind (wpAny_storeName_local hkl x.toInCall.ns (fun h' hn' hs'=>wpAny_pure ?_) (by rw [hEk,hk];rfl))))
   have x':InCallC s env.locals (fun y=>if y=n then some v else none) env.cells (fun _=>none) { s with heap:=h',toks:=s.toks+1 } :=
    ⟨⟨⟨h',_,rfl⟩,hn',fun b o e=>hs'.extBut b o (Nat.ne_of_lt (Nat.lt_of_lt_of_le (Heap.lt_size e) x.toInCall.fresh)) (x.toInCall.keep b o e),x.toInCall.fresh⟩,
     fun k c hc=>(x.cell k c hc).sameBut hs' (Nat.ne_of_gt (x.above k c (mem_of_lookup hc))),x.apart,x.above⟩
   refine free (wpAny_bindParams (s₀:=s) (env:=env) _ (fun _ _ _=>by rw [<- hE];rfl) (by rw [hEk];exact hk) r _ _ _ _ x' (fun y hy=>?_) fun s'' x'' ht=>wpAny_pure fun ht'=>?_)
   ·have:=hkind y (List.mem_cons_of_mem _ hy)
    show env.scope.names.lookup y.1=_∨(env.scope.names.lookup y.1=_/\_)
    rw [hEk,hEc];exact this
   ·have hq:=hQ env rfl s'' (by unfold bindL bindC;rw [if_pos hkl,if_pos hkl];exact x'') ht' fun _ _ _ _ _=>ht
    rw [<- hE] at hq
    exact hq
  ·exact free (wpAny_newFunctionEnv_cells hk hkind fun env he s' W ht=>hQ env he s' W ht fun n' v' r' e hl'=>by cases e;exact absurd hl' hl)
noncomputable def withLits (X:Cx) (ls:List Nat):Cx:={ X with gl:={ X.gl with lits:=ls } }
theorem Gnd.lits (G:Gnd X) (ls:List Nat):Gnd (withLits X ls):=⟨G.g,G.b,G.nolimit,G.globs,G.fns,G.bf,G.bt⟩
theorem call_ok:∀ (n:Nat) (X:Cx) (A:Around),Gnd X->A.handled=none->A.depth+n<=recursionLimit->A.units+3 * n+106<cLine->CallOk X A (Mini.callN X.P n)
 | 0,X,A,G,hh,hd,hu=>fun f ls fa vs Q H φ s xs K EX hls hm hC=>by
  exact False.elim hC
 | n+1,X,A,G,hh,hd,hu=>fun f ls fa vs Q H φ s xs K EX hls hm hC O rs hpos hlit k=>by
  obtain ⟨fn,fa',o,params,body,scope,pm,cd,doc,hP,hfl,hm',ho,hdt,hcd,hck⟩:=G.fns f ls hls
  rw [hm] at hm';cases hm'
  replace hC:(match X.P f with | some fn=>_ | none=>_):=hC
  rw [hP] at hC
  obtain ⟨hlen,hw⟩:=hC
  unfold Mini.chkFn at hck
  simp only [Bool.and_eq_true,List.isEmpty_iff,Option.isNone_iff_eq_none,decide_eq_true_eq,beq_iff_eq,List.all_eq_true] at hck
  obtain ⟨⟨⟨⟨⟨⟨⟨⟨⟨⟨⟨⟨⟨c1,c2⟩,c3⟩,c4⟩,c5⟩,c6⟩,c7⟩,c8⟩,c9⟩,c10⟩,c11⟩,c12⟩,c14⟩,c13⟩:=hck
  unfold Mini.kindOk at c1
  simp only [Bool.and_eq_true,beq_iff_eq,Bool.not_eq_true',List.all_eq_true,bne_iff_ne] at c1
  obtain ⟨⟨⟨d1,d2⟩,d3⟩,d4⟩:=c1
  have hnd:=nodupB_iff c2
  have hxl:xs.length=fn.params:=by rw [<- rs.length,hlen]
  have hpl:params.args.length=xs.length:=by
   have:=congrArg List.length c10
   simp at this
   lia
  have hndA:(params.args.map (·.arg)).Nodup:=by
   rw [c10,List.map_take]
   exact hnd.sublist (List.take_sublist _ _)
  have hbind:=bind_zip (name:=Str.ofString f) (body:=body) (scope:=scope) (pm:=pm) (cd:=cd) (doc:=doc) c4 c5 c6 c7 hpl hndA
  have ho':=O.base _ _ ho
  have hcd':s.heap.CodeRec cd (Str.ofString f):=hcd.keeps O.base
  have hlim':s.heap.NoLimit:=G.nolimit.keeps O.base
  refine wpAny_call ?_
  refine codeAny_call_function (by lia) ho' hdt d3 d2 rfl hcd' ?_
  rw [hbind]
  have hroom:=O.room
  have hkindA:∀ x∈(params.args.map (·.arg)).zip xs,scope.names.lookup x.1=some .local∨(scope.names.lookup x.1=some .cell/\((cellsFrom (s.heap.objs.size+1) scope.names []).lookup x.1).isSome=true):=fun x hx=>by
   have hx1:=(List.of_mem_zip (a:=x.1) (b:=x.2) hx).1
   obtain ⟨ar,har,e⟩:=List.mem_map.mp hx1
   have:=c11 ar har
   simp only [Bool.or_eq_true,beq_iff_eq] at this
   rw [<- e]
   rcases this with q | q
   ·exact Or.inl q
   ·exact Or.inr ⟨q,cellsFrom_has _ _ _ _ (Or.inl (mem_of_lookup q))⟩
  refine wpAny_pure (newEnv_bump d1 hkindA fun env he s₁ W htk hbump=>?_)
  have hpos1:X.gl.pos=true->0<s₁.toks:=fun hp=>by
   rcases hpos hp with q | ⟨fn',e1,e2⟩
   ·exact Nat.lt_of_lt_of_le q htk
   ·rw [hP] at e1;cases e1
    rw [e2] at c14
    simp only [Bool.not_true,Bool.false_or] at c14
    unfold Mini.firstLoc at c14
    cases ha:params.args with
    | nil=>rw [ha] at c14;cases c14
    | cons a0 r0 =>
     rw [ha] at c14
     have c14:scope.names.lookup a0.arg=some .local:=by simpa using c14
     cases hx:xs with
     | nil=>rw [hx,ha] at hpl;simp at hpl
     | cons x0 xr =>
      exact Nat.lt_of_le_of_lt (Nat.zero_le _) (hbump a0.arg x0 ((r0.map (·.arg)).zip xr) (by rw [ha,hx];rfl) c14)
  refine ⟨hlim'.keeps W.toInCall.keep,codeAny_func ?_⟩
  have eL:env.locals=s.heap.objs.size:=by rw [he];rfl
  have eS:env.scope=scope:=by rw [he];rfl
  have eC:env.cells=cellsFrom (s.heap.objs.size+1) scope.names []:=by rw [he];rfl
  have eG:env.globals=mainGlobals:=by rw [he];rfl
  have eB:env.builtins=builtinsNs:=by rw [he];rfl
  have hz1:s.heap.objs.size<=s₁.heap.objs.size:=Nat.le_of_lt (by have:=W.toInCall.ns.lt;rw [eL] at this;exact this)
  obtain ⟨h1,tk1,e1⟩:=W.toInCall.same
  have F1:Fwd X.h₀ φ s φ H s₁:=by
   rw [e1]
   exact Fwd.ext O (fun b o e=>by have:=W.toInCall.keep b o e;rwa [e1] at this) (by rw [e1] at hz1;exact hz1) (by rw [e1] at htk;exact htk)
  have rs1:=F1.vals O rs
  have kindEq:∀ x,env.kindOf x=scope.names.lookup x:=fun x=>by show env.scope.names.lookup x=_;rw [eS]
  have argAt:∀ (i:Nat) (x:Str),(fn.names.map Str.ofString)[i]? = some x->i<fn.params->(params.args.map (·.arg))[i]? = some x:=fun i x hx hi=>by
   rw [c10,List.map_take,List.getElem?_take,if_pos hi];exact hx
  have frameAt:∀ i,i<fn.params->∃ v,vs[i]? = some v/\((Mini.frame fn vs)[i]?).getD none=some v:=fun i hi=>by
   have hi':i<vs.length:=by lia
   refine ⟨vs[i],List.getElem?_eq_getElem hi',?_⟩
   unfold Mini.frame
   rw [List.getElem?_append_left (by simpa using hi')]
   simp [hi']
  have frameOff:∀ (i:Nat) (x:Str),(fn.names.map Str.ofString)[i]? = some x->¬ i<fn.params->((Mini.frame fn vs)[i]?).getD none=none:=fun i x hx hi=>by
   unfold Mini.frame
   rw [List.getElem?_append_right (by simp;lia)]
   rw [List.getElem?_replicate]
   split<;>rfl
  have L1:EnvOk (withLits X fn.lits) φ (fn.names.map Str.ofString) env (Mini.frame fn vs) s₁:=by
   refine ⟨by rw [eS];exact d1,eG,eB,?_,hnd,hpos1,⟨_,W.toInCall.ns,fun i x hx hk=>?_⟩,fun i x hx hk=>?_,?_,fun x c hc=>?_,fun x c hc=>⟨_,W.cell x c hc⟩,fun x y c hx hy=>?_⟩
   ·unfold Mini.frame;simp;lia
   ·by_cases hi:i<fn.params
    ·obtain ⟨v,hv,hfr⟩:=frameAt i hi
     obtain ⟨y,hy,ry⟩:=rs1.get hv
     have hb:=bindL_get (kindOf:=env.kindOf) (m:=fun _=>none) hndA (argAt i x hx hi) hy hk
     rw [hfr,hb]
     exact ⟨⟨y,rfl,ry⟩,fun hil z hz=>by
      cases hz
      obtain ⟨l,t,e,p1,p2⟩:=hlit i (hfl▸hil) y hy
      exact ⟨l,t,e,p1,Nat.lt_of_lt_of_le p2 htk⟩⟩
    ·rw [frameOff i x hx hi]
     refine ⟨trivial,fun hil=>?_⟩
     exact absurd (c12 i hil) hi
   ·have hk':env.kindOf x=some .cell:=by
     rcases hk with hk | hk
     ·exact hk
     ·rw [kindEq] at hk
      exact absurd rfl (d4 _ (mem_of_lookup hk))
    have hcm:(x,NameKind.cell)∈scope.names:=by rw [kindEq] at hk';exact mem_of_lookup hk'
    obtain ⟨c,hc⟩:=Option.isSome_iff_exists.mp (cellsFrom_has scope.names (s.heap.objs.size+1) [] x (Or.inl hcm))
    rw [<- eC] at hc
    refine ⟨c,_,hc,W.cell x c hc,?_⟩
    by_cases hi:i<fn.params
    ·obtain ⟨v,hv,hfr⟩:=frameAt i hi
     obtain ⟨y,hy,ry⟩:=rs1.get hv
     have hb:=bindC_get (kindOf:=env.kindOf) (m:=fun _=>none) hndA (argAt i x hx hi) hy (by rw [hk'];simp)
     rw [hfr,hb]
     exact ⟨⟨y,rfl,ry⟩,fun hil z hz=>by
      cases hz
      obtain ⟨l,t,e,p1,p2⟩:=hlit i (hfl▸hil) y hy
      exact ⟨l,t,e,p1,Nat.lt_of_lt_of_le p2 htk⟩⟩
    ·rw [frameOff i x hx hi]
     refine ⟨trivial,fun hil=>?_⟩
     exact absurd (c12 i hil) hi
   ·rw [eL];exact hroom
   ·have:=W.above x c (mem_of_lookup hc)
    rw [eL] at this
    exact Nat.le_trans hroom (Nat.le_of_lt this)
   ·exact name_of_addr W.apart (mem_of_lookup hx) (mem_of_lookup hy)
  have hCn:=call_ok n (withLits X fn.lits) (A.deeper env) (G.lits _) hh (by show A.depth+1+n<=_;lia) (by show A.units+3+3 * n+106<_;lia)
  refine all_Ss (X:=withLits X fn.lits) (A:=A.deeper env) (C:=Mini.callN X.P n) (G.lits _) hh (by show A.units+3+106<_;lia) hCn fn.body body env _ _ _ H φ s₁ _ _ (by rw [eS];exact c13) L1 F1.ok hw fun fl ρ' H' φ' ff s' q F2 L2 r=>?_
  have own:∀ b,b<s.heap.objs.size->¬ Own env b:=fun b hb hown=>by
   rcases hown with rfl | ⟨x,hx⟩
   ·rw [eL] at hb;exact Nat.lt_irrefl _ hb
   ·have:=W.above x b (mem_of_lookup hx)
    rw [eL] at this
    exact absurd hb (Nat.not_lt.mpr (Nat.le_of_lt this))
  have FF:Fwd X.h₀ φ s φ' H' s':=by
   obtain ⟨⟨h2,t2,e2⟩,k2,z2,w2,⟨ψ,g2,m2⟩,o2⟩:=F2
   refine ⟨⟨⟨h2,t2,by rw [e2,e1]⟩,fun b o hb e=>k2 b o hb (own b (Heap.lt_size e)) (W.toInCall.keep b o e),Nat.le_trans hz1 z2,Nat.le_trans htk w2⟩,⟨ψ,g2,fun a ha=>Nat.le_trans hz1 (m2 a ha)⟩,o2⟩
  cases fl with
  | next=>obtain rfl:=r;exact k _ _ _ _ _ q FF (by unfold VRel;rfl)
  | cont=>obtain rfl:=r;exact k _ _ _ _ _ q FF (by unfold VRel;rfl)
  | ret v =>
   obtain ⟨x,rfl,rx⟩:=r
   exact k _ _ _ _ _ q FF rx
end
end MiniS
namespace MiniS
open PySem PySem.Calls PyProof.Rows PySem.W
open Mini (V D)
noncomputable def fnChk (p:Program) (gl:Mini.Gl) (P:List (String×Mini.Fn)) (x:String×List Nat):Bool:=match P.lookup x.1 with
 | some fn=>fn.lits==x.2&&(recsOf p).any fun d=>d.name==Str.ofString x.1&&Mini.chkFn gl fn d.params d.body d.scope
 | none=>false
noncomputable def intChk (p:Program) (x:String×Int):Bool:=match valOf p (Str.ofString x.1) with
 | some (.int i)=>i==x.2
 | _=>false
noncomputable def freeChk (p:Program) (loose:List Str) (x:Str):Bool :=
 !startupNames.contains x&&!loose.contains x&&!((recsOf p).map (·.name)).contains x&&!((litsOf p).map (·.1)).contains x&&!((clssOf p loose).map (·.name)).contains x
noncomputable def groundChk (p:Program) (loose:List Str) (gl:Mini.Gl) (P:List (String×Mini.Fn)):Bool :=
 gl.fns.all (fnChk p gl P)&&gl.intL.all (intChk p)&&(bltFns++bltTys).all fun n=>freeChk p loose (Str.ofString n)
theorem mem_of_lookupS {α:Type}:∀ {l:List (String×α)}{n:String}{c:α},l.lookup n=some c->(n,c)∈l
 | (k,v)::r,n,c,h=>by
  rw [List.lookup_cons] at h
  cases hb:n==k with
  | true=>rw [hb] at h;cases h;rw [beq_iff_eq.mp hb];exact List.mem_cons_self
  | false=>rw [hb] at h;exact List.mem_cons_of_mem _ (mem_of_lookupS h)
theorem gnd_of_top {prog p:Program}{w:World}{loose:List Str}{mean:ExcName->Option Value}{mg mb:Str->Option Value}{h:Heap}{gl:Mini.Gl}{P:List (String×Mini.Fn)}
  (T:Top p loose mean mg mb h) (hc:groundChk p loose gl P=true):Gnd ⟨prog,w,h,gl,fun f=>P.lookup f,mg,mb⟩:=by
 unfold groundChk at hc
 simp only [Bool.and_eq_true,List.all_eq_true] at hc
 obtain ⟨⟨h1,h2⟩,h3⟩:=hc
 have hfree:∀ n∈bltFns++bltTys,mg (Str.ofString n)=none:=fun n hn=>by
  have:=h3 n hn
  unfold freeChk at this
  simp only [Bool.and_eq_true,Bool.not_eq_true'] at this
  obtain ⟨⟨⟨⟨a1,a2⟩,a3⟩,a4⟩,a5⟩:=this
  exact T.free _ (by simpa using a1) (by simpa using a2) (by simpa using a3) (by simpa using a4) (by simpa using a5)
 refine ⟨T.g,T.b,T.nolimit,fun g i hm=>?_,fun f ls hf=>?_,fun n hn=>⟨hfree n (List.mem_append_left _ hn),?_⟩,fun n hn=>⟨hfree n (List.mem_append_right _ hn),?_⟩⟩
 ·have:=h2 _ hm
  unfold intChk at this
  split at this
  ·rename_i i' e
   have ei:i'=i:=by simpa using this
   subst ei
   obtain ⟨v,hv,hr⟩:=T.const _ _ e
   cases hr default
   exact ⟨_,hv⟩
  ·cases this
 ·have:=h1 _ (mem_of_lookupS hf)
  unfold fnChk at this
  split at this
  ·rename_i fn e
   simp only [Bool.and_eq_true,beq_iff_eq,List.any_eq_true] at this
   obtain ⟨hl,d,hd,hn,hck⟩:=this
   obtain ⟨a,o,pm,code,doc,q1,q2,q3,q4⟩:=T.fn d hd
   rw [hn] at q1 q3 q4
   exact ⟨fn,a,o,d.params,d.body,d.scope,pm,code,doc,e,hl,q1,q2,q3,q4,hck⟩
  ·cases this
 ·show mb (Str.ofString n)=_
  rw [T.builtins (Str.ofString n) (by
   simp only [bltFns,List.mem_cons,List.not_mem_nil,or_false] at hn
   rcases hn with rfl | rfl | rfl<;>decide +kernel)]
  simp only [bltFns,List.mem_cons,List.not_mem_nil,or_false] at hn
  rcases hn with rfl | rfl | rfl<;>decide +kernel
 ·show mb (Str.ofString n)=_
  rw [T.builtins (Str.ofString n) (by
   simp only [bltTys,List.mem_cons,List.not_mem_nil,or_false] at hn
   rcases hn with rfl | rfl | rfl | rfl | rfl | rfl | rfl<;>decide +kernel)]
  simp only [bltTys,List.mem_cons,List.not_mem_nil,or_false] at hn
  rcases hn with rfl | rfl | rfl | rfl | rfl | rfl | rfl<;>decide +kernel
theorem items_ints {R:WRecords}:∀ {xs:List WData},WShape.hasItems R xs .int=true->∃ ns:List Int,xs=ns.map WData.int
 | [],_=>⟨[],rfl⟩
 | x::xs,h=>by
  simp only [WShape.hasItems,Bool.and_eq_true] at h
  obtain ⟨ns,rfl⟩:=items_ints h.2
  obtain ⟨i,rfl⟩:∃ i,x=.int i:=by
   cases x<;>first | exact ⟨_,rfl⟩ | exact absurd (show false=true from h.1) (by decide)
  exact ⟨i::ns,rfl⟩
theorem law_args {l:OpenLaw}(hm:l.most=some 63) {args:List WData}(hpre:l.row.claim.pre args=true):∃ ns:List Int,args=[.list (ns.map WData.int)]/\ns.length<=63:=by
 obtain ⟨h1,h2⟩:=pre_splitW hpre
 obtain ⟨d,r,rfl,hd,hr⟩:=hasAllW_cons h1
 obtain rfl:=hasAllW_nil hr
 replace hd:∃ xs,d=.list xs/\WShape.hasItems l.row.records xs .int=true:=by
  cases d<;>first | exact absurd (show false=true from hd) (by decide) | exact ⟨_,rfl,(Bool.or_false _).symm.trans hd⟩
 obtain ⟨xs,rfl,hd⟩:=hd
 obtain ⟨ns,rfl⟩:=items_ints hd
 refine ⟨ns,rfl,?_⟩
 have h2:(l.pre).holds [] { args:=[.list (ns.map WData.int)] }=true:=h2
 unfold OpenLaw.pre at h2
 rw [hm] at h2
 by_cases hlt:ns.length<=63
 ·exact hlt
 ·exfalso
  have e:decide ((63:Int)<((ns.map WData.int).length:Int))=true:=by simp;lia
  replace h2:=(holds_andW h2).1
  have e3:WTm.value [] (.not (.lt (.lit (.int (63:Nat))) (.len (.arg 0)))) { args:=[.list (ns.map WData.int)] }=some (WData.bool (!(decide ((63:Int)<((ns.map WData.int).length:Int))))):=rfl
  rw [e] at e3
  have e4:WTm.holds [] (.not (.lt (.lit (.int (63:Nat))) (.len (.arg 0)))) { args:=[.list (ns.map WData.int)] }=false:=by
   unfold WTm.holds
   rw [e3]
   rfl
  exact absurd (e4.symm.trans h2) (by decide)
theorem reads_ints {R:WRecords}{cl:Str->Option Addr}{h:Heap}:∀ {ns:List Int}{vs:List Value}{as:List Addr},ReadsAllW R cl h vs (ns.map WData.int) as->IntsOf ns vs
 | [],_,_,H=>by cases H;trivial
 | i::ns,_,_,H=>by
  cases H with
  | cons h1 h2 =>
   cases h1
   exact ⟨⟨_,rfl⟩,reads_ints h2⟩
theorem law_post {l:OpenLaw}{args ds:List WData}:l.row.claim.post args (.bool true) ds=true:=by kernel_rfl
theorem law_call {l:OpenLaw}(hmost:l.most=some 63) {p:Program}{loose:List Str}{w:World}{s₀ s₁:Shared}{mg mb:Str->Option Value}{fa:Addr}{args:List WData}{vals:List Value}{as:List Addr}
  (T:Top p loose (ExcName.means s₀.heap) mg mb s₁.heap) (hg:s₁.gens=#[]) (hmg:mg (Str.ofString "law")=some (.ref fa)) (hpre:l.row.claim.pre args=true) (hrd:ReadsAllW l.row.records (classAt s₀.heap) s₁.heap vals args as)
  (gl:Mini.Gl) (P:List (String×Mini.Fn)) (n:Nat) (hn:n<=600) (hc:groundChk p loose gl P=true) (hl:gl.fns.lookup "law" = some []) (hb:gl.pos=true->∃ fn,P.lookup "law" = some fn/\fn.bump=true)
  (hlaw:∀ ns:List Int,ns.length<=63->Mini.callN (fun f=>P.lookup f) n "law" [.frz ns] (fun v _=>v=.bool true) []) :
  wpAny (model l.row.prog w) callerA (call (.ref fa) vals)
   (fun v s'=>GoodWG l.row.claim (classAt s₀.heap) (ExcName.means s₀.heap) args s₁ (Except.ok (Flow.ret v)) s')
   (fun e s'=>GoodWG l.row.claim (classAt s₀.heap) (ExcName.means s₀.heap) args s₁ (Except.error e) s') s₁:=by
 have G:=gnd_of_top (prog:=l.row.prog) (w:=w) T hc
 obtain ⟨ns,rfl,hns⟩:=law_args hmost hpre
 have hlim:Mini.lim=16777216:=rfl
 cases hrd with
 | cons h1 h2 =>
  cases h2
  cases h1 with
  | list ho hcls hd hi =>
   have hi:=reads_ints hi
   refine call_ok n ⟨l.row.prog,w,s₁.heap,gl,fun f=>P.lookup f,mg,mb⟩ callerA G rfl ?_ ?_ "law" [] fa [.frz ns] _ [] [] s₁ _ _ _ hl hmg (hlaw ns hns) ?_ (VRels.one ?_) (fun hp=>Or.inr (hb hp)) (fun j hj=>by cases hj) fun v H' φ' x s' q F r=>?_
   ·have e1:callerA.depth=301:=rfl
    have e2:recursionLimit=1000:=rfl
    lia
   ·have e1:callerA.units=4:=rfl
    have e2:cLine=9900:=rfl
    lia
   ·exact ⟨fun _ _ e=>e,rfl,List.nodup_nil,fun a ha=>(by cases ha),fun l hl=>(by cases hl),Nat.le_refl _,fun i a l hi=>(by simp at hi)⟩
   ·unfold VRel
    exact ⟨by lia,_,_,rfl,⟨_,ho,hcls,_,by simpa using hd⟩,hi⟩
   ·subst q
    obtain rfl:=vrel_bool r
    obtain ⟨h',tk,e⟩:=F.step.same
    refine ⟨Or.inl ⟨.bool true,.bool true,[],rfl,fun _=>rfl,.bool true,?_,fun _=>⟨List.nodup_nil,fun a ha=>(by cases ha)⟩⟩,.of_keep fun b o e=>F.step.keep b o (fun hm=>by cases hm) e,by rw [e],.of_eq (by rw [e];exact hg)⟩
    exact law_post
end MiniS
namespace Mini
theorem whileN_rule {test:Env->PostV->Heap->Prop}{body:Env->PostS->Heap->Prop}{Q:PostS}(I:Nat->Env->Heap->Prop)
  (step:∀ k ρ H,I k ρ H->∀ K:Env->Heap->Prop,(∀ k' ρ' H',k'<k->I k' ρ' H'->K ρ' H')->test ρ (fun v H₁=>boo (truthV v) (fun b H₁=>match b with
   | true=>body ρ (fun fl ρ' H₂=>match fl with
    | .ret v=>Q (.ret v) ρ' H₂
    | _=>K ρ' H₂) H₁
   | false=>Q .next ρ H₁) H₁) H):∀ (n k:Nat) (ρ:Env) (H:Heap),k<n->I k ρ H->whileN test body n ρ Q H
 | 0,k,_,_,h,_=>by lia
 | n+1,k,ρ,H,h,hI=>by
  exact step k ρ H hI (fun ρ' H'=>whileN test body n ρ' Q H') fun k' ρ' H' hk hI'=>whileN_rule I step n k' ρ' H' (by lia) hI'
theorem whl_rule {C:Calls}{c:E}{b:List S}{Q:PostS}(I:Nat->Env->Heap->Prop)
  (step:∀ k ρ H,I k ρ H->∀ K:Env->Heap->Prop,(∀ k' ρ' H',k'<k->I k' ρ' H'->K ρ' H')->wpE C c ρ (fun v H₁=>boo (truthV v) (fun b' H₁=>match b' with
   | true=>wpSs C b ρ (fun fl ρ' H₂=>match fl with
    | .ret v=>Q (.ret v) ρ' H₂
    | _=>K ρ' H₂) H₁
   | false=>Q .next ρ H₁) H₁) H) (k:Nat) {ρ:Env}{H:Heap}(h:I k ρ H):wpS C (.whl c b) ρ Q H:=by
 exact ⟨k+1,whileN_rule I step (k+1) k ρ H (Nat.lt_succ_self _) h⟩
theorem forN_rule {body:Env->PostS->Heap->Prop}{x:Nat}{it:It}{Q:PostS}(len:Nat) (I:Nat->Env->Heap->Prop)
  (bound:∀ i ρ H v,I i ρ H->it.at H i=some v->i<len)
  (step:∀ i ρ H v,I i ρ H->it.at H i=some v->∀ K:Env->Heap->Prop,(∀ ρ' H',I (i+1) ρ' H'->K ρ' H')->body (ρ.set x (some v)) (fun fl ρ' H₂=>match fl with
    | .ret v=>Q (.ret v) ρ' H₂
    | _=>K ρ' H₂) H)
  (fin:∀ i ρ H,I i ρ H->it.at H i=none->Q .next ρ H):∀ (n i:Nat) (ρ:Env) (H:Heap),len<n+i->I i ρ H->i<=len->forN body x it n i ρ Q H
 | 0,i,_,_,h,_,hi=>by lia
 | n+1,i,ρ,H,h,hI,hi=>by
  show (match it.at H i with | none=>_ | some v=>_)
  cases e:it.at H i with
  | none=>exact fin i ρ H hI e
  | some v =>
   have hlt:=bound i ρ H v hI e
   exact step i ρ H v hI e (fun ρ' H'=>forN body x it n (i+1) ρ' Q H') fun ρ' H' hI'=>forN_rule len I bound step fin n (i+1) ρ' H' (by lia) hI' hlt
theorem for_fix {body:Env->PostS->Heap->Prop}{x:Nat}{vs:List V}{Q:PostS}(I:Nat->Env->Heap->Prop)
  (step:∀ i ρ H v,vs[i]? = some v->I i ρ H->∀ K:Env->Heap->Prop,(∀ ρ' H',I (i+1) ρ' H'->K ρ' H')->body (ρ.set x (some v)) (fun fl ρ' H₂=>match fl with
    | .ret v=>Q (.ret v) ρ' H₂
    | _=>K ρ' H₂) H)
  (fin:∀ ρ H,I vs.length ρ H->Q .next ρ H) {ρ:Env}{H:Heap}(h0:I 0 ρ H):∃ n,forN body x (.fix vs) n 0 ρ Q H :=
 ⟨vs.length+1,forN_rule (it:=.fix vs) vs.length (fun i ρ H=>i<=vs.length/\I i ρ H) (fun i ρ H v _ e=>(List.getElem?_eq_some_iff.mp e).1)
  (fun i ρ H v hI e K hK=>step i ρ H v e hI.2 K fun ρ' H' h'=>hK ρ' H' ⟨(List.getElem?_eq_some_iff.mp e).1,h'⟩)
  (fun i ρ H hI e=>fin ρ H (by
   have:vs.length<=i:=List.getElem?_eq_none_iff.mp e
   have:i=vs.length:=by lia
   subst this;exact hI.2)) _ 0 ρ H (by lia) ⟨Nat.zero_le _,h0⟩ (Nat.zero_le _)⟩
theorem for_lst {body:Env->PostS->Heap->Prop}{x a:Nat}{l:List V}{Q:PostS}(I:Nat->Env->Heap->Prop) (hl:∀ i ρ H,I i ρ H->H[a]? = some l)
  (step:∀ i ρ H v,l[i]? = some v->I i ρ H->∀ K:Env->Heap->Prop,(∀ ρ' H',I (i+1) ρ' H'->K ρ' H')->body (ρ.set x (some v)) (fun fl ρ' H₂=>match fl with
    | .ret v=>Q (.ret v) ρ' H₂
    | _=>K ρ' H₂) H)
  (fin:∀ ρ H,I l.length ρ H->Q .next ρ H) {ρ:Env}{H:Heap}(h0:I 0 ρ H):∃ n,forN body x (.lst a) n 0 ρ Q H:=by
 have at_eq:∀ i ρ H,I i ρ H->(It.lst a).at H i=l[i]?:=fun i ρ H h=>by
  unfold It.at;simp only [hl i ρ H h]
 exact ⟨l.length+1,forN_rule l.length (fun i ρ H=>i<=l.length/\I i ρ H) (fun i ρ H v h e=>by rw [at_eq i ρ H h.2] at e;exact (List.getElem?_eq_some_iff.mp e).1)
  (fun i ρ H v hI e K hK=>by
   rw [at_eq i ρ H hI.2] at e
   exact step i ρ H v e hI.2 K fun ρ' H' h'=>hK ρ' H' ⟨(List.getElem?_eq_some_iff.mp e).1,h'⟩)
  (fun i ρ H hI e=>fin ρ H (by
   rw [at_eq i ρ H hI.2] at e
   have:l.length<=i:=List.getElem?_eq_none_iff.mp e
   have:i=l.length:=by lia
   subst this;exact hI.2)) _ 0 ρ H (by lia) ⟨Nat.zero_le _,h0⟩ (Nat.zero_le _)⟩
theorem comp_go {test:Env->(Bool->Heap->Prop)->Heap->Prop}{elt:Env->PostV->Heap->Prop}{x:Nat}{ρ:Env}{it:It}{H:Heap}{Q:List V->Heap->Prop}(vs:List V) (p:V->Bool) (f:V->V)
  (hat:∀ i,it.at H i=vs[i]?) (hlen:vs.length<=lim)
  (ht:∀ v∈vs,∀ K:Bool->Heap->Prop,K (p v) H->test (ρ.set x (some v)) K H)
  (he:∀ v∈vs,p v=true->∀ K:PostV,K (f v) H->elt (ρ.set x (some v)) K H) (h:Q ((vs.filter p).map f) H) :
  ∀ (n i:Nat) (acc:List V),vs.length<n+i->i<=vs.length->acc=((vs.take i).filter p).map f->compN test elt x ρ it n i acc Q H
 | 0,i,_,h,hi,_=>by lia
 | n+1,i,acc,hn,hi,hacc=>by
  show (match it.at H i with | none=>_ | some v=>_)
  rw [hat]
  cases e:vs[i]? with
  | none =>
   have:vs.length<=i:=List.getElem?_eq_none_iff.mp e
   have:i=vs.length:=by lia
   subst this
   rw [List.take_length] at hacc
   simp only [hacc];exact h
  | some v =>
   have hlt:=(List.getElem?_eq_some_iff.mp e).1
   have hm:v∈vs:=List.mem_of_getElem? e
   have htk:vs.take (i+1)=vs.take i++[v]:=by rw [List.take_add_one,e];rfl
   refine ht v hm _ ?_
   cases hp:p v with
   | false =>
    simp only
    exact comp_go vs p f hat hlen ht he h n (i+1) acc (by lia) hlt (by rw [hacc,htk];simp [hp])
   | true =>
    simp only
    refine he v hm hp _ ⟨?_,comp_go vs p f hat hlen ht he h n (i+1) _ (by lia) hlt (by rw [hacc,htk];simp [hp])⟩
    rw [hacc,List.length_map]
    have:=List.length_filter_le p (vs.take i)
    have h2:(vs.take i).length=i:=by rw [List.length_take];lia
    lia
theorem comp_map {C:Calls}{elt:E}{x:Nat}{ρ:Env}{it:It}{H:Heap}{Q:List V->Heap->Prop}(vs:List V) (f:V->V)
  (hat:∀ i,it.at H i=vs[i]?) (hlen:vs.length<=lim)
  (he:∀ v∈vs,∀ K:PostV,K (f v) H->wpE C elt (ρ.set x (some v)) K H) (h:Q (vs.map f) H):∃ n,compN (wpTest C []) (wpE C elt) x ρ it n 0 [] Q H :=
 ⟨vs.length+1,comp_go vs (fun _=>true) f hat hlen (fun v _ K hK=>hK) (fun v hv _ K hK=>he v hv K hK) (by rw [List.filter_eq_self.mpr (fun _ _=>rfl)];exact h) _ 0 [] (by lia) (Nat.zero_le _) (by simp)⟩
end Mini
namespace Mini
theorem res_mono {r:Res}{Q Q':PostV}(hq:∀ v H,Q v H->Q' v H) (h:res r Q):res r Q':=by
 cases r with
 | some p=>exact hq _ _ h
 | none=>exact h
theorem val_mono {r:Option V}{Q Q':PostV}{H:Heap}(hq:∀ v H,Q v H->Q' v H) (h:val r Q H):val r Q' H:=by
 cases r with
 | some p=>exact hq _ _ h
 | none=>exact h
theorem boo_mono {r:Option Bool}{Q Q':Bool->Heap->Prop}{H:Heap}(hq:∀ v H,Q v H->Q' v H) (h:boo r Q H):boo r Q' H:=by
 cases r with
 | some p=>exact hq _ _ h
 | none=>exact h
theorem hea_mono {r:Option Heap}{Q Q':PostV}(hq:∀ v H,Q v H->Q' v H) (h:hea r Q):hea r Q':=by
 cases r with
 | some p=>exact hq _ _ h
 | none=>exact h
noncomputable def MonoC (C:Calls):Prop:=∀ f vs (Q Q':PostV) H,(∀ v H,Q v H->Q' v H)->C f vs Q H->C f vs Q' H
noncomputable def MonoB {α:Type}(t:(α->Heap->Prop)->Heap->Prop):Prop:=∀ (Q Q':α->Heap->Prop) H,(∀ v H,Q v H->Q' v H)->t Q H->t Q' H
theorem compN_mono {test:Env->(Bool->Heap->Prop)->Heap->Prop}{elt:Env->PostV->Heap->Prop}{x:Nat}{ρ:Env}{it:It}(ht:∀ ρ,MonoB (test ρ)) (he:∀ ρ,MonoB (elt ρ)) :
  ∀ (n i:Nat) (acc:List V) {Q Q':List V->Heap->Prop}{H:Heap},(∀ v H,Q v H->Q' v H)->compN test elt x ρ it n i acc Q H->compN test elt x ρ it n i acc Q' H
 | 0,_,_,_,_,_,_,h=>False.elim h
 | n+1,i,acc,Q,Q',H,hq,h=>by
  replace h:(match it.at H i with | none=>_ | some v=>_):=h
  show (match it.at H i with | none=>_ | some v=>_)
  cases e:it.at H i with
  | none=>rw [e] at h;exact hq _ _ h
  | some v =>
   rw [e] at h
   refine ht _ _ _ _ (fun b H1 h1=>?_) h
   cases b with
   | false=>exact compN_mono ht he n _ _ hq h1
   | true=>exact he _ _ _ _ (fun y H2 h2=>⟨h2.1,compN_mono ht he n _ _ hq h2.2⟩) h1
theorem find_mono {s:List Nat}{va vb:V}{Q Q':PostV}{H:Heap}(hq:∀ v H,Q v H->Q' v H) (h:findP s va vb Q H):findP s va vb Q' H:=by
 replace h:=pOne_ok h;obtain ⟨c,rfl,h⟩:=h
 replace h:=pInt_ok h;obtain ⟨i,rfl,h⟩:=h
 exact ⟨h.1,hq _ _ h.2⟩
theorem one_p {v:V}{f:Nat->Prop}(h:match v with | .str [c]=>f c | _=>False):pOne v f:=h
theorem join_mono1 {s:List Nat}{va:V}{Q Q':PostV}{H:Heap}(hq:∀ v H,Q v H->Q' v H) (h:joinP s va Q H):joinP s va Q' H:=by
 cases va with
 | ref a =>
  replace h:(match (H[a]?).bind strL with | some l=>_ | none=>False):=h
  show (match (H[a]?).bind strL with | some l=>_ | none=>False)
  generalize (H[a]?).bind strL=o at h ⊢
  cases o with
  | none=>exact h
  | some l=>exact ⟨h.1,hq _ _ h.2⟩
 | _=>exact False.elim h
theorem replace_mono {s:List Nat}{va vb:V}{Q Q':PostV}{H:Heap}(hq:∀ v H,Q v H->Q' v H) (h:replaceP s va vb Q H):replaceP s va vb Q' H:=by
 replace h:=pOne_ok h;obtain ⟨c,rfl,h⟩:=h
 replace h:=pOne_ok h;obtain ⟨i,rfl,h⟩:=h
 exact ⟨h.1,h.2.1,hq _ _ h.2.2⟩
mutual
theorem monoE {C:Calls}(hC:MonoC C):∀ (e:E) (ρ:Env),MonoB (wpE C e ρ)
 | .none,ρ=>fun Q Q' H hq h=>hq _ _ h
 | .bool _,ρ=>fun Q Q' H hq h=>hq _ _ h
 | .int _,ρ=>fun Q Q' H hq h=>hq _ _ h
 | .str _,ρ=>fun Q Q' H hq h=>hq _ _ h
 | .var x,ρ=>fun Q Q' H hq h=>by
  replace h:=un_var h
  show (match ρ[x]? with | some (some v)=>Q' v H | _=>False)
  rcases hx:ρ[x]? with _ | _ | v<;>rw [hx] at h
  ·exact h
  ·exact h
  ·exact hq _ _ h
 | .glob _ _,ρ=>fun Q Q' H hq h=>hq _ _ h
 | .bin o l r,ρ=>fun Q Q' H hq h=>by
  replace h:=un_bin h
  exact monoE hC l ρ _ _ _ (fun _ _ h=>monoE hC r ρ _ _ _ (fun _ _ h=>res_mono hq h) h) h
 | .neg _,ρ=>fun Q Q' H hq h=>hq _ _ h
 | .cmp o l r,ρ=>fun Q Q' H hq h=>by
  replace h:=un_cmp h
  exact monoE hC l ρ _ _ _ (fun _ _ h=>monoE hC r ρ _ _ _ (fun _ _ h=>boo_mono (fun _ _ h=>hq _ _ h) h) h) h
 | .cmp2 o p a b c,ρ=>fun Q Q' H hq h=>by
  replace h:=un_cmp2 h
  refine monoE hC a ρ _ _ _ (fun _ _ h=>monoE hC b ρ _ _ _ (fun _ _ h=>boo_mono (fun t _ h=>?_) h) h) h
  cases t with
  | true=>exact monoE hC c ρ _ _ _ (fun _ _ h=>boo_mono (fun _ _ h=>hq _ _ h) h) h
  | false=>exact hq _ _ h
 | .is e c,ρ=>fun Q Q' H hq h=>monoE hC e ρ _ _ _ (fun _ _ h=>hq _ _ h) h
 | .isnot e c,ρ=>fun Q Q' H hq h=>monoE hC e ρ _ _ _ (fun _ _ h=>hq _ _ h) h
 | .and es,ρ=>fun Q Q' H hq h=>monoAnd hC es ρ _ _ _ hq h
 | .or es,ρ=>fun Q Q' H hq h=>monoOr hC es ρ _ _ _ hq h
 | .not e,ρ=>fun Q Q' H hq h=>monoE hC e ρ _ _ _ (fun _ _ h=>boo_mono (fun _ _ h=>hq _ _ h) h) h
 | .idx o i,ρ=>fun Q Q' H hq h=>by
  replace h:=un_idx h
  exact monoE hC o ρ _ _ _ (fun _ _ h=>monoE hC i ρ _ _ _ (fun _ _ h=>val_mono hq h) h) h
 | .slc o l r,ρ=>fun Q Q' H hq h=>by
  replace h:=un_slc h
  refine monoE hC o ρ _ _ _ (fun _ _ h=>monoE hC l ρ _ _ _ (fun v _ h=>monoE hC r ρ _ _ _ (fun w _ h=>?_) h) h) h
  cases v with
  | int a0 =>
   cases w with
   | int b0=>exact res_mono hq h
   | _=>exact False.elim h
  | _=>exact False.elim h
 | .slcL o l,ρ=>fun Q Q' H hq h=>by
  replace h:=un_slcL h
  refine monoE hC o ρ _ _ _ (fun _ _ h=>monoE hC l ρ _ _ _ (fun v _ h=>?_) h) h
  cases v with
  | int a0 =>
   exact res_mono hq h
  | _=>exact False.elim h
 | .slcH o l,ρ=>fun Q Q' H hq h=>by
  replace h:=un_slcH h
  refine monoE hC o ρ _ _ _ (fun _ _ h=>monoE hC l ρ _ _ _ (fun v _ h=>?_) h) h
  cases v with
  | int a0 =>
   exact res_mono hq h
  | _=>exact False.elim h
 | .call f es,ρ=>fun Q Q' H hq h=>monoEs hC es ρ _ _ _ (fun _ _ h=>hC _ _ _ _ _ hq h) h
 | .isinst e t,ρ=>fun Q Q' H hq h=>monoE hC e ρ _ _ _ (fun _ _ h=>hq _ _ h) h
 | .len e,ρ=>fun Q Q' H hq h=>monoE hC e ρ _ _ _ (fun _ _ h=>val_mono hq h) h
 | .toInt e,ρ=>fun Q Q' H hq h=>by
  replace h:=un_toInt h
  refine monoE hC e ρ _ _ _ (fun v _ h=>?_) h
  cases v with
  | bool a0 =>
   exact hq _ _ h
  | _=>exact False.elim h
 | .ord e,ρ=>fun Q Q' H hq h=>monoE hC e ρ _ _ _ (fun v _ h=>by
  replace h:=pOne_ok (f:=fun c=>Q (.int (c:Int)) _) (one_p h);obtain ⟨c,rfl,h⟩:=h
  exact hq _ _ h) (un_ord h)
 | .append o e,ρ=>fun Q Q' H hq h=>by
  replace h:=un_append h
  refine monoE hC o ρ _ _ _ (fun v _ h=>?_) h
  cases v with
  | ref a0 =>
   exact monoE hC e ρ _ _ _ (fun _ _ h=>hea_mono hq h) h
  | _=>exact False.elim h
 | .extend o e,ρ=>fun Q Q' H hq h=>by
  replace h:=un_extend h
  refine monoE hC o ρ _ _ _ (fun v _ h=>?_) h
  cases v with
  | ref a0 =>
   exact monoE hC e ρ _ _ _ (fun _ _ h=>hea_mono hq h) h
  | _=>exact False.elim h
 | .pop o,ρ=>fun Q Q' H hq h=>by
  replace h:=un_pop h
  refine monoE hC o ρ _ _ _ (fun v _ h=>?_) h
  cases v with
  | ref a0 =>
   exact res_mono hq h
  | _=>exact False.elim h
 | .find o a b,ρ=>fun Q Q' H hq h=>by
  replace h:=un_find h
  refine monoE hC o ρ _ _ _ (fun v _ h=>?_) h
  cases v with
  | str a0 =>
   refine monoE hC a ρ _ _ _ (fun _ _ h=>monoE hC b ρ _ _ _ (fun _ _ h=>?_) h) h
   exact find_mono hq h
  | _=>exact False.elim h
 | .replace o a b,ρ=>fun Q Q' H hq h=>by
  replace h:=un_replace h
  refine monoE hC o ρ _ _ _ (fun v _ h=>?_) h
  cases v with
  | str a0 =>
   refine monoE hC a ρ _ _ _ (fun _ _ h=>monoE hC b ρ _ _ _ (fun _ _ h=>?_) h) h
   exact replace_mono hq h
  | _=>exact False.elim h
 | .join o a,ρ=>fun Q Q' H hq h=>by
  replace h:=un_join h
  refine monoE hC o ρ _ _ _ (fun v _ h=>?_) h
  cases v with
  | str a0 =>
   refine monoE hC a ρ _ _ _ (fun _ _ h=>?_) h
   exact join_mono1 hq h
  | _=>exact False.elim h
 | .lstrip o a,ρ=>fun Q Q' H hq h=>by
  replace h:=un_lstrip h
  refine monoE hC o ρ _ _ _ (fun v _ h=>?_) h
  cases v with
  | str a0 =>
   refine monoE hC a ρ _ _ _ (fun _ _ h=>?_) h
   replace h:=pOne_ok h;obtain ⟨c,rfl,h⟩:=h
   exact hq _ _ h
  | _=>exact False.elim h
 | .list es,ρ=>fun Q Q' H hq h=>monoEs hC es ρ _ _ _ (fun _ _ h=>hq _ _ h) h
 | .tup es,ρ=>fun Q Q' H hq h=>monoEs hC es ρ _ _ _ (fun _ _ h=>hq _ _ h) h
 | .comp elt x src ifs,ρ=>fun Q Q' H hq h=>by
  replace h:=un_comp h
  refine monoE hC src ρ _ _ _ (fun v H₁ h=>?_) h
  show (match iterV v with | some it=>_ | none=>False)
  generalize iterV v=o at h ⊢
  cases o with
  | none=>exact h
  | some it=>?_
  obtain ⟨n,h⟩:=h
  exact ⟨n,compN_mono (fun ρ=>monoT hC ifs ρ) (fun ρ=>monoE hC elt ρ) n _ _ (fun _ _ h=>hq _ _ h) h⟩
 | .compR elt x src ifs,ρ=>fun Q Q' H hq h=>by
  replace h:=un_compR h
  refine monoE hC src ρ _ _ _ (fun v H₁ h=>?_) h
  show (match rangeV v with | some it=>_ | none=>False)
  generalize rangeV v=o at h ⊢
  cases o with
  | none=>exact h
  | some it=>?_
  obtain ⟨n,h⟩:=h
  exact ⟨n,compN_mono (fun ρ=>monoT hC ifs ρ) (fun ρ=>monoE hC elt ρ) n _ _ (fun _ _ h=>hq _ _ h) h⟩
theorem monoEs {C:Calls}(hC:MonoC C):∀ (es:List E) (ρ:Env),MonoB (wpEs C es ρ)
 | [],ρ=>fun Q Q' H hq h=>hq _ _ h
 | e::es,ρ=>fun Q Q' H hq h=>by
  replace h:=ue_cons h
  exact monoE hC e ρ _ _ _ (fun _ _ h=>monoEs hC es ρ _ _ _ (fun _ _ h=>hq _ _ h) h) h
theorem monoAnd {C:Calls}(hC:MonoC C):∀ (es:List E) (ρ:Env),MonoB (wpAnd C es ρ)
 | [],ρ=>fun Q Q' H hq h=>False.elim h
 | [e],ρ=>fun Q Q' H hq h=>monoE hC e ρ _ _ _ hq h
 | e::e2::es,ρ=>fun Q Q' H hq h=>by
  refine monoE hC e ρ _ _ _ (fun _ _ h=>boo_mono (fun b _ h=>?_) h) h
  cases b with
  | true=>exact monoAnd hC (e2::es) ρ _ _ _ hq h
  | false=>exact hq _ _ h
theorem monoOr {C:Calls}(hC:MonoC C):∀ (es:List E) (ρ:Env),MonoB (wpOr C es ρ)
 | [],ρ=>fun Q Q' H hq h=>False.elim h
 | [e],ρ=>fun Q Q' H hq h=>monoE hC e ρ _ _ _ hq h
 | e::e2::es,ρ=>fun Q Q' H hq h=>by
  refine monoE hC e ρ _ _ _ (fun _ _ h=>boo_mono (fun b _ h=>?_) h) h
  cases b with
  | false=>exact monoOr hC (e2::es) ρ _ _ _ hq h
  | true=>exact hq _ _ h
theorem monoT {C:Calls}(hC:MonoC C):∀ (es:List E) (ρ:Env),MonoB (wpTest C es ρ)
 | [],ρ=>fun Q Q' H hq h=>hq _ _ h
 | e::es,ρ=>fun Q Q' H hq h=>by
  refine monoE hC e ρ _ _ _ (fun _ _ h=>boo_mono (fun b _ h=>?_) h) h
  cases b with
  | true=>exact monoT hC es ρ _ _ _ hq h
  | false=>exact hq _ _ h
end
noncomputable def MonoS (t:PostS->Heap->Prop):Prop:=∀ (Q Q':PostS) H,(∀ fl ρ H,Q fl ρ H->Q' fl ρ H)->t Q H->t Q' H
theorem whileN_mono {test:Env->PostV->Heap->Prop}{body:Env->PostS->Heap->Prop}(ht:∀ ρ,MonoB (test ρ)) (hb:∀ ρ,MonoS (body ρ)) :
  ∀ (n:Nat) (ρ:Env),MonoS (whileN test body n ρ)
 | 0,ρ=>fun Q Q' H hq h=>False.elim h
 | n+1,ρ=>fun Q Q' H hq h=>by
  refine ht ρ _ _ _ (fun _ _ h=>boo_mono (fun b _ h=>?_) h) h
  cases b with
  | true =>
   refine hb ρ _ _ _ (fun fl ρ' H' h=>?_) h
   cases fl with
   | ret v=>exact hq _ _ _ h
   | next=>exact whileN_mono ht hb n ρ' _ _ _ hq h
   | cont=>exact whileN_mono ht hb n ρ' _ _ _ hq h
  | false=>exact hq _ _ _ h
theorem forN_mono {body:Env->PostS->Heap->Prop}{x:Nat}{it:It}(hb:∀ ρ,MonoS (body ρ)) :
  ∀ (n i:Nat) (ρ:Env),MonoS (forN body x it n i ρ)
 | 0,_,ρ=>fun Q Q' H hq h=>False.elim h
 | n+1,i,ρ=>fun Q Q' H hq h=>by
  replace h:(match it.at H i with | none=>_ | some v=>_):=h
  show (match it.at H i with | none=>_ | some v=>_)
  cases e:it.at H i with
  | none=>rw [e] at h;exact hq _ _ _ h
  | some v =>
   rw [e] at h
   refine hb _ _ _ _ (fun fl ρ' H' h=>?_) h
   cases fl with
   | ret v=>exact hq _ _ _ h
   | next=>exact forN_mono hb n _ ρ' _ _ _ hq h
   | cont=>exact forN_mono hb n _ ρ' _ _ _ hq h
mutual
theorem monoS {C:Calls}(hC:MonoC C):∀ (st:S) (ρ:Env),MonoS (wpS C st ρ)
 | .assign x e,ρ=>fun Q Q' H hq h=>monoE hC e ρ _ _ _ (fun _ _ h=>hq _ _ _ h) h
 | .setIdx o i e,ρ=>fun Q Q' H hq h=>by
  replace h:=us_setIdx h
  exact monoE hC e ρ _ _ _ (fun _ _ h=>monoE hC o ρ _ _ _ (fun _ _ h=>monoE hC i ρ _ _ _ (fun _ _ h=>hea_mono (fun _ _ h=>hq _ _ _ h) h) h) h) h
 | .expr e,ρ=>fun Q Q' H hq h=>monoE hC e ρ _ _ _ (fun _ _ h=>hq _ _ _ h) h
 | .ite c t f,ρ=>fun Q Q' H hq h=>by
  replace h:=us_ite h
  refine monoE hC c ρ _ _ _ (fun _ _ h=>boo_mono (fun b _ h=>?_) h) h
  cases b with
  | true=>exact monoSs hC t ρ _ _ _ hq h
  | false=>exact monoSs hC f ρ _ _ _ hq h
 | .whl c b,ρ=>fun Q Q' H hq h=>by
  replace h:=us_whl h
  obtain ⟨n,h⟩:=h
  exact ⟨n,whileN_mono (fun ρ=>monoE hC c ρ) (fun ρ=>monoSs hC b ρ) n ρ _ _ _ hq h⟩
 | .forIn x e b,ρ=>fun Q Q' H hq h=>by
  replace h:=us_forIn h
  refine monoE hC e ρ _ _ _ (fun v H₁ h=>?_) h
  show (match iterV v with | some it=>_ | none=>False)
  generalize iterV v=o at h ⊢
  cases o with
  | none=>exact h
  | some it=>?_
  obtain ⟨n,h⟩:=h
  exact ⟨n,forN_mono (fun ρ=>monoSs hC b ρ) n _ _ _ _ _ hq h⟩
 | .forR x e b,ρ=>fun Q Q' H hq h=>by
  replace h:=us_forR h
  refine monoE hC e ρ _ _ _ (fun v H₁ h=>?_) h
  show (match rangeV v with | some it=>_ | none=>False)
  generalize rangeV v=o at h ⊢
  cases o with
  | none=>exact h
  | some it=>?_
  obtain ⟨n,h⟩:=h
  exact ⟨n,forN_mono (fun ρ=>monoSs hC b ρ) n _ _ _ _ _ hq h⟩
 | .ret e,ρ=>fun Q Q' H hq h=>monoE hC e ρ _ _ _ (fun _ _ h=>hq _ _ _ h) h
 | .retNone,ρ=>fun Q Q' H hq h=>hq _ _ _ h
 | .cont,ρ=>fun Q Q' H hq h=>hq _ _ _ h
 | .pass,ρ=>fun Q Q' H hq h=>hq _ _ _ h
 | .raise _ _,ρ=>fun Q Q' H hq h=>False.elim h
theorem monoSs {C:Calls}(hC:MonoC C):∀ (sts:List S) (ρ:Env),MonoS (wpSs C sts ρ)
 | [],ρ=>fun Q Q' H hq h=>hq _ _ _ h
 | st::sts,ρ=>fun Q Q' H hq h=>by
  replace h:=us_cons h
  refine monoS hC st ρ _ _ _ (fun fl ρ' H' h=>?_) h
  cases fl with
  | next=>exact monoSs hC sts ρ' _ _ _ hq h
  | cont=>exact hq _ _ _ h
  | ret v=>exact hq _ _ _ h
end
theorem monoCall (P:Prg):∀ n,MonoC (callN P n)
 | 0=>fun f vs Q Q' H hq h=>False.elim h
 | n+1=>fun f vs Q Q' H hq h=>by
  replace h:(match P f with | some fn=>_ | none=>_):=h
  show (match P f with | some fn=>_ | none=>_)
  cases e:P f with
  | none=>rw [e] at h;exact h
  | some fn =>
   rw [e] at h
   refine ⟨h.1,monoSs (monoCall P n) _ _ _ _ _ (fun fl ρ' H' h=>?_) h.2⟩
   cases fl<;>exact hq _ _ h
end Mini
namespace Mini
noncomputable def andThen (C:Calls) (ss:List S) (Q:PostS):PostS:=fun fl ρ' H₁=>match fl with
 | .next=>wpSs C ss ρ' Q H₁
 | fl=>Q fl ρ' H₁
noncomputable def callQ (Q:PostV):PostS:=fun fl _ H₁=>match fl with
 | .ret v=>Q v H₁
 | _=>Q .none H₁
noncomputable def loopQ (Q:PostS) (K:Env->Heap->Prop):PostS:=fun fl ρ' H₂=>match fl with
 | .ret v=>Q (.ret v) ρ' H₂
 | _=>K ρ' H₂
section
variable {C:Calls}{ρ:Env}{H:Heap}{Q:PostV}{R:PostS}{ss:List S}
theorem at_next (h:wpSs C ss ρ R H):andThen C ss R .next ρ H:=h
theorem call_in {P:Prg}{n:Nat}{f:String}{vs:List V}{fn:Fn}(hf:P f=some fn) (hl:vs.length=fn.params) (h:wpSs (callN P n) fn.body (frame fn vs) (callQ Q) H):callN P (n+1) f vs Q H:=by
 show (match P f with | some fn=>_ | none=>_)
 rw [hf]
 exact ⟨hl,h⟩
theorem ss_nil (h:R .next ρ H):wpSs C [] ρ R H:=h
theorem ss_cons {s:S}(h:wpS C s ρ (andThen C ss R) H):wpSs C (s::ss) ρ R H:=h
theorem ss_assign {x:Nat}{e:E}(h:wpE C e ρ (fun v H₁=>wpSs C ss (ρ.set x (some v)) R H₁) H):wpSs C (.assign x e::ss) ρ R H:=h
theorem ss_ret {e:E}(h:wpE C e ρ (fun v H₁=>R (.ret v) ρ H₁) H):wpSs C (.ret e::ss) ρ R H:=h
theorem e_int {i:Int}(h:Q (.int i) H):wpE C (.int i) ρ Q H:=h
theorem e_str {s:List Nat}(h:Q (.str s) H):wpE C (.str s) ρ Q H:=h
theorem e_var {x:Nat}{v:V}(hx:ρ[x]? = some (some v)) (h:Q v H):wpE C (.var x) ρ Q H:=by
 show (match ρ[x]? with | some (some v)=>Q v H | _=>False)
 rw [hx];exact h
theorem e_bin {o:Op}{l r:E}(h:wpE C l ρ (fun a H₁=>wpE C r ρ (fun b H₂=>res (binV o a b H₂) Q) H₁) H):wpE C (.bin o l r) ρ Q H:=h
theorem e_cmp {o:Cmp}{l r:E}(h:wpE C l ρ (fun a H₁=>wpE C r ρ (fun b H₂=>boo (cmpV o a b H₂) (fun b H=>Q (.bool b) H) H₂) H₁) H):wpE C (.cmp o l r) ρ Q H:=h
theorem e_idx {o i:E}(h:wpE C o ρ (fun vo H₁=>wpE C i ρ (fun vi H₂=>val (idxV vo vi H₂) Q H₂) H₁) H):wpE C (.idx o i) ρ Q H:=h
theorem e_call {f:String}{es:List E}(h:wpEs C es ρ (fun vs H₁=>C f vs Q H₁) H):wpE C (.call f es) ρ Q H:=h
theorem e_list {es:List E}(h:wpEs C es ρ (fun vs H₁=>Q (.ref H₁.length) (H₁++[vs])) H):wpE C (.list es) ρ Q H:=h
theorem e_tup {es:List E}(h:wpEs C es ρ (fun vs H₁=>Q (.tup vs) H₁) H):wpE C (.tup es) ρ Q H:=h
theorem e_join {o a:E}(h:wpE C o ρ (fun vo H₁=>∃ s,vo=.str s/\wpE C a ρ (fun va H₂=>joinP s va Q H₂) H₁) H) (hC:MonoC C):wpE C (.join o a) ρ Q H:=by
 refine monoE hC o ρ _ _ _ (fun _ _ h=>?_) h
 obtain ⟨s,rfl,h⟩:=h
 exact h
theorem es_nil {Q:List V->Heap->Prop}(h:Q [] H):wpEs C [] ρ Q H:=h
theorem es_cons {e:E}{es:List E}{Q:List V->Heap->Prop}(h:wpE C e ρ (fun v H₁=>wpEs C es ρ (fun vs H₂=>Q (v::vs) H₂) H₁) H):wpEs C (e::es) ρ Q H:=h
theorem place_nat {k n:Nat}(h:k<n):place (k:Int) n=some k:=by
 unfold place
 rw [if_pos (by omega),if_pos (by omega)];simp
theorem v_idxR {a:Nat}{l:List V}{k:Nat}{c:V}(ha:H[a]? = some l) (hk:l[k]? = some c) (h:Q c H):val (idxV (.ref a) (.int k) H) Q H:=by
 unfold idxV onInt
 simp only [ha,place_nat (List.getElem?_eq_some_iff.mp hk).1,Option.bind_some,hk];exact h
end
section
variable {H:Heap}{Q:PostV}
theorem place_int {i:Int}{n:Nat}(h0:0<=i) (h:i.toNat<n):place i n=some i.toNat:=by
 unfold place
 rw [if_pos h0,if_pos (by omega)]
theorem v_idxRi {a:Nat}{l:List V}{i:Int}{c:V}(ha:H[a]? = some l) (h0:0<=i) (hk:l[i.toNat]? = some c) (h:Q c H):val (idxV (.ref a) (.int i) H) Q H:=by
 unfold idxV onInt
 simp only [ha,place_int h0 (List.getElem?_eq_some_iff.mp hk).1,Option.bind_some,hk];exact h
theorem clamp_pos {i:Int}{n:Nat}(h:0<=i):clamp i n=min i.toNat n:=by unfold clamp;rw [if_neg (by omega)]
theorem slice_to {α:Type}{l:List α}{i:Int}(h:0<=i):slice l none (some i)=l.take i.toNat:=by
 unfold slice hiOf loOf
 simp only
 rw [clamp_pos h,List.drop_zero]
 by_cases q:i.toNat<=l.length
 ·rw [Nat.min_eq_left q]
 ·rw [Nat.min_eq_right (by omega),List.take_of_length_le (Nat.le_refl _),List.take_of_length_le (by omega)]
theorem slice_from {α:Type}{l:List α}{i:Int}(h:0<=i):slice l (some i) none=l.drop i.toNat:=by
 unfold slice hiOf loOf
 simp only
 rw [clamp_pos h,List.take_length]
 by_cases q:i.toNat<=l.length
 ·rw [Nat.min_eq_left q]
 ·rw [Nat.min_eq_right (by omega),List.drop_eq_nil_of_le (Nat.le_refl _),List.drop_eq_nil_of_le (by omega)]
theorem slice_mid {α:Type}{l:List α}{i j:Int}(h:0<=i) (h':0<=j):slice l (some i) (some j)=(l.drop i.toNat).take (j.toNat - i.toNat):=by
 unfold slice hiOf loOf
 simp only
 rw [clamp_pos h,clamp_pos h',List.drop_take]
 by_cases q:i.toNat<=l.length
 ·rw [Nat.min_eq_left q]
  by_cases q':j.toNat<=l.length
  ·rw [Nat.min_eq_left q']
  ·rw [Nat.min_eq_right (by omega)]
   rw [List.take_of_length_le (by simp),List.take_of_length_le (by simp;omega)]
 ·rw [Nat.min_eq_right (a:=i.toNat) (by omega),List.drop_eq_nil_of_le (Nat.le_refl _),List.drop_eq_nil_of_le (by omega)]
  simp
mutual
theorem eqD_refl:∀ d:D,eqD d d=true
 | .none=>rfl
 | .bool b=>beq_self_eq_true b
 | .int i=>beq_self_eq_true i
 | .str s=>beq_self_eq_true s
 | .list l=>eqDs_refl l
 | .tup l=>eqDs_refl l
theorem eqDs_refl:∀ l:List D,eqDs l l=true
 | []=>rfl
 | d::l=>Bool.and_eq_true_iff.mpr ⟨eqD_refl d,eqDs_refl l⟩
end
end
theorem range_in {n:Nat}(hn:n<4611686018427387904):(-4611686018427387904:Int)<=(n:Int)/\(n:Int)<4611686018427387904:=by
 constructor<;>omega
theorem range_un {n:Nat}:rangeV (.int (n:Int))=@ite _ (-4611686018427387904<=(n:Int)/\(n:Int)<4611686018427387904) (Classical.propDecidable _) (some (.fix ((List.range (n:Int).toNat).map fun k:Nat=>V.int (k:Int)))) none:=rfl
theorem range_nat {n:Nat}(hn:n<4611686018427387904):rangeV (.int (n:Int))=some (.fix ((List.range n).map fun k:Nat=>V.int (k:Int))):=by
 rw [range_un,if_pos (range_in hn),Int.toNat_natCast]
theorem strs_map:∀ l:List (List Nat),strL (l.map V.str)=some l
 | []=>rfl
 | x::l=>by
  simp only [List.map_cons]
  show (strL (l.map V.str)).map (x::·)=_
  rw [strs_map l];rfl
theorem j_ref {s:List Nat}{a:Nat}{Q:PostV}{H:Heap}(l:List (List Nat)) (ha:H[a]? = some (l.map V.str)) (hl:(l.map List.length).sum+l.length * s.length<=lim) (h:Q (.str (joinWith s l)) H):joinP s (.ref a) Q H:=by
 unfold joinP
 have:(H[a]?).bind strL=some l:=by rw [ha];exact strs_map l
 simp only [this]
 exact ⟨hl,h⟩
theorem join_nil:∀ l:List (List Nat),joinWith [] l=l.flatten
 | []=>rfl
 | [w]=>(List.append_nil w).symm
 | w::w2::r=>by
  show w++[]++joinWith [] (w2::r)=_
  rw [join_nil (w2::r),List.append_nil];rfl
section
variable {C:Calls}{ρ:Env}{H:Heap}{Q:PostV}{R:PostS}{ss:List S}
theorem e_pop {o:E}(h:wpE C o ρ (fun vo H₁=>∃ a,vo=.ref a/\res (popV (.ref a) H₁) Q) H) (hC:MonoC C):wpE C (.pop o) ρ Q H:=by
 refine monoE hC o ρ _ _ _ (fun v H₁ h=>?_) h
 obtain ⟨t,rfl,h⟩:=h
 exact h
theorem e_replace {o a b:E}(h:wpE C o ρ (fun vo H₁=>∃ s,vo=.str s/\wpE C a ρ (fun va H₂=>wpE C b ρ (fun vb H₃=>replaceP s va vb Q H₃) H₂) H₁) H) (hC:MonoC C):wpE C (.replace o a b) ρ Q H:=by
 refine monoE hC o ρ _ _ _ (fun v H₁ h=>?_) h
 obtain ⟨t,rfl,h⟩:=h
 exact h
theorem h_append {a:Nat}{l:List V}{v:V}(ha:H[a]? = some l) (hl:l.length<lim) (h:Q .none (H.set a (l++[v]))):hea (appendV (.ref a) v H) Q:=by
 unfold appendV;simp only [ha,Option.bind_some,if_pos hl];exact h
theorem h_set {a k:Nat}{i:Int}{l:List V}{v:V}(ha:H[a]? = some l) (hk:place i l.length=some k) (h:Q .none (H.set a (l.set k v))):hea (setV (.ref a) (.int i) v H) Q:=by
 show hea ((H[a]?).bind fun l=>(place i l.length).map fun k=>H.set a (l.set k v)) Q
 rw [ha]
 show hea ((place i l.length).map fun k=>H.set a (l.set k v)) Q
 rw [hk];exact h
theorem r_pop {a:Nat}{l:List V}{v:V}(ha:H[a]? = some (l++[v])) (h:Q v (H.set a l)):res (popV (.ref a) H) Q:=by
 unfold popV;simp only [ha,Option.bind_some,List.getLast?_append,List.getLast?_singleton,Option.some_or,Option.map_some,List.dropLast_concat];exact h
theorem place_last {n:Nat}:place (-1) (n+1)=some n:=by
 unfold place
 rw [if_neg (by decide),if_pos (by omega)]
 congr 1;omega
theorem e_comp (hC:MonoC C) {elt e:E}{x:Nat}(f:V->V)
  (he:wpE C e ρ (fun v H₁=>∃ a l,v=.ref a/\H₁[a]? = some l/\l.length<=lim/\(∀ v∈l,∀ K:PostV,K (f v) H₁->wpE C elt (ρ.set x (some v)) K H₁)/\Q (.ref H₁.length) (H₁++[l.map f])) H) :
  wpE C (.comp elt x e []) ρ Q H:=by
 refine monoE hC e ρ _ _ _ (fun v H₁ h=>?_) he
 obtain ⟨a,l,rfl,ha,hl,h1,h2⟩:=h
 exact comp_map (it:=.lst a) l f (fun i=>by simp only [It.at,ha]) hl h1 h2
end
section
variable {C:Calls}{ρ:Env}{H:Heap}{Q:PostV}
end
theorem r_addR {H:Heap}{Q:PostV}{a b:Nat}{l r:List V}(ha:H[a]? = some l) (hb:H[b]? = some r) (hl:l.length+r.length<=lim) (h:Q (.ref H.length) (H++[l++r])):res (binV .add (.ref a) (.ref b) H) Q:=by
 show res ((H[a]?).bind fun l=>(H[b]?).bind fun r=>if l.length+r.length<=lim then some (.ref H.length,H++[l++r]) else none) Q
 rw [ha]
 show res ((H[b]?).bind fun r=>if l.length+r.length<=lim then some (.ref H.length,H++[l++r]) else none) Q
 rw [hb]
 show res (if l.length+r.length<=lim then some (.ref H.length,H++[l++r]) else none) Q
 rw [if_pos hl];exact h
end Mini
open Mini
namespace L10
open Mini
noncomputable def b_is_sign:List S:=[
  .assign 1 (.ord (.var 0)),
  .ret (.and [.cmp .le (.int 32) (.var 1),.cmp .le (.var 1) (.int 126),.cmp .ne (.var 1) (.int 37)])]
noncomputable def f_is_sign:Fn where
 names:=["sign", "code"]
 params:=1
 body:=b_is_sign
noncomputable def b_is_row:List S:=[
  .ite (.not (.isinst (.var 0) .str)) [
   .ret (.bool false)] [],
  .forIn 1 (.var 0) [
   .ite (.not (.call "is_sign" [.var 1])) [
    .ret (.bool false)] []],
  .ret (.bool true)]
noncomputable def f_is_row:Fn where
 names:=["thing", "sign"]
 params:=1
 body:=b_is_row
noncomputable def b_here_of:List S:=[
  .ite (.cmp .gt (.len (.var 1)) (.int 0)) [
   .ret (.idx (.idx (.var 1) (.neg 1)) (.int 2))] [],
  .ret (.var 0)]
noncomputable def f_here_of:Fn where
 names:=["top", "opened"]
 params:=2
 body:=b_here_of
noncomputable def b_put_plain:List S:=[
  .ite (.and [.cmp .gt (.len (.var 0)) (.int 0),.isinst (.idx (.var 0) (.neg 1)) .str]) [
   .setIdx (.var 0) (.neg 1) (.bin .add (.idx (.var 0) (.neg 1)) (.var 1))] [
   .expr (.append (.var 0) (.var 1))]]
noncomputable def f_put_plain:Fn where
 names:=["parts", "sign"]
 params:=2
 body:=b_put_plain
noncomputable def b_code_at:List S:=[
  .assign 2 (.find (.var 0) (.str [96]) (.bin .add (.var 1) (.int 1))),
  .ite (.cmp .lt (.var 2) (.int 0)) [
   .ret (.tup [.tup [.str [99,111,100,101],.slcL (.var 0) (.bin .add (.var 1) (.int 1)),.bool false],.len (.var 0)])] [],
  .ret (.tup [.tup [.str [99,111,100,101],.slc (.var 0) (.bin .add (.var 1) (.int 1)) (.var 2),.bool true],.bin .add (.var 2) (.int 1)])]
noncomputable def f_code_at:Fn where
 names:=["row", "at", "end"]
 params:=2
 body:=b_code_at
noncomputable def b_link_at:List S:=[
  .ite (.cmp .ne (.slc (.var 0) (.bin .add (.var 1) (.int 1)) (.bin .add (.var 1) (.int 2))) (.str [40])) [
   .ret (.tup [.tup [.str [108,105,110,107],.var 2,.none,.bool true],.bin .add (.var 1) (.int 1)])] [],
  .assign 3 (.find (.var 0) (.str [41]) (.bin .add (.var 1) (.int 2))),
  .ite (.cmp .lt (.var 3) (.int 0)) [
   .ret (.tup [.tup [.str [108,105,110,107],.var 2,.slcL (.var 0) (.bin .add (.var 1) (.int 2)),.bool false],.len (.var 0)])] [],
  .ret (.tup [.tup [.str [108,105,110,107],.var 2,.slc (.var 0) (.bin .add (.var 1) (.int 2)) (.var 3),.bool true],.bin .add (.var 3) (.int 1)])]
noncomputable def f_link_at:Fn where
 names:=["row", "at", "parts", "end"]
 params:=3
 body:=b_link_at
noncomputable def b_opens:List S:=[
  .ite (.cmp .ge (.len (.var 2)) (.glob "MOST_OPEN" 12)) [
   .ret (.bool false)] [],
  .ret (.or [.cmp .eq (.idx (.var 0) (.var 1)) (.str [91]),.and [.cmp .isin (.idx (.var 0) (.var 1)) (.str [42,95,126]),.cmp .eq (.slc (.var 0) (.bin .add (.var 1) (.int 1)) (.bin .add (.var 1) (.int 2))) (.str [40])]])]
noncomputable def f_opens:Fn where
 names:=["row", "at", "opened"]
 params:=3
 body:=b_opens
noncomputable def b_last_is:List S:=[
  .ret (.and [.cmp .gt (.len (.var 0)) (.int 0),.cmp .eq (.idx (.idx (.var 0) (.neg 1)) (.int 0)) (.var 1)])]
noncomputable def f_last_is:Fn where
 names:=["opened", "kind"]
 params:=2
 body:=b_last_is
noncomputable def b_ended:List S:=[
  .whl (.cmp .gt (.len (.var 1)) (.int 0)) [
   .assign 2 (.pop (.var 1)),
   .assign 3 (.call "here_of" [.var 0,.var 1]),
   .ite (.cmp .eq (.idx (.var 2) (.int 0)) (.str [115,112,97,110])) [
    .expr (.append (.var 3) (.tup [.str [115,112,97,110],.idx (.var 2) (.int 1),.idx (.var 2) (.int 2),.bool false]))] [
    .expr (.append (.var 3) (.tup [.str [108,105,110,107],.idx (.var 2) (.int 2),.none,.bool false]))]],
  .ret (.var 0)]
noncomputable def f_ended:Fn where
 names:=["top", "opened", "frame", "parts"]
 params:=2
 body:=b_ended
noncomputable def b_parts_of:List S:=[
  .assign 1 (.list []),
  .assign 2 (.list []),
  .assign 3 (.int 0),
  .whl (.cmp .lt (.var 3) (.len (.var 0))) [
   .assign 4 (.idx (.var 0) (.var 3)),
   .assign 5 (.call "here_of" [.var 1,.var 2]),
   .ite (.cmp .eq (.var 4) (.str [92])) [
    .expr (.append (.var 5) (.tup [.str [107,101,112,116],.slc (.var 0) (.bin .add (.var 3) (.int 1)) (.bin .add (.var 3) (.int 2))])),
    .assign 3 (.bin .add (.var 3) (.int 2))] [
    .ite (.cmp .eq (.var 4) (.str [96])) [
     .assign 6 (.call "code_at" [.var 0,.var 3]),
     .expr (.append (.var 5) (.idx (.var 6) (.int 0))),
     .assign 3 (.idx (.var 6) (.int 1))] [
     .ite (.call "opens" [.var 0,.var 3,.var 2]) [
      .ite (.cmp .eq (.var 4) (.str [91])) [
       .expr (.append (.var 2) (.list [.str [108,97,98,101,108],.str [],.list []])),
       .assign 3 (.bin .add (.var 3) (.int 1))] [
       .expr (.append (.var 2) (.list [.str [115,112,97,110],.var 4,.list []])),
       .assign 3 (.bin .add (.var 3) (.int 2))]] [
      .ite (.and [.cmp .eq (.var 4) (.str [41]),.call "last_is" [.var 2,.str [115,112,97,110]]]) [
       .assign 7 (.pop (.var 2)),
       .expr (.append (.call "here_of" [.var 1,.var 2]) (.tup [.str [115,112,97,110],.idx (.var 7) (.int 1),.idx (.var 7) (.int 2),.bool true])),
       .assign 3 (.bin .add (.var 3) (.int 1))] [
       .ite (.and [.cmp .eq (.var 4) (.str [93]),.call "last_is" [.var 2,.str [108,97,98,101,108]]]) [
        .assign 6 (.call "link_at" [.var 0,.var 3,.idx (.pop (.var 2)) (.int 2)]),
        .expr (.append (.call "here_of" [.var 1,.var 2]) (.idx (.var 6) (.int 0))),
        .assign 3 (.idx (.var 6) (.int 1))] [
        .expr (.call "put_plain" [.var 5,.var 4]),
        .assign 3 (.bin .add (.var 3) (.int 1))]]]]]],
  .ret (.call "ended" [.var 1,.var 2])]
noncomputable def f_parts_of:Fn where
 names:=["row", "top", "opened", "at", "sign", "parts", "made", "frame"]
 params:=1
 body:=b_parts_of
noncomputable def b_run_of:List S:=[
  .assign 2 (.int 0),
  .whl (.cmp .eq (.slc (.var 0) (.var 2) (.bin .add (.var 2) (.int 1))) (.var 1)) [
   .assign 2 (.bin .add (.var 2) (.int 1))],
  .ret (.var 2)]
noncomputable def f_run_of:Fn where
 names:=["row", "sign", "many"]
 params:=2
 body:=b_run_of
noncomputable def b_shape:List S:=[
  .ite (.cmp .eq (.var 0) (.str [])) [
   .ret (.tup [.str [103,97,112],.int 0,.str []])] [],
  .ite (.and [.cmp .lt (.var 1) (.glob "MOST_QUOTES" 9),.cmp .eq (.slcH (.var 0) (.int 2)) (.str [62,32])]) [
   .ret (.tup [.str [113,117,111,116,101],.int 0,.slcL (.var 0) (.int 2)])] [],
  .assign 2 (.call "run_of" [.var 0,.str [35]]),
  .ite (.and [.cmp .le (.int 1) (.var 2),.cmp .le (.var 2) (.glob "MOST_SHARPS" 6),.cmp .eq (.slc (.var 0) (.var 2) (.bin .add (.var 2) (.int 1))) (.str [32])]) [
   .ret (.tup [.str [104,101,97,100,105,110,103],.var 2,.slcL (.var 0) (.bin .add (.var 2) (.int 1))])] [],
  .assign 3 (.call "run_of" [.var 0,.str [45]]),
  .ite (.and [.cmp .le (.int 1) (.var 3),.cmp .le (.var 3) (.glob "MOST_DASHES" 9),.cmp .eq (.slc (.var 0) (.var 3) (.bin .add (.var 3) (.int 1))) (.str [32])]) [
   .ret (.tup [.str [105,116,101,109],.var 3,.slcL (.var 0) (.bin .add (.var 3) (.int 1))])] [],
  .ret (.tup [.str [112,108,97,105,110],.int 0,.var 0])]
noncomputable def f_shape:Fn where
 names:=["row", "deep", "sharps", "dashes"]
 params:=2
 body:=b_shape
noncomputable def b_put_piece:List S:=[
  .ite (.cmp .ne (.var 2) (.str [])) [
   .expr (.append (.var 0) (.tup [.var 1,.var 2]))] []]
noncomputable def f_put_piece:Fn where
 names:=["made", "kind", "text"]
 params:=3
 body:=b_put_piece
noncomputable def b_link_pieces:List S:=[
  .expr (.call "put_piece" [.var 1,.str [109,97,114,107],.str [91]]),
  .expr (.call "put_pieces" [.idx (.var 0) (.int 1),.var 1]),
  .ite (.is (.idx (.var 0) (.int 2)) .none) [
   .ite (.idx (.var 0) (.int 3)) [
    .expr (.call "put_piece" [.var 1,.str [109,97,114,107],.str [93]])] [],
   .retNone] [],
  .expr (.call "put_piece" [.var 1,.str [109,97,114,107],.str [93,40]]),
  .expr (.call "put_piece" [.var 1,.str [116,97,114,103,101,116],.idx (.var 0) (.int 2)]),
  .ite (.idx (.var 0) (.int 3)) [
   .expr (.call "put_piece" [.var 1,.str [109,97,114,107],.str [41]])] []]
noncomputable def f_link_pieces:Fn where
 names:=["part", "made"]
 params:=2
 body:=b_link_pieces
noncomputable def b_put_pieces:List S:=[
  .forIn 2 (.var 0) [
   .ite (.isinst (.var 2) .str) [
    .expr (.call "put_piece" [.var 1,.str [119,111,114,100,115],.var 2])] [
    .ite (.cmp .eq (.idx (.var 2) (.int 0)) (.str [107,101,112,116])) [
     .expr (.call "put_piece" [.var 1,.str [109,97,114,107],.str [92]]),
     .expr (.call "put_piece" [.var 1,.str [107,101,112,116],.idx (.var 2) (.int 1)])] [
     .ite (.cmp .eq (.idx (.var 2) (.int 0)) (.str [99,111,100,101])) [
      .expr (.call "put_piece" [.var 1,.str [109,97,114,107],.str [96]]),
      .expr (.call "put_piece" [.var 1,.str [99,111,100,101],.idx (.var 2) (.int 1)]),
      .ite (.idx (.var 2) (.int 2)) [
       .expr (.call "put_piece" [.var 1,.str [109,97,114,107],.str [96]])] []] [
      .ite (.cmp .eq (.idx (.var 2) (.int 0)) (.str [115,112,97,110])) [
       .expr (.call "put_piece" [.var 1,.str [109,97,114,107],.bin .add (.idx (.var 2) (.int 1)) (.str [40])]),
       .expr (.call "put_pieces" [.idx (.var 2) (.int 2),.var 1]),
       .ite (.idx (.var 2) (.int 3)) [
        .expr (.call "put_piece" [.var 1,.str [109,97,114,107],.str [41]])] []] [
       .expr (.call "link_pieces" [.var 2,.var 1])]]]]]]
noncomputable def f_put_pieces:Fn where
 names:=["parts", "made", "part"]
 params:=2
 body:=b_put_pieces
noncomputable def b_pieces_of:List S:=[
  .assign 1 (.list []),
  .expr (.call "put_pieces" [.var 0,.var 1]),
  .ret (.var 1)]
noncomputable def f_pieces_of:Fn where
 names:=["parts", "made"]
 params:=1
 body:=b_pieces_of
noncomputable def b_row_of:List S:=[
  .ret (.join (.str []) (.comp (.idx (.var 1) (.int 1)) 1 (.call "pieces_of" [.var 0]) []))]
noncomputable def f_row_of:Fn where
 names:=["parts", "piece"]
 params:=1
 body:=b_row_of
noncomputable def b_is_number:List S:=[
  .ite (.or [.not (.isinst (.var 0) .int),.isinst (.var 0) .bool,.cmp .lt (.var 0) (.int 1)]) [
   .ret (.bool false)] [],
  .ret (.or [.is (.var 1) .none,.cmp .le (.var 0) (.var 1)])]
noncomputable def f_is_number:Fn where
 names:=["thing", "most"]
 params:=2
 body:=b_is_number
noncomputable def b_is_tuple:List S:=[
  .ite (.or [.not (.isinst (.var 0) .tuple),.cmp .ne (.len (.var 0)) (.var 2)]) [
   .ret (.bool false)] [],
  .ret (.and [.isinst (.idx (.var 0) (.int 0)) .str,.cmp .eq (.idx (.var 0) (.int 0)) (.var 1)])]
noncomputable def f_is_tuple:Fn where
 names:=["thing", "kind", "size"]
 params:=3
 body:=b_is_tuple
noncomputable def b_is_part:List S:=[
  .ite (.isinst (.var 0) .str) [
   .ret (.and [.cmp .ne (.var 0) (.str []),.call "is_row" [.var 0]])] [],
  .ite (.call "is_tuple" [.var 0,.str [107,101,112,116],.int 2]) [
   .ret (.and [.call "is_row" [.idx (.var 0) (.int 1)],.cmp .le (.len (.idx (.var 0) (.int 1))) (.int 1)])] [],
  .ite (.call "is_tuple" [.var 0,.str [99,111,100,101],.int 3]) [
   .ret (.and [.call "is_row" [.idx (.var 0) (.int 1)],.isinst (.idx (.var 0) (.int 2)) .bool])] [],
  .ite (.cmp .ge (.var 1) (.glob "MOST_OPEN" 12)) [
   .ret (.bool false)] [],
  .ite (.call "is_tuple" [.var 0,.str [115,112,97,110],.int 4]) [
   .ite (.or [.not (.call "is_row" [.idx (.var 0) (.int 1)]),.cmp .notin (.idx (.var 0) (.int 1)) (.tup [.str [42],.str [95],.str [126]])]) [
    .ret (.bool false)] [],
   .ret (.and [.isinst (.idx (.var 0) (.int 3)) .bool,.call "are_parts" [.idx (.var 0) (.int 2),.bin .add (.var 1) (.int 1)]])] [],
  .ite (.call "is_tuple" [.var 0,.str [108,105,110,107],.int 4]) [
   .ite (.and [.isnot (.idx (.var 0) (.int 2)) .none,.not (.call "is_row" [.idx (.var 0) (.int 2)])]) [
    .ret (.bool false)] [],
   .ret (.and [.isinst (.idx (.var 0) (.int 3)) .bool,.call "are_parts" [.idx (.var 0) (.int 1),.bin .add (.var 1) (.int 1)]])] [],
  .ret (.bool false)]
noncomputable def f_is_part:Fn where
 names:=["part", "within"]
 params:=2
 body:=b_is_part
noncomputable def b_are_parts:List S:=[
  .ite (.not (.isinst (.var 0) .list)) [
   .ret (.bool false)] [],
  .forIn 2 (.var 0) [
   .ite (.not (.call "is_part" [.var 2,.var 1])) [
    .ret (.bool false)] []],
  .ret (.bool true)]
noncomputable def f_are_parts:Fn where
 names:=["parts", "within", "part"]
 params:=2
 body:=b_are_parts
noncomputable def b_is_content:List S:=[
  .ret (.and [.call "are_parts" [.var 0,.int 0],.cmp .eq (.call "parts_of" [.call "row_of" [.var 0]]) (.var 0)])]
noncomputable def f_is_content:Fn where
 names:=["parts"]
 params:=1
 body:=b_is_content
noncomputable def b_are_items:List S:=[
  .ite (.not (.isinst (.var 0) .list)) [
   .ret (.bool false)] [],
  .assign 2 (.glob "MOST_DASHES" 9),
  .forIn 3 (.var 0) [
   .ite (.or [.not (.isinst (.var 3) .tuple),.cmp .ne (.len (.var 3)) (.int 3)]) [
    .ret (.bool false)] [],
   .ite (.or [.not (.call "is_number" [.idx (.var 3) (.int 0),.var 2]),.cmp .le (.idx (.var 3) (.int 0)) (.var 1)]) [
    .ret (.bool false)] [],
   .ite (.or [.not (.call "is_content" [.idx (.var 3) (.int 1)]),.not (.call "are_items" [.idx (.var 3) (.int 2),.idx (.var 3) (.int 0)])]) [
    .ret (.bool false)] [],
   .assign 2 (.idx (.var 3) (.int 0))],
  .ret (.bool true)]
noncomputable def f_are_items:Fn where
 names:=["items", "above", "most", "item"]
 params:=2
 body:=b_are_items
noncomputable def b_are_rows:List S:=[
  .ite (.or [.not (.isinst (.var 0) .list),.cmp .eq (.var 0) (.list [])]) [
   .ret (.bool false)] [],
  .forIn 2 (.var 0) [
   .ite (.or [.not (.call "is_content" [.var 2]),.cmp .ne (.idx (.call "shape" [.call "row_of" [.var 2],.var 1]) (.int 0)) (.str [112,108,97,105,110])]) [
    .ret (.bool false)] []],
  .ret (.bool true)]
noncomputable def f_are_rows:Fn where
 names:=["rows", "deep", "parts"]
 params:=2
 body:=b_are_rows
noncomputable def b_is_block:List S:=[
  .ite (.call "is_tuple" [.var 0,.str [103,97,112],.int 2]) [
   .ret (.call "is_number" [.idx (.var 0) (.int 1),.none])] [],
  .ite (.call "is_tuple" [.var 0,.str [104,101,97,100,105,110,103],.int 3]) [
   .ret (.and [.call "is_number" [.idx (.var 0) (.int 1),.glob "MOST_SHARPS" 6],.call "is_content" [.idx (.var 0) (.int 2)]])] [],
  .ite (.call "is_tuple" [.var 0,.str [108,105,115,116],.int 2]) [
   .ret (.and [.call "are_items" [.idx (.var 0) (.int 1),.int 0],.cmp .ne (.idx (.var 0) (.int 1)) (.list [])])] [],
  .ite (.call "is_tuple" [.var 0,.str [112,97,114,97],.int 2]) [
   .ret (.call "are_rows" [.idx (.var 0) (.int 1),.var 1])] [],
  .ite (.call "is_tuple" [.var 0,.str [113,117,111,116,101],.int 2]) [
   .ret (.and [.cmp .lt (.var 1) (.glob "MOST_QUOTES" 9),.call "are_blocks" [.idx (.var 0) (.int 1),.bin .add (.var 1) (.int 1)]])] [],
  .ret (.bool false)]
noncomputable def f_is_block:Fn where
 names:=["block", "deep"]
 params:=2
 body:=b_is_block
noncomputable def b_are_blocks:List S:=[
  .ite (.or [.not (.isinst (.var 0) .list),.cmp .eq (.var 0) (.list [])]) [
   .ret (.bool false)] [],
  .assign 2 (.str []),
  .forIn 3 (.var 0) [
   .ite (.not (.call "is_block" [.var 3,.var 1])) [
    .ret (.bool false)] [],
   .ite (.and [.cmp .eq (.idx (.var 3) (.int 0)) (.var 2),.cmp .ne (.var 2) (.str [104,101,97,100,105,110,103])]) [
    .ret (.bool false)] [],
   .assign 2 (.idx (.var 3) (.int 0))],
  .ret (.bool true)]
noncomputable def f_are_blocks:Fn where
 names:=["blocks", "deep", "last", "block"]
 params:=2
 body:=b_are_blocks
noncomputable def b_normal:List S:=[
  .ret (.call "are_blocks" [.var 0,.int 0])]
noncomputable def f_normal:Fn where
 names:=["tree"]
 params:=1
 body:=b_normal
noncomputable def b_need_normal:List S:=[
  .ite (.not (.call "normal" [.var 0])) [
   .raise "BadTree" [110,111,32,110,111,114,109,97,108,32,116,114,101,101]] []]
noncomputable def f_need_normal:Fn where
 names:=["tree"]
 params:=1
 body:=b_need_normal
noncomputable def b_words_of:List S:=[
  .assign 1 (.str []),
  .forIn 2 (.var 0) [
   .ite (.isinst (.var 2) .str) [
    .assign 1 (.bin .add (.var 1) (.var 2))] [
    .ite (.cmp .eq (.idx (.var 2) (.int 0)) (.str [115,112,97,110])) [
     .assign 1 (.bin .add (.var 1) (.call "words_of" [.idx (.var 2) (.int 2)]))] [
     .ite (.cmp .eq (.idx (.var 2) (.int 0)) (.str [108,105,110,107])) [
      .assign 1 (.bin .add (.var 1) (.call "words_of" [.idx (.var 2) (.int 1)]))] [
      .assign 1 (.bin .add (.var 1) (.idx (.var 2) (.int 1)))]]]],
  .ret (.var 1)]
noncomputable def f_words_of:Fn where
 names:=["parts", "words", "part"]
 params:=1
 body:=b_words_of
noncomputable def b_put_headings:List S:=[
  .forIn 2 (.var 0) [
   .ite (.cmp .eq (.idx (.var 2) (.int 0)) (.str [104,101,97,100,105,110,103])) [
    .expr (.append (.var 1) (.tup [.idx (.var 2) (.int 1),.call "words_of" [.idx (.var 2) (.int 2)]]))] [
    .ite (.cmp .eq (.idx (.var 2) (.int 0)) (.str [113,117,111,116,101])) [
     .expr (.call "put_headings" [.idx (.var 2) (.int 1),.var 1])] []]]]
noncomputable def f_put_headings:Fn where
 names:=["blocks", "made", "block"]
 params:=2
 body:=b_put_headings
noncomputable def b_outline:List S:=[
  .expr (.call "need_normal" [.var 0]),
  .assign 1 (.list []),
  .expr (.call "put_headings" [.var 0,.var 1]),
  .ret (.var 1)]
noncomputable def f_outline:Fn where
 names:=["tree", "made"]
 params:=1
 body:=b_outline
noncomputable def b_put_links:List S:=[
  .forIn 2 (.var 0) [
   .ite (.isinst (.var 2) .str) [
    .cont] [],
   .ite (.cmp .eq (.idx (.var 2) (.int 0)) (.str [115,112,97,110])) [
    .expr (.call "put_links" [.idx (.var 2) (.int 2),.var 1])] [
    .ite (.cmp .eq (.idx (.var 2) (.int 0)) (.str [108,105,110,107])) [
     .ite (.isnot (.idx (.var 2) (.int 2)) .none) [
      .expr (.append (.var 1) (.tup [.call "words_of" [.idx (.var 2) (.int 1)],.idx (.var 2) (.int 2)]))] [],
     .expr (.call "put_links" [.idx (.var 2) (.int 1),.var 1])] []]]]
noncomputable def f_put_links:Fn where
 names:=["parts", "made", "part"]
 params:=2
 body:=b_put_links
noncomputable def b_links_of_items:List S:=[
  .forIn 2 (.var 0) [
   .expr (.call "put_links" [.idx (.var 2) (.int 1),.var 1]),
   .expr (.call "links_of_items" [.idx (.var 2) (.int 2),.var 1])]]
noncomputable def f_links_of_items:Fn where
 names:=["items", "made", "item"]
 params:=2
 body:=b_links_of_items
noncomputable def b_links_of_blocks:List S:=[
  .forIn 2 (.var 0) [
   .ite (.cmp .eq (.idx (.var 2) (.int 0)) (.str [104,101,97,100,105,110,103])) [
    .expr (.call "put_links" [.idx (.var 2) (.int 2),.var 1])] [
    .ite (.cmp .eq (.idx (.var 2) (.int 0)) (.str [108,105,115,116])) [
     .expr (.call "links_of_items" [.idx (.var 2) (.int 1),.var 1])] [
     .ite (.cmp .eq (.idx (.var 2) (.int 0)) (.str [112,97,114,97])) [
      .forIn 3 (.idx (.var 2) (.int 1)) [
       .expr (.call "put_links" [.var 3,.var 1])]] [
      .ite (.cmp .eq (.idx (.var 2) (.int 0)) (.str [113,117,111,116,101])) [
       .expr (.call "links_of_blocks" [.idx (.var 2) (.int 1),.var 1])] []]]]]]
noncomputable def f_links_of_blocks:Fn where
 names:=["blocks", "made", "block", "parts"]
 params:=2
 body:=b_links_of_blocks
noncomputable def b_links:List S:=[
  .expr (.call "need_normal" [.var 0]),
  .assign 1 (.list []),
  .expr (.call "links_of_blocks" [.var 0,.var 1]),
  .ret (.var 1)]
noncomputable def f_links:Fn where
 names:=["tree", "made"]
 params:=1
 body:=b_links
noncomputable def b_law_cell_at:List S:=[
  .ite (.cmp .lt (.var 1) (.len (.var 0))) [
   .ret (.idx (.var 0) (.var 1))] [],
  .ret (.int 0)]
noncomputable def f_law_cell_at:Fn where
 names:=["_law_script", "_law_k"]
 params:=2
 body:=b_law_cell_at
noncomputable def b_law_signs:List S:=[
  .assign 0 (.str [32,33,34,35,36,38,39,40,41,42,43,44,45,46,47,48,49,50,51,52,53,54,55,56,57,58,59,60,61,62,63,64,65,66,67,68,69,70,71,72,73,74,75,76,77,78,79,80,81,82,83,84,85,86,87,88,89,90,91,92,93,94,95,96]),
  .ret (.bin .add (.var 0) (.str [97,98,99,100,101,102,103,104,105,106,107,108,109,110,111,112,113,114,115,116,117,118,119,120,121,122,123,124,125,126]))]
noncomputable def f_law_signs:Fn where
 names:=["_law_some"]
 params:=0
 body:=b_law_signs
noncomputable def b_law_alike:List S:=[
  .ite (.is (.var 1) .none) [
   .ret (.is (.var 0) .none)] [],
  .ite (.is (.var 1) .tt) [
   .ret (.is (.var 0) .tt)] [],
  .ite (.is (.var 1) .ff) [
   .ret (.is (.var 0) .ff)] [],
  .ite (.isinst (.var 1) .str) [
   .ret (.and [.isinst (.var 0) .str,.cmp .eq (.var 0) (.var 1)])] [],
  .ite (.isinst (.var 1) .int) [
   .ret (.and [.isinst (.var 0) .int,.not (.isinst (.var 0) .bool),.cmp .eq (.var 0) (.var 1)])] [],
  .ite (.or [.and [.isinst (.var 1) .list,.not (.isinst (.var 0) .list)],.and [.isinst (.var 1) .tuple,.not (.isinst (.var 0) .tuple)]]) [
   .ret (.bool false)] [],
  .ite (.cmp .ne (.len (.var 0)) (.len (.var 1))) [
   .ret (.bool false)] [],
  .forR 2 (.len (.var 1)) [
   .ite (.not (.call "_law_alike" [.idx (.var 0) (.var 2),.idx (.var 1) (.var 2)])) [
    .ret (.bool false)] []],
  .ret (.bool true)]
noncomputable def f_law_alike:Fn where
 names:=["_law_found", "_law_due", "_law_k"]
 params:=2
 body:=b_law_alike
noncomputable def b_law_row:List S:=[
  .assign 1 (.str []),
  .forIn 2 (.var 0) [
   .ite (.isinst (.var 2) .str) [
    .assign 1 (.bin .add (.var 1) (.var 2))] [
    .ite (.cmp .eq (.idx (.var 2) (.int 0)) (.str [107,101,112,116])) [
     .assign 1 (.bin .add (.bin .add (.var 1) (.str [92])) (.idx (.var 2) (.int 1)))] [
     .ite (.cmp .eq (.idx (.var 2) (.int 0)) (.str [99,111,100,101])) [
      .assign 1 (.bin .add (.bin .add (.bin .add (.var 1) (.str [96])) (.idx (.var 2) (.int 1))) (.bin .mul (.str [96]) (.toInt (.idx (.var 2) (.int 2)))))] [
      .ite (.cmp .eq (.idx (.var 2) (.int 0)) (.str [115,112,97,110])) [
       .assign 1 (.bin .add (.bin .add (.bin .add (.var 1) (.idx (.var 2) (.int 1))) (.str [40])) (.call "_law_row" [.idx (.var 2) (.int 2)])),
       .assign 1 (.bin .add (.var 1) (.bin .mul (.str [41]) (.toInt (.idx (.var 2) (.int 3)))))] [
       .ite (.is (.idx (.var 2) (.int 2)) .none) [
        .assign 1 (.bin .add (.bin .add (.bin .add (.var 1) (.str [91])) (.call "_law_row" [.idx (.var 2) (.int 1)])) (.bin .mul (.str [93]) (.toInt (.idx (.var 2) (.int 3)))))] [
        .assign 1 (.bin .add (.bin .add (.bin .add (.var 1) (.str [91])) (.call "_law_row" [.idx (.var 2) (.int 1)])) (.str [93,40])),
        .assign 1 (.bin .add (.bin .add (.var 1) (.idx (.var 2) (.int 2))) (.bin .mul (.str [41]) (.toInt (.idx (.var 2) (.int 3)))))]]]]]],
  .ret (.var 1)]
noncomputable def f_law_row:Fn where
 names:=["_law_parts_here", "_law_row_here", "_law_part"]
 params:=1
 body:=b_law_row
noncomputable def b_law_plain:List S:=[
  .assign 5 (.str []),
  .forR 6 (.var 1) [
   .assign 7 (.idx (.call "_law_signs" []) (.bin .mod (.bin .add (.var 0) (.bin .mul (.var 6) (.bin .add (.int 1) (.bin .mod (.bin .fdiv (.var 0) (.int 94)) (.int 7))))) (.int 94))),
   .ite (.or [.cmp .isin (.var 7) (.str [92,96]),.and [.cmp .eq (.var 2) (.str [91]),.cmp .eq (.var 7) (.str [93])],.and [.cmp .eq (.len (.var 2)) (.int 2),.cmp .eq (.var 7) (.str [41])]]) [
    .assign 7 (.str [109])] [],
   .ite (.and [.cmp .lt (.var 3) (.int 12),.or [.cmp .eq (.var 7) (.str [91]),.and [.cmp .eq (.var 7) (.str [40]),.cmp .isin (.slcL (.var 5) (.neg 1)) (.tup [.str [42],.str [95],.str [126]])]]]) [
    .assign 7 (.str [110])] [],
   .ite (.and [.var 4,.cmp .eq (.var 6) (.int 0),.cmp .eq (.var 7) (.str [40])]) [
    .assign 7 (.str [111])] [],
   .assign 5 (.bin .add (.var 5) (.var 7))],
  .ite (.and [.cmp .eq (.var 3) (.int 12),.cmp .eq (.bin .mod (.var 0) (.int 2)) (.int 0)]) [
   .assign 5 (.bin .add (.var 5) (.str [42,40,91,95,40,126,40]))] [],
  .ret (.var 5)]
noncomputable def f_law_plain:Fn where
 names:=["_law_number", "_law_size_here", "_law_mark", "_law_deep", "_law_barred_here", "_law_words_here", "_law_k", "_law_sign"]
 params:=5
 body:=b_law_plain
noncomputable def b_law_words:List S:=[
  .assign 3 (.str []),
  .forR 4 (.var 1) [
   .assign 3 (.bin .add (.var 3) (.idx (.call "_law_signs" []) (.bin .mod (.bin .add (.var 0) (.bin .mul (.var 4) (.bin .add (.int 1) (.bin .mod (.bin .fdiv (.var 0) (.int 94)) (.int 5))))) (.int 94))))],
  .ret (.replace (.var 3) (.var 2) (.str [120]))]
noncomputable def f_law_words:Fn where
 names:=["_law_number", "_law_size_here", "_law_left", "_law_words_here", "_law_k"]
 params:=3
 lits:=[2]
 body:=b_law_words
noncomputable def b_law_barred:List S:=[
  .ret (.and [.cmp .gt (.len (.var 0)) (.int 0),.cmp .eq (.idx (.idx (.var 0) (.neg 1)) (.int 0)) (.str [108,105,110,107]),.is (.idx (.idx (.var 0) (.neg 1)) (.int 2)) .none])]
noncomputable def f_law_barred:Fn where
 names:=["_law_parts_here"]
 params:=1
 body:=b_law_barred
noncomputable def b_law_size:List S:=[
  .ite (.cmp .eq (.bin .mod (.var 0) (.int 3)) (.int 1)) [
   .ret (.bin .mod (.bin .fdiv (.var 0) (.int 3)) (.int 49))] [],
  .ret (.bin .mod (.bin .fdiv (.var 0) (.int 3)) (.int 7))]
noncomputable def f_law_size:Fn where
 names:=["_law_number"]
 params:=1
 body:=b_law_size
noncomputable def b_law_end:List S:=[
  .assign 3 (.pop (.var 0)),
  .assign 4 (.idx (.idx (.var 0) (.neg 1)) (.int 1)),
  .ite (.cmp .ne (.idx (.var 3) (.int 0)) (.str [91])) [
   .expr (.append (.var 4) (.tup [.str [115,112,97,110],.idx (.idx (.var 3) (.int 0)) (.int 0),.idx (.var 3) (.int 1),.var 2]))] [
   .ite (.and [.var 2,.cmp .gt (.bin .mod (.var 1) (.int 3)) (.int 0)]) [
    .expr (.append (.var 4) (.tup [.str [108,105,110,107],.idx (.var 3) (.int 1),.call "_law_words" [.bin .fdiv (.var 1) (.int 3),.call "_law_size" [.bin .fdiv (.var 1) (.int 300)],.str [41]],.bool true]))] [
    .expr (.append (.var 4) (.tup [.str [108,105,110,107],.idx (.var 3) (.int 1),.none,.var 2]))]]]
noncomputable def f_law_end:Fn where
 names:=["_law_pile", "_law_number", "_law_closed", "_law_top", "_law_parts_here"]
 params:=3
 body:=b_law_end
noncomputable def b_law_put:List S:=[
  .assign 2 (.bin .mod (.bin .mul (.var 1) (.int 48271)) (.int 2147483647)),
  .assign 3 (.bin .mod (.var 2) (.int 9)),
  .assign 4 (.bin .fdiv (.var 2) (.int 9)),
  .assign 5 (.bin .sub (.len (.var 0)) (.int 1)),
  .assign 6 (.idx (.idx (.var 0) (.neg 1)) (.int 1)),
  .ite (.and [.cmp .lt (.var 3) (.int 3),.not (.and [.cmp .gt (.len (.var 6)) (.int 0),.isinst (.idx (.var 6) (.neg 1)) .str])]) [
   .assign 7 (.bin .add (.int 1) (.call "_law_size" [.bin .fdiv (.var 4) (.int 700)])),
   .expr (.append (.var 6) (.call "_law_plain" [.var 4,.var 7,.idx (.idx (.var 0) (.neg 1)) (.int 0),.var 5,.call "_law_barred" [.var 6]]))] [
   .ite (.cmp .eq (.var 3) (.int 4)) [
    .expr (.append (.var 6) (.tup [.str [99,111,100,101],.call "_law_words" [.var 4,.call "_law_size" [.bin .fdiv (.var 4) (.int 500)],.str [96]],.bool true]))] [
    .ite (.and [.cmp .eq (.var 3) (.int 5),.cmp .lt (.var 5) (.int 12)]) [
     .expr (.append (.var 0) (.tup [.slcH (.slcL (.str [42,40,95,40,126,40]) (.bin .mul (.bin .mod (.var 4) (.int 3)) (.int 2))) (.int 2),.list []]))] [
     .ite (.and [.or [.cmp .eq (.var 3) (.int 6),.cmp .eq (.var 3) (.int 7)],.cmp .lt (.var 5) (.int 12)]) [
      .expr (.append (.var 0) (.tup [.str [91],.list []]))] [
      .ite (.and [.cmp .eq (.var 3) (.int 8),.cmp .gt (.var 5) (.int 0)]) [
       .expr (.call "_law_end" [.var 0,.var 4,.bool true])] [
       .expr (.append (.var 6) (.tup [.str [107,101,112,116],.idx (.call "_law_signs" []) (.bin .mod (.var 4) (.int 94))]))]]]]]]
noncomputable def f_law_put:Fn where
 names:=["_law_pile", "_law_cell", "_law_mixed", "_law_step", "_law_number", "_law_deep", "_law_parts_here", "_law_size_here"]
 params:=2
 body:=b_law_put
noncomputable def b_law_label:List S:=[
  .ite (.cmp .gt (.var 1) (.int 8)) [
   .ret (.list [.str [108,97,98,101,108]])] [],
  .assign 2 (.list [.list [.str [108,97,98,101,108]],.list [],.list [.str [97],.tup [.str [107,101,112,116],.str [93]],.str [98,42]],.list [.tup [.str [115,112,97,110],.str [95],.list [.str [99],.tup [.str [99,111,100,101],.str [93],.bool true]],.bool true]]]),
  .assign 2 (.bin .add (.var 2) (.list [.list [.str [115,101,101,32],.tup [.str [108,105,110,107],.list [.str [100]],.str [101],.bool true],.str [40,102]],.list [.tup [.str [108,105,110,107],.list [.tup [.str [115,112,97,110],.str [42],.list [.str [103]],.bool true]],.none,.bool true]]])),
  .assign 2 (.bin .add (.var 2) (.list [.list [.tup [.str [107,101,112,116],.str [120]],.tup [.str [115,112,97,110],.str [126],.list [.tup [.str [108,105,110,107],.list [.str [104]],.str [105],.bool true]],.bool true],.str [106]]])),
  .ret (.idx (.bin .add (.var 2) (.list [.list [.tup [.str [108,105,110,107],.list [.tup [.str [108,105,110,107],.list [.str [107]],.str [108],.bool true],.str [109]],.str [110],.bool true]]])) (.bin .mod (.var 0) (.int 8)))]
noncomputable def f_law_label:Fn where
 names:=["_law_number", "_law_deep", "_law_some"]
 params:=2
 body:=b_law_label
noncomputable def b_law_parts:List S:=[
  .assign 2 (.list [.tup [.str [],.list []]]),
  .forIn 3 (.var 0) [
   .expr (.call "_law_put" [.var 2,.var 3])],
  .assign 4 (.cmp .gt (.bin .mod (.var 1) (.int 7)) (.int 2)),
  .assign 5 (.idx (.idx (.var 2) (.neg 1)) (.int 1)),
  .assign 6 (.call "_law_size" [.bin .fdiv (.var 1) (.int 7)]),
  .ite (.cmp .eq (.bin .mod (.var 1) (.int 7)) (.int 0)) [
   .expr (.append (.var 5) (.tup [.str [107,101,112,116],.str []]))] [],
  .ite (.cmp .eq (.bin .mod (.var 1) (.int 7)) (.int 1)) [
   .expr (.append (.var 5) (.tup [.str [99,111,100,101],.call "_law_words" [.bin .fdiv (.var 1) (.int 7),.var 6,.str [96]],.bool false]))] [],
  .ite (.and [.cmp .eq (.bin .mod (.var 1) (.int 7)) (.int 2),.cmp .lt (.len (.var 2)) (.int 13)]) [
   .assign 7 (.call "_law_label" [.bin .fdiv (.var 1) (.int 21),.len (.var 2)]),
   .expr (.append (.var 5) (.tup [.str [108,105,110,107],.var 7,.call "_law_words" [.bin .fdiv (.var 1) (.int 7),.var 6,.str [41]],.bool false]))] [],
  .assign 1 (.bin .fdiv (.var 1) (.int 7)),
  .whl (.cmp .gt (.len (.var 2)) (.int 1)) [
   .ite (.cmp .eq (.bin .mod (.var 1) (.int 4)) (.int 0)) [
    .assign 4 (.bool false)] [],
   .expr (.call "_law_end" [.var 2,.bin .fdiv (.var 1) (.int 4),.var 4]),
   .assign 1 (.bin .fdiv (.var 1) (.int 4))],
  .ret (.idx (.idx (.var 2) (.int 0)) (.int 1))]
noncomputable def f_law_parts:Fn where
 names:=["_law_cells", "_law_last", "_law_pile", "_law_cell", "_law_closing", "_law_parts_here", "_law_size_here", "_law_label_here"]
 params:=2
 body:=b_law_parts
noncomputable def b_law_item:List S:=[
  .whl (.and [.cmp .ne (.var 0) (.list []),.cmp .lt (.idx (.idx (.var 0) (.neg 1)) (.int 0)) (.var 1)]) [
   .assign 0 (.idx (.idx (.var 0) (.neg 1)) (.int 2))],
  .expr (.append (.var 0) (.tup [.var 1,.var 2,.list []]))]
noncomputable def f_law_item:Fn where
 names:=["_law_items", "_law_dashes", "_law_parts_here"]
 params:=3
 body:=b_law_item
noncomputable def b_law_plain_row:List S:=[
  .assign 2 (.bin .sub (.len (.var 0)) (.len (.lstrip (.var 0) (.str [35])))),
  .assign 3 (.bin .sub (.len (.var 0)) (.len (.lstrip (.var 0) (.str [45])))),
  .ite (.and [.cmp .isin (.var 2) (.tup [.int 1,.int 2,.int 3,.int 4,.int 5,.int 6]),.cmp .eq (.slc (.var 0) (.var 2) (.bin .add (.var 2) (.int 1))) (.str [32])]) [
   .ret (.bool false)] [],
  .ite (.and [.cmp2 .lt .lt (.int 0) (.var 3) (.int 10),.cmp .eq (.slc (.var 0) (.var 3) (.bin .add (.var 3) (.int 1))) (.str [32])]) [
   .ret (.bool false)] [],
  .ret (.and [.cmp .ne (.var 0) (.str []),.or [.cmp .ne (.slcH (.var 0) (.int 2)) (.str [62,32]),.cmp .eq (.var 1) (.int 9)]])]
noncomputable def f_law_plain_row:Fn where
 names:=["_law_row_here", "_law_deep", "_law_sharps", "_law_dashes"]
 params:=2
 body:=b_law_plain_row
noncomputable def b_law_ahead:List S:=[
  .ite (.and [.cmp .ne (.var 1) (.list []),.isinst (.idx (.var 1) (.int 0)) .str]) [
   .ret (.bin .add (.list [.bin .add (.var 0) (.idx (.var 1) (.int 0))]) (.slcL (.var 1) (.int 1)))] [],
  .ret (.bin .add (.list [.var 0]) (.var 1))]
noncomputable def f_law_ahead:Fn where
 names:=["_law_words_here", "_law_parts_here"]
 params:=2
 body:=b_law_ahead
noncomputable def b_law_plainly:List S:=[
  .ite (.cmp .eq (.bin .mod (.var 1) (.int 3)) (.int 1)) [
   .assign 3 (.list [.str [35],.str [35,35,97],.str [45],.str [45,45,45],.str [35,35,35,35,35,35,35,35],.str [62,97],.str [62],.str [45,45,45,45,45,45,45,45,45,45],.str [45,53],.str [35,35,35,35,35,35,35],.str [62,32],.str [62,62]]),
   .assign 0 (.call "_law_ahead" [.idx (.var 3) (.bin .mod (.bin .fdiv (.var 1) (.int 3)) (.int 12)),.var 0])] [],
  .ite (.call "_law_plain_row" [.call "_law_row" [.var 0],.var 2]) [
   .ret (.var 0)] [],
  .ret (.call "_law_ahead" [.str [122],.var 0])]
noncomputable def f_law_plainly:Fn where
 names:=["_law_parts_here", "_law_number", "_law_deep", "_law_some"]
 params:=3
 body:=b_law_plainly
noncomputable def b_law_quote:List S:=[
  .ite (.and [.cmp .eq (.var 1) (.int 11),.cmp .gt (.len (.var 0)) (.int 1),.cmp .ne (.idx (.var 0) (.neg 1)) (.list [])]) [
   .expr (.pop (.var 0))] [],
  .whl (.and [.cmp .eq (.var 1) (.int 10),.cmp .gt (.var 2) (.int 0),.cmp .lt (.len (.var 0)) (.int 10)]) [
   .ite (.or [.cmp .eq (.idx (.var 0) (.neg 1)) (.list []),.cmp .ne (.idx (.idx (.idx (.var 0) (.neg 1)) (.neg 1)) (.int 0)) (.str [113,117,111,116,101])]) [
    .expr (.append (.idx (.var 0) (.neg 1)) (.tup [.str [113,117,111,116,101],.list []]))] [],
   .expr (.append (.var 0) (.idx (.idx (.idx (.var 0) (.neg 1)) (.neg 1)) (.int 1))),
   .assign 2 (.bin .sub (.var 2) (.int 1))]]
noncomputable def f_law_quote:Fn where
 names:=["_law_pile", "_law_way", "_law_many"]
 params:=3
 body:=b_law_quote
noncomputable def b_law_add:List S:=[
  .assign 5 (.str []),
  .ite (.cmp .ne (.var 0) (.list [])) [
   .assign 5 (.idx (.idx (.var 0) (.neg 1)) (.int 0))] [],
  .ite (.and [.cmp .lt (.var 1) (.int 2),.cmp .ne (.var 5) (.str [103,97,112])]) [
   .expr (.append (.var 0) (.tup [.str [103,97,112],.bin .add (.bin .add (.int 1) (.bin .mod (.var 2) (.int 3))) (.bin .mul (.int 300) (.toInt (.cmp .eq (.bin .mod (.bin .fdiv (.var 2) (.int 3)) (.int 9)) (.int 5))))]))] [
   .ite (.cmp .lt (.var 1) (.int 4)) [
    .expr (.append (.var 0) (.tup [.str [104,101,97,100,105,110,103],.bin .add (.int 1) (.bin .mod (.var 2) (.int 6)),.var 3]))] [
    .ite (.and [.cmp .lt (.var 1) (.int 7),.cmp .eq (.var 5) (.str [108,105,115,116])]) [
     .expr (.call "_law_item" [.idx (.idx (.var 0) (.neg 1)) (.int 1),.bin .add (.int 1) (.bin .mod (.var 2) (.int 9)),.var 3])] [
     .ite (.cmp .lt (.var 1) (.int 7)) [
      .expr (.append (.var 0) (.tup [.str [108,105,115,116],.list [.tup [.bin .add (.int 1) (.bin .mod (.var 2) (.int 9)),.var 3,.list []]]]))] [
      .ite (.cmp .eq (.var 5) (.str [112,97,114,97])) [
       .expr (.append (.idx (.idx (.var 0) (.neg 1)) (.int 1)) (.call "_law_plainly" [.var 3,.var 2,.var 4]))] [
       .expr (.append (.var 0) (.tup [.str [112,97,114,97],.list [.call "_law_plainly" [.var 3,.var 2,.var 4]]]))]]]]]]
noncomputable def f_law_add:Fn where
 names:=["_law_blocks", "_law_way", "_law_number", "_law_parts_here", "_law_deep", "_law_ahead_here"]
 params:=5
 body:=b_law_add
noncomputable def b_law_tree:List S:=[
  .assign 1 (.list [.list []]),
  .assign 2 (.int 1),
  .whl (.cmp .lt (.var 2) (.len (.var 0))) [
   .assign 3 (.bin .mod (.bin .mul (.idx (.var 0) (.var 2)) (.int 69621)) (.int 2147483647)),
   .assign 4 (.idx (.list [.int 0,.int 1,.int 2,.int 3,.int 5,.int 13]) (.bin .mod (.bin .fdiv (.var 3) (.int 12)) (.int 6))),
   .assign 5 (.slc (.var 0) (.bin .add (.var 2) (.int 1)) (.bin .add (.bin .add (.var 2) (.int 1)) (.var 4))),
   .assign 2 (.bin .add (.bin .add (.var 2) (.int 1)) (.var 4)),
   .ite (.cmp .gt (.bin .mod (.var 3) (.int 12)) (.int 9)) [
    .expr (.call "_law_quote" [.var 1,.bin .mod (.var 3) (.int 12),.bin .add (.int 1) (.bin .mul (.bin .mod (.bin .fdiv (.var 3) (.int 72)) (.int 3)) (.int 4))])] [
    .expr (.call "_law_add" [.idx (.var 1) (.neg 1),.bin .mod (.var 3) (.int 12),.bin .fdiv (.var 3) (.int 72),.call "_law_parts" [.var 5,.bin .fdiv (.var 3) (.int 504)],.bin .sub (.len (.var 1)) (.int 1)])]],
  .ite (.cmp .eq (.idx (.var 1) (.neg 1)) (.list [])) [
   .expr (.append (.idx (.var 1) (.neg 1)) (.tup [.str [103,97,112],.int 1]))] [],
  .ret (.idx (.var 1) (.int 0))]
noncomputable def f_law_tree:Fn where
 names:=["_law_script", "_law_pile", "_law_at", "_law_head", "_law_many", "_law_cells"]
 params:=1
 body:=b_law_tree
noncomputable def b_law_said:List S:=[
  .assign 1 (.str []),
  .forIn 2 (.var 0) [
   .ite (.isinst (.var 2) .str) [
    .assign 1 (.bin .add (.var 1) (.var 2))] [
    .ite (.or [.cmp .eq (.idx (.var 2) (.int 0)) (.str [107,101,112,116]),.cmp .eq (.idx (.var 2) (.int 0)) (.str [99,111,100,101])]) [
     .assign 1 (.bin .add (.var 1) (.idx (.var 2) (.int 1)))] [
     .assign 1 (.bin .add (.var 1) (.call "_law_said" [.idx (.var 2) (.bin .add (.int 1) (.toInt (.cmp .eq (.idx (.var 2) (.int 0)) (.str [115,112,97,110]))))]))]]],
  .ret (.var 1)]
noncomputable def f_law_said:Fn where
 names:=["_law_parts_here", "_law_words_here", "_law_part"]
 params:=1
 body:=b_law_said
noncomputable def b_law_contents:List S:=[
  .assign 1 (.list []),
  .forIn 2 (.var 0) [
   .assign 1 (.bin .add (.bin .add (.var 1) (.list [.idx (.var 2) (.int 1)])) (.call "_law_contents" [.idx (.var 2) (.int 2)]))],
  .ret (.var 1)]
noncomputable def f_law_contents:Fn where
 names:=["_law_items", "_law_found", "_law_item_here"]
 params:=1
 body:=b_law_contents
noncomputable def b_law_all:List S:=[
  .assign 1 (.list []),
  .forIn 2 (.var 0) [
   .ite (.cmp .eq (.idx (.var 2) (.int 0)) (.str [104,101,97,100,105,110,103])) [
    .expr (.append (.var 1) (.tup [.idx (.var 2) (.int 1),.idx (.var 2) (.int 2)]))] [],
   .ite (.cmp .eq (.idx (.var 2) (.int 0)) (.str [112,97,114,97])) [
    .expr (.extend (.var 1) (.comp (.tup [.int 0,.var 3]) 3 (.idx (.var 2) (.int 1)) []))] [],
   .ite (.cmp .eq (.idx (.var 2) (.int 0)) (.str [108,105,115,116])) [
    .expr (.extend (.var 1) (.comp (.tup [.int 0,.var 3]) 3 (.call "_law_contents" [.idx (.var 2) (.int 1)]) []))] [],
   .ite (.cmp .eq (.idx (.var 2) (.int 0)) (.str [113,117,111,116,101])) [
    .expr (.extend (.var 1) (.call "_law_all" [.idx (.var 2) (.int 1)]))] []],
  .ret (.var 1)]
noncomputable def f_law_all:Fn where
 names:=["_law_blocks", "_law_found", "_law_block", "_law_parts_here"]
 params:=1
 body:=b_law_all
noncomputable def b_law_links:List S:=[
  .assign 1 (.list []),
  .forIn 2 (.var 0) [
   .ite (.and [.not (.isinst (.var 2) .str),.cmp .eq (.idx (.var 2) (.int 0)) (.str [115,112,97,110])]) [
    .assign 1 (.bin .add (.var 1) (.call "_law_links" [.idx (.var 2) (.int 2)]))] [],
   .ite (.and [.not (.isinst (.var 2) .str),.cmp .eq (.idx (.var 2) (.int 0)) (.str [108,105,110,107])]) [
    .ite (.isnot (.idx (.var 2) (.int 2)) .none) [
     .expr (.append (.var 1) (.tup [.call "_law_said" [.idx (.var 2) (.int 1)],.idx (.var 2) (.int 2)]))] [],
    .assign 1 (.bin .add (.var 1) (.call "_law_links" [.idx (.var 2) (.int 1)]))] []],
  .ret (.var 1)]
noncomputable def f_law_links:Fn where
 names:=["_law_parts_here", "_law_found", "_law_part"]
 params:=1
 body:=b_law_links
noncomputable def b_law:List S:=[
  .assign 1 (.call "_law_tree" [.var 0]),
  .assign 2 (.call "_law_all" [.call "_law_tree" [.var 0]]),
  .assign 3 (.comp (.tup [.idx (.var 4) (.int 0),.call "_law_said" [.idx (.var 4) (.int 1)]]) 4 (.var 2) [.cmp .gt (.idx (.var 4) (.int 0)) (.int 0)]),
  .assign 5 (.list []),
  .forIn 4 (.var 2) [
   .assign 5 (.bin .add (.var 5) (.call "_law_links" [.idx (.var 4) (.int 1)]))],
  .assign 6 (.list [.call "outline" [.var 1],.call "links" [.var 1]]),
  .expr (.call "outline" [.list [.tup [.str [104,101,97,100,105,110,103],.int 1,.list [.str [109,111,114,101]]]]]),
  .expr (.call "links" [.list [.tup [.str [104,101,97,100,105,110,103],.int 1,.list [.tup [.str [108,105,110,107],.list [],.str [109,111,114,101],.bool true]]]]]),
  .ite (.or [.not (.call "_law_alike" [.idx (.var 6) (.int 0),.var 3]),.not (.call "_law_alike" [.idx (.var 6) (.int 1),.var 5])]) [
   .ret (.bool false)] [],
  .expr (.append (.call "outline" [.var 1]) (.tup [.int 1,.str [109,111,114,101]])),
  .expr (.append (.call "links" [.var 1]) (.tup [.str [109,111,114,101],.str [109,111,114,101]])),
  .ite (.or [.not (.call "_law_alike" [.call "outline" [.var 1],.var 3]),.not (.call "_law_alike" [.call "links" [.var 1],.var 5])]) [
   .ret (.bool false)] [],
  .ret (.call "_law_alike" [.var 1,.call "_law_tree" [.var 0]])]
noncomputable def f_law:Fn where
 names:=["_law_script", "_law_tree_here", "_law_due", "_law_heads", "_law_row_here", "_law_targets", "_law_held"]
 params:=1
 bump:=true
 body:=b_law
noncomputable def prg:List (String×Fn):=[("is_sign",f_is_sign),("is_row",f_is_row),("here_of",f_here_of),("put_plain",f_put_plain),("code_at",f_code_at),("link_at",f_link_at),("opens",f_opens),("last_is",f_last_is),("ended",f_ended),("parts_of",f_parts_of),("run_of",f_run_of),("shape",f_shape),("put_piece",f_put_piece),("link_pieces",f_link_pieces),("put_pieces",f_put_pieces),("pieces_of",f_pieces_of),("row_of",f_row_of),("is_number",f_is_number),("is_tuple",f_is_tuple),("is_part",f_is_part),("are_parts",f_are_parts),("is_content",f_is_content),("are_items",f_are_items),("are_rows",f_are_rows),("is_block",f_is_block),("are_blocks",f_are_blocks),("normal",f_normal),("need_normal",f_need_normal),("words_of",f_words_of),("put_headings",f_put_headings),("outline",f_outline),("put_links",f_put_links),("links_of_items",f_links_of_items),("links_of_blocks",f_links_of_blocks),("links",f_links),("_law_cell_at",f_law_cell_at),("_law_signs",f_law_signs),("_law_alike",f_law_alike),("_law_row",f_law_row),("_law_plain",f_law_plain),("_law_words",f_law_words),("_law_barred",f_law_barred),("_law_size",f_law_size),("_law_end",f_law_end),("_law_put",f_law_put),("_law_label",f_law_label),("_law_parts",f_law_parts),("_law_item",f_law_item),("_law_plain_row",f_law_plain_row),("_law_ahead",f_law_ahead),("_law_plainly",f_law_plainly),("_law_quote",f_law_quote),("_law_add",f_law_add),("_law_tree",f_law_tree),("_law_said",f_law_said),("_law_contents",f_law_contents),("_law_all",f_law_all),("_law_links",f_law_links),("law",f_law)]
noncomputable def gl:Gl:={ intL:=[("MOST_OPEN",12),("MOST_QUOTES",9),("MOST_SHARPS",6),("MOST_DASHES",9)],fns:=[("is_sign",[]),("is_row",[]),("here_of",[]),("put_plain",[]),("code_at",[]),("link_at",[]),("opens",[]),("last_is",[]),("ended",[]),("parts_of",[]),("run_of",[]),("shape",[]),("put_piece",[]),("link_pieces",[]),("put_pieces",[]),("pieces_of",[]),("row_of",[]),("is_number",[]),("is_tuple",[]),("is_part",[]),("are_parts",[]),("is_content",[]),("are_items",[]),("are_rows",[]),("is_block",[]),("are_blocks",[]),("normal",[]),("need_normal",[]),("words_of",[]),("put_headings",[]),("outline",[]),("put_links",[]),("links_of_items",[]),("links_of_blocks",[]),("links",[]),("_law_cell_at",[]),("_law_signs",[]),("_law_alike",[]),("_law_row",[]),("_law_plain",[]),("_law_words",[2]),("_law_barred",[]),("_law_size",[]),("_law_end",[]),("_law_put",[]),("_law_label",[]),("_law_parts",[]),("_law_item",[]),("_law_plain_row",[]),("_law_ahead",[]),("_law_plainly",[]),("_law_quote",[]),("_law_add",[]),("_law_tree",[]),("_law_said",[]),("_law_contents",[]),("_law_all",[]),("_law_links",[]),("law",[])] }
noncomputable abbrev P:Prg:=fun f=>prg.lookup f
theorem P_is_sign:P "is_sign" = some f_is_sign:=by rfl
theorem in_is_sign {n:Nat}{a0:V}{Q:PostV}{H:Heap}(h:wpSs (callN P n) b_is_sign [some a0,none] (callQ Q) H):callN P (n+1) "is_sign" [a0] Q H:=call_in P_is_sign rfl h
theorem P_is_row:P "is_row" = some f_is_row:=by rfl
theorem in_is_row {n:Nat}{a0:V}{Q:PostV}{H:Heap}(h:wpSs (callN P n) b_is_row [some a0,none] (callQ Q) H):callN P (n+1) "is_row" [a0] Q H:=call_in P_is_row rfl h
theorem P_here_of:P "here_of" = some f_here_of:=by rfl
theorem in_here_of {n:Nat}{a0 a1:V}{Q:PostV}{H:Heap}(h:wpSs (callN P n) b_here_of [some a0,some a1] (callQ Q) H):callN P (n+1) "here_of" [a0,a1] Q H:=call_in P_here_of rfl h
theorem P_put_plain:P "put_plain" = some f_put_plain:=by rfl
theorem in_put_plain {n:Nat}{a0 a1:V}{Q:PostV}{H:Heap}(h:wpSs (callN P n) b_put_plain [some a0,some a1] (callQ Q) H):callN P (n+1) "put_plain" [a0,a1] Q H:=call_in P_put_plain rfl h
theorem P_code_at:P "code_at" = some f_code_at:=by rfl
theorem in_code_at {n:Nat}{a0 a1:V}{Q:PostV}{H:Heap}(h:wpSs (callN P n) b_code_at [some a0,some a1,none] (callQ Q) H):callN P (n+1) "code_at" [a0,a1] Q H:=call_in P_code_at rfl h
theorem P_link_at:P "link_at" = some f_link_at:=by rfl
theorem in_link_at {n:Nat}{a0 a1 a2:V}{Q:PostV}{H:Heap}(h:wpSs (callN P n) b_link_at [some a0,some a1,some a2,none] (callQ Q) H):callN P (n+1) "link_at" [a0,a1,a2] Q H:=call_in P_link_at rfl h
theorem P_opens:P "opens" = some f_opens:=by rfl
theorem in_opens {n:Nat}{a0 a1 a2:V}{Q:PostV}{H:Heap}(h:wpSs (callN P n) b_opens [some a0,some a1,some a2] (callQ Q) H):callN P (n+1) "opens" [a0,a1,a2] Q H:=call_in P_opens rfl h
theorem P_last_is:P "last_is" = some f_last_is:=by rfl
theorem in_last_is {n:Nat}{a0 a1:V}{Q:PostV}{H:Heap}(h:wpSs (callN P n) b_last_is [some a0,some a1] (callQ Q) H):callN P (n+1) "last_is" [a0,a1] Q H:=call_in P_last_is rfl h
theorem P_ended:P "ended" = some f_ended:=by rfl
theorem in_ended {n:Nat}{a0 a1:V}{Q:PostV}{H:Heap}(h:wpSs (callN P n) b_ended [some a0,some a1,none,none] (callQ Q) H):callN P (n+1) "ended" [a0,a1] Q H:=call_in P_ended rfl h
theorem P_parts_of:P "parts_of" = some f_parts_of:=by rfl
theorem in_parts_of {n:Nat}{a0:V}{Q:PostV}{H:Heap}(h:wpSs (callN P n) b_parts_of [some a0,none,none,none,none,none,none,none] (callQ Q) H):callN P (n+1) "parts_of" [a0] Q H:=call_in P_parts_of rfl h
theorem P_run_of:P "run_of" = some f_run_of:=by rfl
theorem in_run_of {n:Nat}{a0 a1:V}{Q:PostV}{H:Heap}(h:wpSs (callN P n) b_run_of [some a0,some a1,none] (callQ Q) H):callN P (n+1) "run_of" [a0,a1] Q H:=call_in P_run_of rfl h
theorem P_shape:P "shape" = some f_shape:=by rfl
theorem in_shape {n:Nat}{a0 a1:V}{Q:PostV}{H:Heap}(h:wpSs (callN P n) b_shape [some a0,some a1,none,none] (callQ Q) H):callN P (n+1) "shape" [a0,a1] Q H:=call_in P_shape rfl h
theorem P_put_piece:P "put_piece" = some f_put_piece:=by rfl
theorem in_put_piece {n:Nat}{a0 a1 a2:V}{Q:PostV}{H:Heap}(h:wpSs (callN P n) b_put_piece [some a0,some a1,some a2] (callQ Q) H):callN P (n+1) "put_piece" [a0,a1,a2] Q H:=call_in P_put_piece rfl h
theorem P_link_pieces:P "link_pieces" = some f_link_pieces:=by rfl
theorem in_link_pieces {n:Nat}{a0 a1:V}{Q:PostV}{H:Heap}(h:wpSs (callN P n) b_link_pieces [some a0,some a1] (callQ Q) H):callN P (n+1) "link_pieces" [a0,a1] Q H:=call_in P_link_pieces rfl h
theorem P_put_pieces:P "put_pieces" = some f_put_pieces:=by rfl
theorem in_put_pieces {n:Nat}{a0 a1:V}{Q:PostV}{H:Heap}(h:wpSs (callN P n) b_put_pieces [some a0,some a1,none] (callQ Q) H):callN P (n+1) "put_pieces" [a0,a1] Q H:=call_in P_put_pieces rfl h
theorem P_pieces_of:P "pieces_of" = some f_pieces_of:=by rfl
theorem in_pieces_of {n:Nat}{a0:V}{Q:PostV}{H:Heap}(h:wpSs (callN P n) b_pieces_of [some a0,none] (callQ Q) H):callN P (n+1) "pieces_of" [a0] Q H:=call_in P_pieces_of rfl h
theorem P_row_of:P "row_of" = some f_row_of:=by rfl
theorem in_row_of {n:Nat}{a0:V}{Q:PostV}{H:Heap}(h:wpSs (callN P n) b_row_of [some a0,none] (callQ Q) H):callN P (n+1) "row_of" [a0] Q H:=call_in P_row_of rfl h
theorem P_is_number:P "is_number" = some f_is_number:=by rfl
theorem in_is_number {n:Nat}{a0 a1:V}{Q:PostV}{H:Heap}(h:wpSs (callN P n) b_is_number [some a0,some a1] (callQ Q) H):callN P (n+1) "is_number" [a0,a1] Q H:=call_in P_is_number rfl h
theorem P_is_tuple:P "is_tuple" = some f_is_tuple:=by rfl
theorem in_is_tuple {n:Nat}{a0 a1 a2:V}{Q:PostV}{H:Heap}(h:wpSs (callN P n) b_is_tuple [some a0,some a1,some a2] (callQ Q) H):callN P (n+1) "is_tuple" [a0,a1,a2] Q H:=call_in P_is_tuple rfl h
theorem P_is_part:P "is_part" = some f_is_part:=by rfl
theorem in_is_part {n:Nat}{a0 a1:V}{Q:PostV}{H:Heap}(h:wpSs (callN P n) b_is_part [some a0,some a1] (callQ Q) H):callN P (n+1) "is_part" [a0,a1] Q H:=call_in P_is_part rfl h
theorem P_are_parts:P "are_parts" = some f_are_parts:=by rfl
theorem in_are_parts {n:Nat}{a0 a1:V}{Q:PostV}{H:Heap}(h:wpSs (callN P n) b_are_parts [some a0,some a1,none] (callQ Q) H):callN P (n+1) "are_parts" [a0,a1] Q H:=call_in P_are_parts rfl h
theorem P_is_content:P "is_content" = some f_is_content:=by rfl
theorem in_is_content {n:Nat}{a0:V}{Q:PostV}{H:Heap}(h:wpSs (callN P n) b_is_content [some a0] (callQ Q) H):callN P (n+1) "is_content" [a0] Q H:=call_in P_is_content rfl h
theorem P_are_items:P "are_items" = some f_are_items:=by rfl
theorem in_are_items {n:Nat}{a0 a1:V}{Q:PostV}{H:Heap}(h:wpSs (callN P n) b_are_items [some a0,some a1,none,none] (callQ Q) H):callN P (n+1) "are_items" [a0,a1] Q H:=call_in P_are_items rfl h
theorem P_are_rows:P "are_rows" = some f_are_rows:=by rfl
theorem in_are_rows {n:Nat}{a0 a1:V}{Q:PostV}{H:Heap}(h:wpSs (callN P n) b_are_rows [some a0,some a1,none] (callQ Q) H):callN P (n+1) "are_rows" [a0,a1] Q H:=call_in P_are_rows rfl h
theorem P_is_block:P "is_block" = some f_is_block:=by rfl
theorem in_is_block {n:Nat}{a0 a1:V}{Q:PostV}{H:Heap}(h:wpSs (callN P n) b_is_block [some a0,some a1] (callQ Q) H):callN P (n+1) "is_block" [a0,a1] Q H:=call_in P_is_block rfl h
theorem P_are_blocks:P "are_blocks" = some f_are_blocks:=by rfl
theorem in_are_blocks {n:Nat}{a0 a1:V}{Q:PostV}{H:Heap}(h:wpSs (callN P n) b_are_blocks [some a0,some a1,none,none] (callQ Q) H):callN P (n+1) "are_blocks" [a0,a1] Q H:=call_in P_are_blocks rfl h
theorem P_normal:P "normal" = some f_normal:=by rfl
theorem in_normal {n:Nat}{a0:V}{Q:PostV}{H:Heap}(h:wpSs (callN P n) b_normal [some a0] (callQ Q) H):callN P (n+1) "normal" [a0] Q H:=call_in P_normal rfl h
theorem P_need_normal:P "need_normal" = some f_need_normal:=by rfl
theorem in_need_normal {n:Nat}{a0:V}{Q:PostV}{H:Heap}(h:wpSs (callN P n) b_need_normal [some a0] (callQ Q) H):callN P (n+1) "need_normal" [a0] Q H:=call_in P_need_normal rfl h
theorem P_words_of:P "words_of" = some f_words_of:=by rfl
theorem in_words_of {n:Nat}{a0:V}{Q:PostV}{H:Heap}(h:wpSs (callN P n) b_words_of [some a0,none,none] (callQ Q) H):callN P (n+1) "words_of" [a0] Q H:=call_in P_words_of rfl h
theorem P_put_headings:P "put_headings" = some f_put_headings:=by rfl
theorem in_put_headings {n:Nat}{a0 a1:V}{Q:PostV}{H:Heap}(h:wpSs (callN P n) b_put_headings [some a0,some a1,none] (callQ Q) H):callN P (n+1) "put_headings" [a0,a1] Q H:=call_in P_put_headings rfl h
theorem P_outline:P "outline" = some f_outline:=by rfl
theorem in_outline {n:Nat}{a0:V}{Q:PostV}{H:Heap}(h:wpSs (callN P n) b_outline [some a0,none] (callQ Q) H):callN P (n+1) "outline" [a0] Q H:=call_in P_outline rfl h
theorem P_put_links:P "put_links" = some f_put_links:=by rfl
theorem in_put_links {n:Nat}{a0 a1:V}{Q:PostV}{H:Heap}(h:wpSs (callN P n) b_put_links [some a0,some a1,none] (callQ Q) H):callN P (n+1) "put_links" [a0,a1] Q H:=call_in P_put_links rfl h
theorem P_links_of_items:P "links_of_items" = some f_links_of_items:=by rfl
theorem in_links_of_items {n:Nat}{a0 a1:V}{Q:PostV}{H:Heap}(h:wpSs (callN P n) b_links_of_items [some a0,some a1,none] (callQ Q) H):callN P (n+1) "links_of_items" [a0,a1] Q H:=call_in P_links_of_items rfl h
theorem P_links_of_blocks:P "links_of_blocks" = some f_links_of_blocks:=by rfl
theorem in_links_of_blocks {n:Nat}{a0 a1:V}{Q:PostV}{H:Heap}(h:wpSs (callN P n) b_links_of_blocks [some a0,some a1,none,none] (callQ Q) H):callN P (n+1) "links_of_blocks" [a0,a1] Q H:=call_in P_links_of_blocks rfl h
theorem P_links:P "links" = some f_links:=by rfl
theorem in_links {n:Nat}{a0:V}{Q:PostV}{H:Heap}(h:wpSs (callN P n) b_links [some a0,none] (callQ Q) H):callN P (n+1) "links" [a0] Q H:=call_in P_links rfl h
theorem P_law_signs:P "_law_signs" = some f_law_signs:=by rfl
theorem in_law_signs {n:Nat}{Q:PostV}{H:Heap}(h:wpSs (callN P n) b_law_signs [none] (callQ Q) H):callN P (n+1) "_law_signs" [] Q H:=call_in P_law_signs rfl h
theorem P_law_alike:P "_law_alike" = some f_law_alike:=by rfl
theorem in_law_alike {n:Nat}{a0 a1:V}{Q:PostV}{H:Heap}(h:wpSs (callN P n) b_law_alike [some a0,some a1,none] (callQ Q) H):callN P (n+1) "_law_alike" [a0,a1] Q H:=call_in P_law_alike rfl h
theorem P_law_row:P "_law_row" = some f_law_row:=by rfl
theorem in_law_row {n:Nat}{a0:V}{Q:PostV}{H:Heap}(h:wpSs (callN P n) b_law_row [some a0,none,none] (callQ Q) H):callN P (n+1) "_law_row" [a0] Q H:=call_in P_law_row rfl h
theorem P_law_plain:P "_law_plain" = some f_law_plain:=by rfl
theorem in_law_plain {n:Nat}{a0 a1 a2 a3 a4:V}{Q:PostV}{H:Heap}(h:wpSs (callN P n) b_law_plain [some a0,some a1,some a2,some a3,some a4,none,none,none] (callQ Q) H):callN P (n+1) "_law_plain" [a0,a1,a2,a3,a4] Q H:=call_in P_law_plain rfl h
theorem P_law_words:P "_law_words" = some f_law_words:=by rfl
theorem in_law_words {n:Nat}{a0 a1 a2:V}{Q:PostV}{H:Heap}(h:wpSs (callN P n) b_law_words [some a0,some a1,some a2,none,none] (callQ Q) H):callN P (n+1) "_law_words" [a0,a1,a2] Q H:=call_in P_law_words rfl h
theorem P_law_barred:P "_law_barred" = some f_law_barred:=by rfl
theorem in_law_barred {n:Nat}{a0:V}{Q:PostV}{H:Heap}(h:wpSs (callN P n) b_law_barred [some a0] (callQ Q) H):callN P (n+1) "_law_barred" [a0] Q H:=call_in P_law_barred rfl h
theorem P_law_size:P "_law_size" = some f_law_size:=by rfl
theorem in_law_size {n:Nat}{a0:V}{Q:PostV}{H:Heap}(h:wpSs (callN P n) b_law_size [some a0] (callQ Q) H):callN P (n+1) "_law_size" [a0] Q H:=call_in P_law_size rfl h
theorem P_law_end:P "_law_end" = some f_law_end:=by rfl
theorem in_law_end {n:Nat}{a0 a1 a2:V}{Q:PostV}{H:Heap}(h:wpSs (callN P n) b_law_end [some a0,some a1,some a2,none,none] (callQ Q) H):callN P (n+1) "_law_end" [a0,a1,a2] Q H:=call_in P_law_end rfl h
theorem P_law_put:P "_law_put" = some f_law_put:=by rfl
theorem in_law_put {n:Nat}{a0 a1:V}{Q:PostV}{H:Heap}(h:wpSs (callN P n) b_law_put [some a0,some a1,none,none,none,none,none,none] (callQ Q) H):callN P (n+1) "_law_put" [a0,a1] Q H:=call_in P_law_put rfl h
theorem P_law_label:P "_law_label" = some f_law_label:=by rfl
theorem in_law_label {n:Nat}{a0 a1:V}{Q:PostV}{H:Heap}(h:wpSs (callN P n) b_law_label [some a0,some a1,none] (callQ Q) H):callN P (n+1) "_law_label" [a0,a1] Q H:=call_in P_law_label rfl h
theorem P_law_parts:P "_law_parts" = some f_law_parts:=by rfl
theorem in_law_parts {n:Nat}{a0 a1:V}{Q:PostV}{H:Heap}(h:wpSs (callN P n) b_law_parts [some a0,some a1,none,none,none,none,none,none] (callQ Q) H):callN P (n+1) "_law_parts" [a0,a1] Q H:=call_in P_law_parts rfl h
theorem P_law_item:P "_law_item" = some f_law_item:=by rfl
theorem in_law_item {n:Nat}{a0 a1 a2:V}{Q:PostV}{H:Heap}(h:wpSs (callN P n) b_law_item [some a0,some a1,some a2] (callQ Q) H):callN P (n+1) "_law_item" [a0,a1,a2] Q H:=call_in P_law_item rfl h
theorem P_law_plain_row:P "_law_plain_row" = some f_law_plain_row:=by rfl
theorem in_law_plain_row {n:Nat}{a0 a1:V}{Q:PostV}{H:Heap}(h:wpSs (callN P n) b_law_plain_row [some a0,some a1,none,none] (callQ Q) H):callN P (n+1) "_law_plain_row" [a0,a1] Q H:=call_in P_law_plain_row rfl h
theorem P_law_ahead:P "_law_ahead" = some f_law_ahead:=by rfl
theorem in_law_ahead {n:Nat}{a0 a1:V}{Q:PostV}{H:Heap}(h:wpSs (callN P n) b_law_ahead [some a0,some a1] (callQ Q) H):callN P (n+1) "_law_ahead" [a0,a1] Q H:=call_in P_law_ahead rfl h
theorem P_law_plainly:P "_law_plainly" = some f_law_plainly:=by rfl
theorem in_law_plainly {n:Nat}{a0 a1 a2:V}{Q:PostV}{H:Heap}(h:wpSs (callN P n) b_law_plainly [some a0,some a1,some a2,none] (callQ Q) H):callN P (n+1) "_law_plainly" [a0,a1,a2] Q H:=call_in P_law_plainly rfl h
theorem P_law_quote:P "_law_quote" = some f_law_quote:=by rfl
theorem in_law_quote {n:Nat}{a0 a1 a2:V}{Q:PostV}{H:Heap}(h:wpSs (callN P n) b_law_quote [some a0,some a1,some a2] (callQ Q) H):callN P (n+1) "_law_quote" [a0,a1,a2] Q H:=call_in P_law_quote rfl h
theorem P_law_add:P "_law_add" = some f_law_add:=by rfl
theorem in_law_add {n:Nat}{a0 a1 a2 a3 a4:V}{Q:PostV}{H:Heap}(h:wpSs (callN P n) b_law_add [some a0,some a1,some a2,some a3,some a4,none] (callQ Q) H):callN P (n+1) "_law_add" [a0,a1,a2,a3,a4] Q H:=call_in P_law_add rfl h
theorem P_law_tree:P "_law_tree" = some f_law_tree:=by rfl
theorem in_law_tree {n:Nat}{a0:V}{Q:PostV}{H:Heap}(h:wpSs (callN P n) b_law_tree [some a0,none,none,none,none,none] (callQ Q) H):callN P (n+1) "_law_tree" [a0] Q H:=call_in P_law_tree rfl h
theorem P_law_said:P "_law_said" = some f_law_said:=by rfl
theorem in_law_said {n:Nat}{a0:V}{Q:PostV}{H:Heap}(h:wpSs (callN P n) b_law_said [some a0,none,none] (callQ Q) H):callN P (n+1) "_law_said" [a0] Q H:=call_in P_law_said rfl h
theorem P_law_contents:P "_law_contents" = some f_law_contents:=by rfl
theorem in_law_contents {n:Nat}{a0:V}{Q:PostV}{H:Heap}(h:wpSs (callN P n) b_law_contents [some a0,none,none] (callQ Q) H):callN P (n+1) "_law_contents" [a0] Q H:=call_in P_law_contents rfl h
theorem P_law_all:P "_law_all" = some f_law_all:=by rfl
theorem in_law_all {n:Nat}{a0:V}{Q:PostV}{H:Heap}(h:wpSs (callN P n) b_law_all [some a0,none,none,none] (callQ Q) H):callN P (n+1) "_law_all" [a0] Q H:=call_in P_law_all rfl h
theorem P_law_links:P "_law_links" = some f_law_links:=by rfl
theorem in_law_links {n:Nat}{a0:V}{Q:PostV}{H:Heap}(h:wpSs (callN P n) b_law_links [some a0,none,none] (callQ Q) H):callN P (n+1) "_law_links" [a0] Q H:=call_in P_law_links rfl h
theorem P_law:P "law" = some f_law:=by rfl
theorem in_law {n:Nat}{a0:V}{Q:PostV}{H:Heap}(h:wpSs (callN P n) b_law [some a0,none,none,none,none,none,none] (callQ Q) H):callN P (n+1) "law" [a0] Q H:=call_in P_law rfl h
end L10
set_option linter.unusedVariables false
namespace Mini
noncomputable def Ev (C:Calls) (ρ:Env) (H:Heap) (e:E) (v:V):Prop:=∀ Q:PostV,Q v H->wpE C e ρ Q H
noncomputable def Evs (C:Calls) (ρ:Env) (H:Heap) (es:List E) (vs:List V):Prop:=∀ Q:List V->Heap->Prop,Q vs H->wpEs C es ρ Q H
section
variable {C:Calls}{ρ:Env}{H:Heap}{R:PostS}{ss:List S}
theorem v_var {x:Nat}{v:V}(h:ρ[x]? = some (some v)):Ev C ρ H (.var x) v:=fun _ k=>e_var h k
theorem v_int {i:Int}:Ev C ρ H (.int i) (.int i):=fun _ k=>k
theorem v_str {i:List Nat}:Ev C ρ H (.str i) (.str i):=fun _ k=>k
theorem v_neg {i:Int}:Ev C ρ H (.neg i) (.int (-i)):=fun _ k=>k
theorem v_bin {o:Op}{l r:E}{a b c:V}(hl:Ev C ρ H l a) (hr:Ev C ρ H r b) (h:binV o a b H=some (c,H)):Ev C ρ H (.bin o l r) c:=fun Q k=>hl _ (hr _ (by
 show res (binV o a b H) Q
 rw [h];exact k))
theorem v_cmp {o:Cmp}{l r:E}{a b:V}{t:Bool}(hl:Ev C ρ H l a) (hr:Ev C ρ H r b) (h:cmpV o a b H=some t):Ev C ρ H (.cmp o l r) (.bool t):=fun Q k=>hl _ (hr _ (by
 show boo (cmpV o a b H) (fun b H=>Q (.bool b) H) H
 rw [h];exact k))
theorem v_cmp2 {o o2:Cmp}{l r q:E}{a b d:V}{t t2:Bool}(hl:Ev C ρ H l a) (hr:Ev C ρ H r b) (hq:Ev C ρ H q d) (h:cmpV o a b H=some t) (h2:cmpV o2 b d H=some t2):Ev C ρ H (.cmp2 o o2 l r q) (.bool (t&&t2)):=fun Q k=>hl _ (hr _ (by
 show boo (cmpV o a b H) _ H
 rw [h]
 cases t with
 | true=>exact hq _ (by show boo (cmpV o2 b d H) (fun b H=>Q (.bool b) H) H;rw [h2];exact k)
 | false=>exact k))
theorem v_is {e:E}{c:Cst}{a:V}(he:Ev C ρ H e a):Ev C ρ H (.is e c) (.bool (isV a c)):=fun Q k=>he _ k
theorem v_inst {e:E}{c:Ty}{a:V}(he:Ev C ρ H e a):Ev C ρ H (.isinst e c) (.bool (isinstV a c)):=fun Q k=>he _ k
theorem v_not {e:E}{t:Bool}(he:Ev C ρ H e (.bool t)):Ev C ρ H (.not e) (.bool (!t)):=fun Q k=>he _ k
theorem v_idx {l r:E}{a b c:V}(hl:Ev C ρ H l a) (hr:Ev C ρ H r b) (h:idxV a b H=some c):Ev C ρ H (.idx l r) c:=fun Q k=>hl _ (hr _ (by
 show val (idxV a b H) Q H
 rw [h];exact k))
theorem v_slc {o l r:E}{a c:V}{i j:Int}(ho:Ev C ρ H o a) (hl:Ev C ρ H l (.int i)) (hr:Ev C ρ H r (.int j)) (h:slcV a (some i) (some j) H=some (c,H)):Ev C ρ H (.slc o l r) c:=fun Q k=>ho _ (hl _ (hr _ (by
 show res (slcV a (some i) (some j) H) Q
 rw [h];exact k)))
theorem v_slcL {o l:E}{a c:V}{i:Int}(ho:Ev C ρ H o a) (hl:Ev C ρ H l (.int i)) (h:slcV a (some i) none H=some (c,H)):Ev C ρ H (.slcL o l) c:=fun Q k=>ho _ (hl _ (by
 show res (slcV a (some i) none H) Q
 rw [h];exact k))
theorem v_slcH {o l:E}{a c:V}{i:Int}(ho:Ev C ρ H o a) (hl:Ev C ρ H l (.int i)) (h:slcV a none (some i) H=some (c,H)):Ev C ρ H (.slcH o l) c:=fun Q k=>ho _ (hl _ (by
 show res (slcV a none (some i) H) Q
 rw [h];exact k))
theorem v_len {e:E}{a:V}{n:Int}(he:Ev C ρ H e a) (h:lenV a H=some n):Ev C ρ H (.len e) (.int n):=fun Q k=>he _ (by
 show val ((lenV a H).map .int) Q H
 rw [h];exact k)
theorem v_find {o a b:E}{s:List Nat}{c:Nat}{i:Int}(ho:Ev C ρ H o (.str s)) (ha:Ev C ρ H a (.str [c])) (hb:Ev C ρ H b (.int i)) (h:0<=i):Ev C ρ H (.find o a b) (.int (findC s c i.toNat)):=fun Q k=>ho _ (ha _ (hb _ ⟨h,k⟩))
theorem v_tup {es:List E}{vs:List V}(h:Evs C ρ H es vs):Ev C ρ H (.tup es) (.tup vs):=fun Q k=>h _ k
theorem v_nil:Evs C ρ H [] []:=fun _ k=>k
theorem v_cons {e:E}{es:List E}{v:V}{vs:List V}(h:Ev C ρ H e v) (k:Evs C ρ H es vs):Evs C ρ H (e::es) (v::vs):=fun _ q=>h _ (k _ q)
theorem v_ord {e:E}{c:Nat}(he:Ev C ρ H e (.str [c])):Ev C ρ H (.ord e) (.int c):=fun Q k=>he _ k
theorem v_toInt {e:E}{b:Bool}(he:Ev C ρ H e (.bool b)):Ev C ρ H (.toInt e) (.int (if b then 1 else 0)):=fun Q k=>he _ k
theorem v_and2 {e f:E}{es:List E}{b b2:Bool}(h1:Ev C ρ H e (.bool b)) (h2:b=true->Ev C ρ H (.and (f::es)) (.bool b2)):Ev C ρ H (.and (e::f::es)) (.bool (b&&b2)):=fun Q k=>h1 _ (by
 cases b with
 | true=>exact h2 rfl _ k
 | false=>exact k)
theorem v_or2 {e f:E}{es:List E}{b b2:Bool}(h1:Ev C ρ H e (.bool b)) (h2:b=false->Ev C ρ H (.or (f::es)) (.bool b2)):Ev C ρ H (.or (e::f::es)) (.bool (b||b2)):=fun Q k=>h1 _ (by
 cases b with
 | true=>exact k
 | false=>exact h2 rfl _ k)
theorem v_and1 {e:E}{b:V}(h1:Ev C ρ H e b):Ev C ρ H (.and [e]) b:=h1
theorem v_or1 {e:E}{b:V}(h1:Ev C ρ H e b):Ev C ρ H (.or [e]) b:=h1
theorem v_e {e:E}{v v':V}(h:Ev C ρ H e v) (q:v=v'):Ev C ρ H e v':=q▸h
theorem v_b {e:E}{v v':Bool}(h:Ev C ρ H e (.bool v)) (q:v=v'):Ev C ρ H e (.bool v'):=q▸h
theorem o_addI {a b:Int}:binV .add (.int a) (.int b) H=some (.int (a+b),H):=rfl
theorem o_subI {a b:Int}:binV .sub (.int a) (.int b) H=some (.int (a - b),H):=rfl
theorem o_mod {a b:Int}(hb:0<b):binV .mod (.int a) (.int b) H=some (.int (a % b),H):=by
 show (if _ then _ else _)=_
 rw [if_pos hb]
theorem o_fdiv {a b:Int}(hb:0<b/\b<1073741824):binV .fdiv (.int a) (.int b) H=some (.int (a / b),H):=by
 show (if _ then _ else _)=_
 rw [if_pos hb]
theorem o_mulI {a b:Int}(hb:a.natAbs<1152921504606846976∨b.natAbs<1152921504606846976):binV .mul (.int a) (.int b) H=some (.int (a * b),H):=if_pos hb
theorem o_mulS {a:List Nat}{n:Int}(hb:a.length * n.toNat<=lim/\-4611686018427387904<n/\n<4611686018427387904):binV .mul (.str a) (.int n) H=some (.str (List.replicate n.toNat a).flatten,H):=if_pos hb
theorem o_addS {a b:List Nat}(hb:a.length+b.length<=lim):binV .add (.str a) (.str b) H=some (.str (a++b),H):=by
 show (if _ then _ else _)=_
 rw [if_pos hb]
theorem o_slcS {s:List Nat}{lo hi:Option Int}:slcV (.str s) lo hi H=some (.str (slice s lo hi),H):=rfl
theorem o_eqS {a b:List Nat}:cmpV .eq (.str a) (.str b) H=some (a==b):=rfl
theorem o_neS {a b:List Nat}:cmpV .ne (.str a) (.str b) H=some (!(a==b)):=rfl
theorem o_eqI {a b:Int}:cmpV .eq (.int a) (.int b) H=some (a==b):=rfl
theorem o_neI {a b:Int}:cmpV .ne (.int a) (.int b) H=some (!(a==b)):=rfl
theorem o_lt {a b:Int}:cmpV .lt (.int a) (.int b) H=some (decide (a<b)):=rfl
theorem o_le {a b:Int}:cmpV .le (.int a) (.int b) H=some (decide (a<=b)):=rfl
theorem o_gt {a b:Int}:cmpV .gt (.int a) (.int b) H=some (decide (b<a)):=rfl
theorem o_ge {a b:Int}:cmpV .ge (.int a) (.int b) H=some (decide (b<=a)):=rfl
theorem o_inS {c:Nat}{b:List Nat}:cmpV .isin (.str [c]) (.str b) H=some (b.contains c):=rfl
theorem o_lenS {s:List Nat}:lenV (.str s) H=some (s.length:Int):=rfl
theorem o_lenT {s:List V}:lenV (.tup s) H=some (s.length:Int):=rfl
theorem o_lenF {s:List Int}:lenV (.frz s) H=some (s.length:Int):=rfl
theorem o_lenR {a:Nat}{l:List V}(h:H[a]? = some l):lenV (.ref a) H=some (l.length:Int):=by show (H[a]?).map _=_;rw [h];rfl
theorem s_assign {x:Nat}{e:E}{v:V}(h:Ev C ρ H e v) (k:wpSs C ss (ρ.set x (some v)) R H):wpSs C (.assign x e::ss) ρ R H:=h _ k
theorem s_ret {e:E}{v:V}(h:Ev C ρ H e v) (k:R (.ret v) ρ H):wpSs C (.ret e::ss) ρ R H:=h _ k
theorem s_ite {c:E}{t f:List S}{b:Bool}(hc:Ev C ρ H c (.bool b)) (ht:b=true->wpSs C t ρ (andThen C ss R) H) (hf:b=false->wpSs C f ρ (andThen C ss R) H):wpSs C (.ite c t f::ss) ρ R H:=hc _ (by
 cases b with
 | true=>exact ht rfl
 | false=>exact hf rfl)
theorem v_call {f:String}{es:List E}{vs:List V}{v:V}(h:Evs C ρ H es vs) (k:∀ Q:PostV,Q v H->C f vs Q H):Ev C ρ H (.call f es) v:=fun Q q=>h _ (k Q q)
theorem s_skip {c:E}{t:List S}(hc:Ev C ρ H c (.bool false)) (k:wpSs C ss ρ R H):wpSs C (.ite c t []::ss) ρ R H:=hc _ k
theorem s_iteT {c:E}{t f:List S}(hc:Ev C ρ H c (.bool true)) (ht:wpSs C t ρ (andThen C ss R) H):wpSs C (.ite c t f::ss) ρ R H:=hc _ ht
theorem s_iteF {c:E}{t f:List S}(hc:Ev C ρ H c (.bool false)) (hf:wpSs C f ρ (andThen C ss R) H):wpSs C (.ite c t f::ss) ρ R H:=hc _ hf
theorem c_assign {x:Nat}{f:String}{es:List E}{vs:List V}(h:Evs C ρ H es vs) (k:C f vs (fun v H₁=>wpSs C ss (ρ.set x (some v)) R H₁) H):wpSs C (.assign x (.call f es)::ss) ρ R H:=h _ k
theorem c_ret {f:String}{es:List E}{vs:List V}(h:Evs C ρ H es vs) (k:C f vs (fun v H₁=>R (.ret v) ρ H₁) H):wpSs C (.ret (.call f es)::ss) ρ R H:=h _ k
theorem c_expr {f:String}{es:List E}{vs:List V}(h:Evs C ρ H es vs) (k:C f vs (fun _ H₁=>wpSs C ss ρ R H₁) H):wpSs C (.expr (.call f es)::ss) ρ R H:=h _ k
end
inductive Turn (C:Calls) (c:E) (b:List S) (Q:PostS) (ρ:Env) (H:Heap) (K:Env->Heap->Prop):Prop
 | go (hc:Ev C ρ H c (.bool true)) (hb:wpSs C b ρ (loopQ Q K) H)
 | stop (hc:Ev C ρ H c (.bool false)) (hq:Q .next ρ H)
theorem l_whl {C:Calls}{c:E}{b:List S}{Q:PostS}{σ:Type}(env:σ->Env) (I:σ->Heap->Prop) (μ:σ->Nat)
  (step:∀ s H,I s H->∀ K:Env->Heap->Prop,(∀ s' H',μ s'<μ s->I s' H'->K (env s') H')->Turn C c b Q (env s) H K) (s:σ) {H:Heap}(h:I s H):wpS C (.whl c b) (env s) Q H:=by
 refine whl_rule (fun m ρ H=>∃ s,m=μ s/\ρ=env s/\I s H) (fun k ρ H hI K hK=>?_) (μ s) ⟨s,rfl,rfl,h⟩
 obtain ⟨s,rfl,rfl,hI⟩:=hI
 rcases step s H hI K (fun s' H' hm h'=>hK (μ s') _ _ hm ⟨s',rfl,rfl,h'⟩) with ⟨hc,hb⟩ | ⟨hc,hq⟩
 ·exact hc _ hb
 ·exact hc _ hq
theorem l_forC {C:Calls}{x:Nat}{b:List S}{Q:PostS}{σ:Type}(env:σ->Env) (I:Nat->σ->Heap->Prop) {a:Nat}{l:List V}(hl:∀ i s H,I i s H->H[a]? = some l)
  (step:∀ i s H v,l[i]? = some v->I i s H->∀ K:Env->Heap->Prop,(∀ s' H',I (i+1) s' H'->K (env s') H')->wpSs C b ((env s).set x (some v)) (loopQ Q K) H)
  (fin:∀ s H,I l.length s H->Q .next (env s) H) (s:σ) {H:Heap}(h:I 0 s H):∃ n,forN (wpSs C b) x (.lst a) n 0 (env s) Q H:=by
 refine for_lst (l:=l) (fun i ρ H=>∃ s,ρ=env s/\I i s H) (fun i ρ H h=>?_) (fun i ρ H v hv hI K hK=>?_) (fun ρ H hI=>?_) ⟨s,rfl,h⟩
 ·obtain ⟨s,rfl,h⟩:=h;exact hl i s H h
 ·obtain ⟨s,rfl,h⟩:=hI;exact step i s H v hv h K fun s' H' h'=>hK _ _ ⟨s',rfl,h'⟩
 ·obtain ⟨s,rfl,h⟩:=hI;exact fin s H h
theorem l_for {C:Calls}{x:Nat}{e:E}{b:List S}{Q:PostS}{σ:Type}(env:σ->Env) (I:Nat->σ->Heap->Prop) {a:Nat}{l:List V}(hl:∀ i s H,I i s H->H[a]? = some l)
  (step:∀ i s H v,l[i]? = some v->I i s H->∀ K:Env->Heap->Prop,(∀ s' H',I (i+1) s' H'->K (env s') H')->wpSs C b ((env s).set x (some v)) (loopQ Q K) H)
  (fin:∀ s H,I l.length s H->Q .next (env s) H) (s:σ) {H:Heap}(he:Ev C (env s) H e (.ref a)) (h:I 0 s H):wpS C (.forIn x e b) (env s) Q H :=
 he (fun v H₁=>match iterV v with | some it=>∃ n,forN (wpSs C b) x it n 0 (env s) Q H₁ | none=>False) (l_forC env I hl step fin s h)
theorem s_append {C:Calls}{ρ:Env}{H H1:Heap}{R:PostS}{ss:List S}{o e:E}{a:Nat}{l:List V}{v:V}(ho:Ev C ρ H o (.ref a)) (he:∀ Q:PostV,Q v H1->wpE C e ρ Q H) (ha:H1[a]? = some l) (hl:l.length<lim) (k:wpSs C ss ρ R (H1.set a (l++[v]))):wpSs C (.expr (.append o e)::ss) ρ R H:=ho _ (he _ (h_append (Q:=fun _ H₁=>wpSs C ss ρ R H₁) ha hl k))
theorem c_append {C:Calls}{ρ:Env}{H:Heap}{R:PostS}{ss:List S}{o:E}{f:String}{es:List E}{vs:List V}{a:Nat}(ho:Ev C ρ H o (.ref a)) (h:Evs C ρ H es vs) (k:C f vs (fun v H₁=>hea (appendV (.ref a) v H₁) (fun _ H₂=>wpSs C ss ρ R H₂)) H):wpSs C (.expr (.append o (.call f es))::ss) ρ R H:=ho _ (h _ k)
theorem s_pop {C:Calls}{ρ:Env}{H:Heap}{R:PostS}{ss:List S}{x:Nat}{o:E}{a:Nat}{l:List V}{v:V}(ho:Ev C ρ H o (.ref a)) (ha:H[a]? = some (l++[v])) (k:wpSs C ss (ρ.set x (some v)) R (H.set a l)):wpSs C (.assign x (.pop o)::ss) ρ R H:=ho _ (r_pop (Q:=fun v H₁=>wpSs C ss (ρ.set x (some v)) R H₁) ha k)
theorem s_popE {C:Calls}{ρ:Env}{H:Heap}{R:PostS}{ss:List S}{o:E}{a:Nat}{l:List V}{v:V}(ho:Ev C ρ H o (.ref a)) (ha:H[a]? = some (l++[v])) (k:wpSs C ss ρ R (H.set a l)):wpSs C (.expr (.pop o)::ss) ρ R H:=ho _ (r_pop (Q:=fun _ H₁=>wpSs C ss ρ R H₁) ha k)
theorem es_ev {C:Calls}{ρ:Env}{H:Heap}{e:E}{es:List E}{v:V}{Q:List V->Heap->Prop}(h:Ev C ρ H e v) (k:wpEs C es ρ (fun vs H₂=>Q (v::vs) H₂) H):wpEs C (e::es) ρ Q H:=h _ k
theorem es_call {C:Calls}{ρ:Env}{H:Heap}{f:String}{fs es:List E}{vs:List V}{Q:List V->Heap->Prop}(h:Evs C ρ H fs vs) (k:C f vs (fun v H₁=>wpEs C es ρ (fun ws H₂=>Q (v::ws) H₂) H₁) H):wpEs C (.call f fs::es) ρ Q H:=h _ k
theorem es_list0 {C:Calls}{ρ:Env}{H:Heap}{Q:List V->Heap->Prop}(k:Q [.ref H.length] (H++[[]])):wpEs C [.list []] ρ Q H:=k
theorem s_setIdx {C:Calls}{ρ:Env}{H:Heap}{R:PostS}{ss:List S}{o i e:E}{a k:Nat}{z:Int}{l:List V}{v:V}(he:Ev C ρ H e v) (ho:Ev C ρ H o (.ref a)) (hi:Ev C ρ H i (.int z)) (ha:H[a]? = some l) (hk:place z l.length=some k) (q:wpSs C ss ρ R (H.set a (l.set k v))):wpSs C (.setIdx o i e::ss) ρ R H:=he _ (ho _ (hi _ (h_set (Q:=fun _ H₁=>wpSs C ss ρ R H₁) ha hk q)))
theorem s_assignG {C:Calls}{ρ:Env}{H H1:Heap}{R:PostS}{ss:List S}{x:Nat}{e:E}{v:V}(h:∀ Q:PostV,Q v H1->wpE C e ρ Q H) (k:wpSs C ss (ρ.set x (some v)) R H1):wpSs C (.assign x e::ss) ρ R H:=h _ k
theorem i_ref {H:Heap}{a i:Nat}{l:List V}{c:V}(ha:H[a]? = some l) (hc:l[i]? = some c):idxV (.ref a) (.int i) H=some c:=by
 show (H[a]?).bind _=_
 rw [ha]
 show (place (i:Int) l.length).bind _=_
 rw [place_nat (List.getElem?_eq_some_iff.mp hc).1];exact hc
theorem i_last {H:Heap}{a:Nat}{l:List V}{c:V}(ha:H[a]? = some (l++[c])):idxV (.ref a) (.int (-1)) H=some c:=by
 show (H[a]?).bind _=_
 rw [ha]
 show (place (-1) (l++[c]).length).bind _=_
 rw [List.length_append,List.length_singleton,place_last]
 show (l++[c])[l.length]? = _
 rw [List.getElem?_append_right (Nat.le_refl _),Nat.sub_self];rfl
theorem i_str {H:Heap}{s:List Nat}{i c:Nat}(hc:s[i]? = some c):idxV (.str s) (.int i) H=some (.str [c]):=by
 show (place (i:Int) s.length).bind _=_
 rw [place_nat (List.getElem?_eq_some_iff.mp hc).1]
 show (s[i]?).map _=_
 rw [hc];rfl
theorem l_forR {C:Calls}{x:Nat}{e:E}{b:List S}{Q:PostS}{σ:Type}(env:σ->Env) (I:Nat->σ->Heap->Prop) {n:Nat}(hn:n<4611686018427387904)
  (step:∀ i s H,i<n->I i s H->∀ K:Env->Heap->Prop,(∀ s' H',I (i+1) s' H'->K (env s') H')->wpSs C b ((env s).set x (some (.int (i:Int)))) (loopQ Q K) H)
  (fin:∀ s H,I n s H->Q .next (env s) H) (s:σ) {H:Heap}(he:Ev C (env s) H e (.int (n:Int))) (h:I 0 s H):wpS C (.forR x e b) (env s) Q H:=by
 refine he (fun v H₁=>match rangeV v with | some it=>∃ m,forN (wpSs C b) x it m 0 (env s) Q H₁ | none=>False) ?_
 show match rangeV (.int (n:Int)) with | some it=>∃ m,forN (wpSs C b) x it m 0 (env s) Q H | none=>False
 rw [range_nat hn]
 refine for_fix (fun i ρ H=>∃ s,ρ=env s/\I i s H) (fun i ρ H v hv hI K hK=>?_) (fun ρ H hI=>?_) ⟨s,rfl,h⟩
 ·obtain ⟨s,rfl,h⟩:=hI
  have hi:i<n:=by
   have:=(List.getElem?_eq_some_iff.mp hv).1
   simpa using this
  have e:v=.int (i:Int):=by
   simp [hi] at hv
   exact hv.symm
  subst e
  exact step i s H hi h K fun s' H' h'=>hK _ _ ⟨s',rfl,h'⟩
 ·obtain ⟨s,rfl,h⟩:=hI
  exact fin s H (by simpa using h)
theorem l_forS {C:Calls}{x:Nat}{e:E}{b:List S}{Q:PostS}{σ:Type}(env:σ->Env) (I:Nat->σ->Heap->Prop) {t:List Nat}
  (step:∀ i s H c,t[i]? = some c->I i s H->∀ K:Env->Heap->Prop,(∀ s' H',I (i+1) s' H'->K (env s') H')->wpSs C b ((env s).set x (some (.str [c]))) (loopQ Q K) H)
  (fin:∀ s H,I t.length s H->Q .next (env s) H) (s:σ) {H:Heap}(he:Ev C (env s) H e (.str t)) (h:I 0 s H):wpS C (.forIn x e b) (env s) Q H:=by
 refine he (fun v H₁=>match iterV v with | some it=>∃ n,forN (wpSs C b) x it n 0 (env s) Q H₁ | none=>False) ?_
 refine for_fix (vs:=t.map fun c=>V.str [c]) (fun i ρ H=>∃ s,ρ=env s/\I i s H) (fun i ρ H v hv hI K hK=>?_) (fun ρ H hI=>?_) ⟨s,rfl,h⟩
 ·obtain ⟨s,rfl,h⟩:=hI
  rw [List.getElem?_map] at hv
  obtain ⟨c,hc,rfl⟩:=Option.map_eq_some_iff.mp hv
  exact step i s H c hc h K fun s' H' h'=>hK _ _ ⟨s',rfl,h'⟩
 ·obtain ⟨s,rfl,h⟩:=hI
  rw [List.length_map] at h
  exact fin s H h
theorem compL_inv {C:Calls}{elt:E}{x a:Nat}{ρ:Env}{l:List V}{Q:List V->Heap->Prop}(hn:l.length<=lim) (I:Nat->List V->Heap->Prop) (hl:∀ i acc G,I i acc G->G[a]? = some l)
  (step:∀ i acc G v,l[i]? = some v->acc.length=i->I i acc G->∀ K:PostV,(∀ w G',I (i+1) (acc++[w]) G'->K w G')->wpE C elt (ρ.set x (some v)) K G)
  (fin:∀ acc G,acc.length=l.length->I l.length acc G->Q acc G):∀ (m i:Nat) (acc:List V) (H:Heap),l.length<m+i->i<=l.length->acc.length=i->I i acc H->compN (wpTest C []) (wpE C elt) x ρ (.lst a) m i acc Q H
 | 0,i,_,_,h,hi,_,_=>absurd h (by lia)
 | m+1,i,acc,H,h,hi,hlen,hI=>by
  show (match (It.lst a).at H i with | none=>_ | some v=>_)
  have hat:(It.lst a).at H i=l[i]?:=by unfold It.at;simp only [hl i acc H hI]
  rw [hat]
  by_cases hlt:i<l.length
  ·rw [List.getElem?_eq_getElem hlt]
   exact step i acc H _ (List.getElem?_eq_getElem hlt) hlen hI _ fun w G' hI'=>⟨by lia,compL_inv hn I hl step fin m (i+1) (acc++[w]) G' (by lia) hlt (by rw [List.length_append,hlen];rfl) hI'⟩
  ·have e:i=l.length:=by lia
   subst e
   rw [List.getElem?_eq_none (Nat.le_refl _)]
   exact fin acc H hlen hI
noncomputable def EvH (C:Calls) (ρ:Env) (H:Heap) (e:E) (v:V) (Φ:Heap->Prop):Prop:=∀ Q:PostV,(∀ G,Φ G->Q v G)->wpE C e ρ Q H
section
variable {C:Calls}{ρ:Env}{H:Heap}{R:PostS}{ss:List S}{Φ Ψ:Heap->Prop}
theorem h_ev {e:E}{v:V}(h:Ev C ρ H e v):EvH C ρ H e v (fun G=>G=H):=fun _ k=>h _ (k H rfl)
theorem h_to {e:E}{v:V}(h:EvH C ρ H e v Φ) (k:∀ G,Φ G->Ψ G):EvH C ρ H e v Ψ:=fun Q q=>h Q fun G g=>q G (k G g)
theorem h_call {f:String}{es:List E}{vs:List V}{v:V}(h:Evs C ρ H es vs) (k:∀ Q:PostV,(∀ G,Φ G->Q v G)->C f vs Q H):EvH C ρ H (.call f es) v Φ:=fun Q q=>h _ (k Q q)
theorem h_not {e:E}{t:Bool}(h:EvH C ρ H e (.bool t) Φ):EvH C ρ H (.not e) (.bool (!t)) Φ:=fun Q q=>h _ fun G g=>q G g
theorem h_or2 {e f:E}{es:List E}{v:V}(h1:EvH C ρ H e (.bool false) Φ) (h2:∀ G,Φ G->EvH C ρ G (.or (f::es)) v Ψ):EvH C ρ H (.or (e::f::es)) v Ψ:=fun Q k=>h1 _ fun G g=>h2 G g Q k
theorem h_or1 {e:E}{v:V}(h1:EvH C ρ H e v Φ):EvH C ρ H (.or [e]) v Φ:=h1
theorem h_and2 {e f:E}{es:List E}{v:V}(h1:EvH C ρ H e (.bool true) Φ) (h2:∀ G,Φ G->EvH C ρ G (.and (f::es)) v Ψ):EvH C ρ H (.and (e::f::es)) v Ψ:=fun Q k=>h1 _ fun G g=>h2 G g Q k
theorem h_and1 {e:E}{v:V}(h1:EvH C ρ H e v Φ):EvH C ρ H (.and [e]) v Φ:=h1
theorem h_b {e:E}{v v':Bool}(h:EvH C ρ H e (.bool v) Φ) (q:v=v'):EvH C ρ H e (.bool v') Φ:=q▸h
theorem hs_skip {c:E}{t:List S}(hc:EvH C ρ H c (.bool false) Φ) (k:∀ G,Φ G->wpSs C ss ρ R G):wpSs C (.ite c t []::ss) ρ R H:=hc _ fun G g=>k G g
theorem hs_iteT {c:E}{t f:List S}(hc:EvH C ρ H c (.bool true) Φ) (k:∀ G,Φ G->wpSs C t ρ (andThen C ss R) G):wpSs C (.ite c t f::ss) ρ R H:=hc _ fun G g=>k G g
theorem hs_ret {e:E}{v:V}(h:EvH C ρ H e v Φ) (k:∀ G,Φ G->R (.ret v) ρ G):wpSs C (.ret e::ss) ρ R H:=h _ fun G g=>k G g
theorem h_cmp {o:Cmp}{l r:E}{a b:V}{t:Bool}(hl:EvH C ρ H l a Φ) (hr:∀ G,Φ G->EvH C ρ G r b Ψ) (h:∀ G,Ψ G->cmpV o a b G=some t):EvH C ρ H (.cmp o l r) (.bool t) Ψ:=fun Q k=>hl _ fun G g=>hr G g _ fun G' g'=>by
 show boo (cmpV o a b G') (fun b H=>Q (.bool b) H) G'
 rw [h G' g'];exact k G' g'
theorem h_list0:EvH C ρ H (.list []) (.ref H.length) (fun G=>G=H++[[]]):=fun _ k=>k _ rfl
end
end Mini
set_option genSizeOf false
set_option linter.unusedVariables false
namespace L10
open Mini
inductive A where
 | n
 | b (t:Bool)
 | i (z:Int)
 | s (w:List Nat)
noncomputable def aV:A->V
 | .n=>.none
 | .b t=>.bool t
 | .i z=>.int z
 | .s w=>.str w
inductive X where
 | at (a:A)
 | tup (xs:List X)
 | lst (xs:List X)
structure Bd (lo hi a p q:Nat):Prop where
 la:lo<=a
 ah:a<hi
 lp:lo<=p
 qh:q<=hi
theorem Bd.mono {lo hi a p q lo' hi':Nat}(h:Bd lo hi a p q) (h1:lo'<=lo) (h2:hi<=hi'):Bd lo' hi' a p q :=
 ⟨Nat.le_trans h1 h.la,Nat.lt_of_lt_of_le h.ah h2,Nat.le_trans h1 h.lp,Nat.le_trans h.qh h2⟩
mutual
noncomputable def Rep (H:Heap):X->Nat->Nat->V->Prop
 | .at a,_,_,v=>v=aV a
 | .tup xs,lo,hi,v=>∃ vs,v=.tup vs/\Reps H xs lo hi vs
 | .lst xs,lo,hi,v=>∃ a vs p q,v=.ref a/\Bd lo hi a p q/\H[a]? = some vs/\Reps H xs p q vs
noncomputable def Reps (H:Heap):List X->Nat->Nat->List V->Prop
 | [],lo,hi,l=>lo<=hi/\l=[]
 | x::xs,lo,hi,l=>∃ v r m,l=v::r/\lo<=m/\Rep H x lo m v/\Reps H xs m hi r
end
noncomputable def Eqv (H G:Heap) (lo hi:Nat):Prop:=∀ x,lo<=x->x<hi->G[x]? = H[x]?
theorem Eqv.sub {H G:Heap}{lo hi lo' hi':Nat}(h:Eqv H G lo hi) (h1:lo<=lo') (h2:hi'<=hi):Eqv H G lo' hi':=fun x a b=>h x (Nat.le_trans h1 a) (Nat.lt_of_lt_of_le b h2)
theorem Eqv.refl {H:Heap}{lo hi:Nat}:Eqv H H lo hi:=fun _ _ _=>rfl
theorem Eqv.trans {A B C:Heap}{lo hi:Nat}(h:Eqv A B lo hi) (k:Eqv B C lo hi):Eqv A C lo hi:=fun x a b=>(k x a b).trans (h x a b)
theorem Reps.le {H:Heap}:∀ {xs:List X}{lo hi:Nat}{l:List V},Reps H xs lo hi l->lo<=hi
 | [],_,_,_,h=>h.1
 | _::xs,_,_,_,h=>by
  obtain ⟨v,r,m,_,h1,_,h2⟩:=h
  exact Nat.le_trans h1 (Reps.le (xs:=xs) h2)
mutual
theorem Rep.mono {H G:Heap}:∀ (x:X) (lo hi lo' hi':Nat) (v:V),Eqv H G lo hi->lo'<=lo->hi<=hi'->Rep H x lo hi v->Rep G x lo' hi' v
 | .at _,_,_,_,_,_,_,_,_,h=>h
 | .tup xs,lo,hi,lo',hi',_,hf,h1,h2,h=>by
  obtain ⟨vs,e,h⟩:=h
  exact ⟨vs,e,Reps.mono xs lo hi lo' hi' vs hf h1 h2 h⟩
 | .lst xs,lo,hi,lo',hi',_,hf,h1,h2,h=>by
  obtain ⟨a,l,p,q,e,hb,hl,hr⟩:=h
  exact ⟨a,l,p,q,e,hb.mono h1 h2,(hf a hb.la hb.ah).trans hl,Reps.mono xs p q p q l (hf.sub hb.lp hb.qh) (Nat.le_refl _) (Nat.le_refl _) hr⟩
theorem Reps.mono {H G:Heap}:∀ (xs:List X) (lo hi lo' hi':Nat) (l:List V),Eqv H G lo hi->lo'<=lo->hi<=hi'->Reps H xs lo hi l->Reps G xs lo' hi' l
 | [],_,_,_,_,_,_,h1,h2,h=>⟨Nat.le_trans h1 (Nat.le_trans h.1 h2),h.2⟩
 | x::xs,lo,hi,lo',hi',_,hf,h1,h2,h=>by
  obtain ⟨v,r,m,e,b1,g1,g2⟩:=h
  exact ⟨v,r,m,e,Nat.le_trans h1 b1,Rep.mono x lo m lo' m v (hf.sub (Nat.le_refl _) (Reps.le g2)) h1 (Nat.le_refl _) g1,Reps.mono xs m hi m hi' r (hf.sub b1 (Nat.le_refl _)) (Nat.le_refl _) h2 g2⟩
end
theorem Rep.to {H G:Heap}{x:X}{lo hi:Nat}{v:V}(h:Rep H x lo hi v) (k:Eqv H G lo hi):Rep G x lo hi v:=Rep.mono _ _ _ _ _ _ k (Nat.le_refl _) (Nat.le_refl _) h
theorem Reps.to {H G:Heap}{x:List X}{lo hi:Nat}{v:List V}(h:Reps H x lo hi v) (k:Eqv H G lo hi):Reps G x lo hi v:=Reps.mono _ _ _ _ _ _ k (Nat.le_refl _) (Nat.le_refl _) h
theorem Reps.wide {H:Heap}{x:List X}{lo hi lo' hi':Nat}{v:List V}(h:Reps H x lo hi v) (h1:lo'<=lo) (h2:hi<=hi'):Reps H x lo' hi' v:=Reps.mono _ _ _ _ _ _ .refl h1 h2 h
theorem Rep.wide {H:Heap}{x:X}{lo hi lo' hi':Nat}{v:V}(h:Rep H x lo hi v) (h1:lo'<=lo) (h2:hi<=hi'):Rep H x lo' hi' v:=Rep.mono _ _ _ _ _ _ .refl h1 h2 h
theorem Reps.nil {H:Heap}{lo hi:Nat}(h:lo<=hi):Reps H [] lo hi []:=⟨h,rfl⟩
theorem Reps.one {H:Heap}{x:X}{lo hi:Nat}{v:V}(hh:lo<=hi) (h:Rep H x lo hi v):Reps H [x] lo hi [v]:=⟨v,[],hi,rfl,hh,h,Nat.le_refl _,rfl⟩
theorem Reps.app {H:Heap}{ys:List X}{m:List V}{mid hi:Nat}(hm:Reps H ys mid hi m):∀ {xs:List X}{lo:Nat}{l:List V},Reps H xs lo mid l->Reps H (xs++ys) lo hi (l++m)
 | [],lo,l,h=>by
  obtain ⟨h1,rfl⟩:=h
  exact hm.wide h1 (Nat.le_refl _)
 | x::xs,lo,l,h=>by
  obtain ⟨v,r,k,rfl,b1,g1,g2⟩:=h
  exact ⟨v,r++m,k,rfl,b1,g1,Reps.app hm g2⟩
theorem Reps.add {H:Heap}{x:X}{v:V}{mid hi:Nat}{xs:List X}{lo:Nat}{l:List V}(h:Reps H xs lo mid l) (hh:mid<=hi) (hm:Rep H x mid hi v):Reps H (xs++[x]) lo hi (l++[v]):=Reps.app (.one hh hm) h
theorem Reps.cut {H:Heap}{ys:List X}{hi:Nat}:∀ {xs:List X}{lo:Nat}{l:List V},Reps H (xs++ys) lo hi l->∃ a b m,l=a++b/\Reps H xs lo m a/\Reps H ys m hi b
 | [],lo,l,h=>⟨[],l,lo,rfl,⟨Nat.le_refl _,rfl⟩,h⟩
 | x::xs,lo,l,h=>by
  obtain ⟨v,r,k,rfl,b1,g1,g2⟩:=h
  obtain ⟨a,b,m,rfl,h3,h4⟩:=Reps.cut (xs:=xs) g2
  exact ⟨v::a,b,m,rfl,⟨v,a,k,rfl,b1,g1,h3⟩,h4⟩
theorem Reps.len {H:Heap}:∀ {xs:List X}{lo hi:Nat}{l:List V},Reps H xs lo hi l->l.length=xs.length
 | [],_,_,_,h=>by rw [h.2];rfl
 | _::xs,_,_,_,h=>by
  obtain ⟨v,r,m,rfl,_,_,h2⟩:=h
  exact congrArg (· + 1) (Reps.len h2)
theorem Reps.get {H:Heap}:∀ {xs:List X}{lo hi:Nat}{l:List V}{i:Nat}{c:V},Reps H xs lo hi l->l[i]? = some c->∃ x p q,xs[i]? = some x/\Rep H x p q c
 | [],_,_,_,i,c,h,hc=>by rw [h.2] at hc;cases hc
 | x::xs,_,_,_,i,c,h,hc=>by
  obtain ⟨v,r,m,rfl,_,h1,h2⟩:=h
  cases i with
  | zero=>cases hc;exact ⟨x,_,_,rfl,h1⟩
  | succ i=>exact Reps.get (xs:=xs) (i:=i) h2 hc
noncomputable def Fit (w:Nat):Nat->X->Prop
 | 0,x=>match x with
  | .at _=>True
  | _=>False
 | m+1,x=>match x with
  | .at _=>True
  | .tup xs=>xs.length<=w/\∀ y∈xs,Fit w m y
  | .lst xs=>xs.length<=w/\∀ y∈xs,Fit w m y
theorem Fit.at {w m:Nat}{a:A}:Fit w m (.at a):=by cases m<;>exact trivial
theorem Fit.tup {w m:Nat}{xs:List X}(h1:xs.length<=w) (h2:∀ y∈xs,Fit w m y):Fit w (m+1) (.tup xs):=⟨h1,h2⟩
theorem Fit.lst {w m:Nat}{xs:List X}(h1:xs.length<=w) (h2:∀ y∈xs,Fit w m y):Fit w (m+1) (.lst xs):=⟨h1,h2⟩
theorem Fit.up {w w':Nat}(hw:w<=w'):∀ {m m':Nat}{x:X},m<=m'->Fit w m x->Fit w' m' x
 | 0,m',.at _,_,_=>Fit.at
 | 0,m',.tup _,_,h=>h.elim
 | 0,m',.lst _,_,h=>h.elim
 | m+1,m',.at _,_,_=>Fit.at
 | m+1,m'+1,.tup _,hm,h=>⟨Nat.le_trans h.1 hw,fun y hy=>Fit.up hw (Nat.le_of_succ_le_succ hm) (h.2 y hy)⟩
 | m+1,m'+1,.lst _,hm,h=>⟨Nat.le_trans h.1 hw,fun y hy=>Fit.up hw (Nat.le_of_succ_le_succ hm) (h.2 y hy)⟩
theorem alike_at {n:Nat}{a:A}{Q:PostV}{H:Heap}(h:Q (.bool true) H):callN P (n+1) "_law_alike" [aV a,aV a] Q H:=by
 refine in_law_alike ?_
 match a with
 | .n=>exact s_iteT (fun _ h=>h) (s_ret (fun _ h=>h) h)
 | .b true=>exact s_skip (fun _ h=>h) (s_iteT (fun _ h=>h) (s_ret (fun _ h=>h) h))
 | .b false=>exact s_skip (fun _ h=>h) (s_skip (fun _ h=>h) (s_iteT (fun _ h=>h) (s_ret (fun _ h=>h) h)))
 | .s w =>
  have e:∀ {C:Calls}{x:Option V},Ev C [some (.str w),some (.str w),x] H (.cmp .eq (.var 0) (.var 1)) (.bool (w==w)):=fun _ h=>h
  rw [beq_self_eq_true] at e
  exact s_skip (fun _ h=>h) (s_skip (fun _ h=>h) (s_skip (fun _ h=>h) (s_iteT (fun _ h=>h) (s_ret (v_and2 (b:=true) (fun _ h=>h) fun _=>v_and1 e) h))))
 | .i w =>
  have e:∀ {C:Calls}{x:Option V},Ev C [some (.int w),some (.int w),x] H (.cmp .eq (.var 0) (.var 1)) (.bool (w==w)):=fun _ h=>h
  rw [beq_self_eq_true] at e
  exact s_skip (fun _ h=>h) (s_skip (fun _ h=>h) (s_skip (fun _ h=>h) (s_skip (fun _ h=>h) (s_iteT (fun _ h=>h) (s_ret (v_and2 (b:=true) (fun _ h=>h) fun _=>v_and2 (b:=true) (fun _ h=>h) fun _=>v_and1 e) h)))))
theorem alike_loop {n:Nat}{x y:V}{l l':List V}{Q:PostV}{H:Heap}(hl:l.length<4611686018427387904) (hll:l'.length=l.length)
  (hx:∀ (i:Nat) (c:V),l[i]? = some c->idxV x (.int i) H=some c) (hy:∀ (i:Nat) (c:V),l'[i]? = some c->idxV y (.int i) H=some c) (hlen:lenV y H=some (l.length:Int))
  (hi:∀ (i:Nat) (c c':V),l[i]? = some c->l'[i]? = some c'->∀ K:PostV,K (.bool true) H->callN P n "_law_alike" [c,c'] K H) (h:Q (.bool true) H) :
  wpSs (callN P n) (b_law_alike.drop 7) [some x,some y,none] (callQ Q) H:=by
 refine ss_cons (l_forR (σ:=Option V) (fun e=>[some x,some y,e]) (fun _ _ G=>G=H) hl (fun i e G hlt hG K hK=>?_) (fun e G hG=>?_) none (v_len (fun _ h=>h) hlen) rfl)
 ·subst hG
  have hg:l[i]? = some l[i]:=List.getElem?_eq_getElem hlt
  have hg':l'[i]? = some (l'[i]'(hll.symm▸hlt)):=List.getElem?_eq_getElem _
  exact s_skip (v_not (t:=true) (v_call (v_cons (v_idx (fun _ h=>h) (fun _ h=>h) (hx i _ hg)) (v_cons (v_idx (fun _ h=>h) (fun _ h=>h) (hy i _ hg')) v_nil)) fun Q q=>hi i _ _ hg hg' Q q)) (hK (some (.int i)) _ rfl)
 ·subst hG
  exact h
theorem alike_tup {n:Nat}{l l':List V}{Q:PostV}{H:Heap}(hl:l.length<4611686018427387904) (hll:l'.length=l.length) (hi:∀ (i:Nat) (c c':V),l[i]? = some c->l'[i]? = some c'->∀ K:PostV,K (.bool true) H->callN P n "_law_alike" [c,c'] K H) (h:Q (.bool true) H) :
  callN P (n+1) "_law_alike" [.tup l,.tup l'] Q H:=by
 refine in_law_alike (s_skip (fun _ h=>h) (s_skip (fun _ h=>h) (s_skip (fun _ h=>h) (s_skip (fun _ h=>h) (s_skip (fun _ h=>h) (s_skip (v_or2 (b:=false) (b2:=false) (fun _ h=>h) fun _=>fun _ h=>h) (s_skip (v_b (v_cmp (v_len (fun _ h=>h) o_lenT) (v_len (fun _ h=>h) o_lenT) o_neI) ?_) (alike_loop hl hll (fun i c hc=>?_) (fun i c hc=>?_) ?_ hi h))))))))
 ·rw [hll];simp
 ·show (place (i:Int) l.length).bind _=_
  rw [place_nat (List.getElem?_eq_some_iff.mp hc).1];exact hc
 ·show (place (i:Int) l'.length).bind _=_
  rw [place_nat (List.getElem?_eq_some_iff.mp hc).1];exact hc
 ·rw [<- hll];rfl
theorem alike_list {n a b:Nat}{l l':List V}{Q:PostV}{H:Heap}(ha:H[a]? = some l) (hb:H[b]? = some l') (hl:l.length<4611686018427387904) (hll:l'.length=l.length) (hi:∀ (i:Nat) (c c':V),l[i]? = some c->l'[i]? = some c'->∀ K:PostV,K (.bool true) H->callN P n "_law_alike" [c,c'] K H) (h:Q (.bool true) H) :
  callN P (n+1) "_law_alike" [.ref a,.ref b] Q H:=by
 refine in_law_alike (s_skip (fun _ h=>h) (s_skip (fun _ h=>h) (s_skip (fun _ h=>h) (s_skip (fun _ h=>h) (s_skip (fun _ h=>h) (s_skip (v_or2 (b:=false) (b2:=false) (fun _ h=>h) fun _=>fun _ h=>h) (s_skip (v_b (v_cmp (v_len (fun _ h=>h) (o_lenR ha)) (v_len (fun _ h=>h) (o_lenR hb)) o_neI) ?_) (alike_loop hl hll (fun i c hc=>i_ref ha hc) (fun i c hc=>i_ref hb hc) ?_ hi h))))))))
 ·rw [hll];simp
 ·rw [<- hll];exact o_lenR hb
theorem alike_X {H:Heap}{w k:Nat}(hw:w<4611686018427387904):∀ (m:Nat) (x:X) (v v':V) (lo hi lo' hi':Nat),Fit w m x->Rep H x lo hi v->Rep H x lo' hi' v'->∀ K:PostV,K (.bool true) H->callN P (k+m+1) "_law_alike" [v,v'] K H:=by
 intro m
 induction m with
 | zero =>
  intro x v v' lo hi lo' hi' hf h h' K hK
  cases x with
  | «at» a=>rw [show v=aV a from h,show v'=aV a from h'];exact alike_at hK
  | tup xs=>exact hf.elim
  | lst xs=>exact hf.elim
 | succ m ih =>
  intro x v v' lo hi lo' hi' hf h h' K hK
  have go:∀ (xs:List X) (l l':List V) (p q p' q':Nat),(xs.length<=w/\∀ y∈xs,Fit w m y)->Reps H xs p q l->Reps H xs p' q' l'->l.length<4611686018427387904/\l'.length=l.length/\∀ (i:Nat) (c c':V),l[i]? = some c->l'[i]? = some c'->∀ K:PostV,K (.bool true) H->callN P (k+m+1) "_law_alike" [c,c'] K H:=fun xs l l' p q p' q' hf h h'=>by
   refine ⟨by rw [h.len];exact Nat.lt_of_le_of_lt hf.1 hw,h'.len.trans h.len.symm,fun i c c' hc hc' K hK=>?_⟩
   obtain ⟨y,_,_,hy,hr⟩:=h.get hc
   obtain ⟨z,_,_,hz,hr'⟩:=h'.get hc'
   cases hy.symm.trans hz
   exact ih y c c' _ _ _ _ (hf.2 y (List.mem_of_getElem? hy)) hr hr' K hK
  cases x with
  | «at» a=>rw [show v=aV a from h,show v'=aV a from h'];exact alike_at hK
  | tup xs =>
   obtain ⟨l,rfl,h⟩:=h
   obtain ⟨l',rfl,h'⟩:=h'
   have g:=go xs l l' _ _ _ _ hf h h'
   exact alike_tup g.1 g.2.1 g.2.2 hK
  | lst xs =>
   obtain ⟨a,l,_,_,rfl,_,ha,h⟩:=h
   obtain ⟨a',l',_,_,rfl,_,ha',h'⟩:=h'
   have g:=go xs l l' _ _ _ _ hf h h'
   exact alike_list ha ha' g.1 g.2.1 g.2.2 hK
theorem g_last {A:Heap}{x:List V}:(A++[x])[A.length]? = some x:=by
 rw [List.getElem?_append_right (Nat.le_refl _),Nat.sub_self];rfl
theorem g_skip {A:Heap}{i:Nat}{x y:List V}(h:A[i]? = some x):(A++[y])[i]? = some x:=by
 rw [List.getElem?_append_left (List.getElem?_eq_some_iff.mp h).1];exact h
theorem Eqv.one {H:Heap}{x:List V}{lo hi:Nat}(h:hi<=H.length):Eqv H (H++[x]) lo hi:=fun y _ b=>List.getElem?_append_left (Nat.lt_of_lt_of_le b h)
theorem Eqv.set {H:Heap}{a:Nat}{l:List V}{lo hi:Nat}(h:a<lo∨hi<=a):Eqv H (H.set a l) lo hi:=fun y h1 h2=>List.getElem?_set_ne (fun e=>by
 rcases h with h | h
 ·exact Nat.lt_irrefl _ (Nat.lt_of_lt_of_le (e▸h) h1)
 ·exact Nat.lt_irrefl _ (Nat.lt_of_lt_of_le h2 (e▸h)))
theorem g_set {H:Heap}{a:Nat}{l l':List V}(h:H[a]? = some l):(H.set a l')[a]? = some l':=List.getElem?_set_self (List.getElem?_eq_some_iff.mp h).1
inductive T where
 | txt (s:List Nat)
 | kept (s:List Nat)
 | code (s:List Nat) (b:Bool)
 | span (c:Nat) (ts:List T) (b:Bool)
 | link (ts:List T) (g:Option (List Nat)) (b:Bool)
noncomputable def gA:Option (List Nat)->A
 | none=>.n
 | some s=>.s s
mutual
noncomputable def enc:T->X
 | .txt s=>.at (.s s)
 | .kept s=>.tup [.at (.s [107,101,112,116]),.at (.s s)]
 | .code s b=>.tup [.at (.s [99,111,100,101]),.at (.s s),.at (.b b)]
 | .span c ts b=>.tup [.at (.s [115,112,97,110]),.at (.s [c]),.lst (encs ts),.at (.b b)]
 | .link ts g b=>.tup [.at (.s [108,105,110,107]),.lst (encs ts),.at (gA g),.at (.b b)]
noncomputable def encs:List T->List X
 | []=>[]
 | t::ts=>enc t::encs ts
end
theorem encs_app:∀ ts us:List T,encs (ts++us)=encs ts++encs us
 | [],_=>rfl
 | t::ts,us=>congrArg (enc t::·) (encs_app ts us)
theorem encs_len:∀ ts:List T,(encs ts).length=ts.length
 | []=>rfl
 | _::ts=>congrArg (· + 1) (encs_len ts)
noncomputable def keptV (s:List Nat):V:=.tup [.str [107,101,112,116],.str s]
noncomputable def codV (t:List Nat) (b:Bool):V:=.tup [.str [99,111,100,101],.str t,.bool b]
noncomputable def spanV (c a:Nat) (b:Bool):V:=.tup [.str [115,112,97,110],.str [c],.ref a,.bool b]
noncomputable def linkV (a:Nat) (g:Option (List Nat)) (b:Bool):V:=.tup [.str [108,105,110,107],.ref a,aV (gA g),.bool b]
theorem Rep.atom {H:Heap}{a:A}{lo hi:Nat}:Rep H (.at a) lo hi (aV a):=rfl
theorem Reps.cons {H:Heap}{x:X}{xs:List X}{lo m hi:Nat}{v:V}{l:List V}(h:lo<=m) (h1:Rep H x lo m v) (h2:Reps H xs m hi l):Reps H (x::xs) lo hi (v::l):=⟨v,l,m,rfl,h,h1,h2⟩
theorem Reps.atom {H:Heap}{a:A}{xs:List X}{lo hi:Nat}{l:List V}(h2:Reps H xs lo hi l):Reps H (.at a::xs) lo hi (aV a::l):=⟨aV a,l,lo,rfl,Nat.le_refl _,rfl,h2⟩
theorem rep_kept {H:Heap}{s:List Nat}{lo hi:Nat}(h:lo<=hi):Rep H (enc (.kept s)) lo hi (keptV s):=⟨_,rfl,.atom (a:=.s _) (.atom (a:=.s _) (.nil h))⟩
theorem rep_code {H:Heap}{s:List Nat}{b:Bool}{lo hi:Nat}(h:lo<=hi):Rep H (enc (.code s b)) lo hi (codV s b):=⟨_,rfl,.atom (a:=.s _) (.atom (a:=.s _) (.atom (a:=.b _) (.nil h)))⟩
theorem rep_lst {H:Heap}{xs:List X}{lo hi a p q:Nat}{l:List V}(hb:Bd lo hi a p q) (ha:H[a]? = some l) (hr:Reps H xs p q l):Rep H (.lst xs) lo hi (.ref a):=⟨a,l,p,q,rfl,hb,ha,hr⟩
theorem Bd.le {lo hi a p q:Nat}(h:Bd lo hi a p q):lo<=hi:=Nat.le_trans h.la (Nat.le_of_lt h.ah)
theorem rep_span {H:Heap}{c:Nat}{ts:List T}{b:Bool}{lo hi a p q:Nat}{l:List V}(hb:Bd lo hi a p q) (ha:H[a]? = some l) (hr:Reps H (encs ts) p q l):Rep H (enc (.span c ts b)) lo hi (spanV c a b) :=
 ⟨_,rfl,.atom (a:=.s _) (.atom (a:=.s _) (.cons hb.le (rep_lst hb ha hr) (.atom (a:=.b _) (.nil (Nat.le_refl _)))))⟩
theorem rep_link {H:Heap}{ts:List T}{g:Option (List Nat)}{b:Bool}{lo hi a p q:Nat}{l:List V}(hb:Bd lo hi a p q) (ha:H[a]? = some l) (hr:Reps H (encs ts) p q l):Rep H (enc (.link ts g b)) lo hi (linkV a g b) :=
 ⟨_,rfl,.atom (a:=.s _) (.cons hb.le (rep_lst hb ha hr) (.atom (a:=gA g) (.atom (a:=.b _) (.nil (Nat.le_refl _)))))⟩
theorem Reps.addT {H:Heap}{t:T}{v:V}{mid hi:Nat}{ts:List T}{lo:Nat}{l:List V}(h:Reps H (encs ts) lo mid l) (hh:mid<=hi) (hm:Rep H (enc t) mid hi v):Reps H (encs (ts++[t])) lo hi (l++[v]):=by
 rw [encs_app];exact h.add hh hm
abbrev Ctx:=List (Option Nat×List T)
noncomputable def nx (row:List Nat) (k:Nat):List Nat:=(row.drop (k+1)).take 1
noncomputable def opB (row:List Nat) (k c:Nat):Bool:=c==91||([42,95,126].contains c&&nx row k==[40])
noncomputable def codeT (row:List Nat) (k:Nat):T×Nat:=match idx? 96 (row.drop (k+1)) with
 | some j=>(.code ((row.drop (k+1)).take j) true,k+1+j+1)
 | none=>(.code (row.drop (k+1)) false,row.length)
noncomputable def linkT (row:List Nat) (k:Nat) (ts:List T):T×Nat:=if nx row k=[40] then (match idx? 41 (row.drop (k+2)) with
 | some j=>(.link ts (some ((row.drop (k+2)).take j)) true,k+2+j+1)
 | none=>(.link ts (some (row.drop (k+2))) false,row.length)) else (.link ts none true,k+1)
noncomputable def putT (ts:List T) (c:Nat):List T:=match ts.getLast? with
 | some (.txt s)=>ts.dropLast++[.txt (s++[c])]
 | _=>ts++[.txt [c]]
noncomputable def closeT (kd:Option Nat) (ts:List T):T:=match kd with
 | some c=>.span c ts false
 | none=>.link ts none false
noncomputable def closeAll:List T->Ctx->List T
 | cur,[]=>cur
 | cur,(kd,p)::ctx=>closeAll (p++[closeT kd cur]) ctx
noncomputable def isSpan:Ctx->Bool
 | (some _,_)::_=>true
 | _=>false
noncomputable def isLabel:Ctx->Bool
 | (none,_)::_=>true
 | _=>false
inductive Pars (row:List Nat):Nat->List T->Ctx->List T->Prop
 | done {k:Nat}{cur:List T}{ctx:Ctx}:row.length<=k->Pars row k cur ctx (closeAll cur ctx)
 | kept {k:Nat}{cur r:List T}{ctx:Ctx}:row[k]? = some 92->Pars row (k+2) (cur++[.kept (nx row k)]) ctx r->Pars row k cur ctx r
 | code {k:Nat}{cur r:List T}{ctx:Ctx}:row[k]? = some 96->Pars row (codeT row k).2 (cur++[(codeT row k).1]) ctx r->Pars row k cur ctx r
 | label {k:Nat}{cur r:List T}{ctx:Ctx}:row[k]? = some 91->ctx.length<12->Pars row (k+1) [] ((none,cur)::ctx) r->Pars row k cur ctx r
 | span {k c:Nat}{cur r:List T}{ctx:Ctx}:row[k]? = some c->[42,95,126].contains c=true->nx row k=[40]->ctx.length<12->Pars row (k+2) [] ((some c,cur)::ctx) r->Pars row k cur ctx r
 | shutS {k c:Nat}{cur p r:List T}{ctx:Ctx}:row[k]? = some 41->Pars row (k+1) (p++[.span c cur true]) ctx r->Pars row k cur ((some c,p)::ctx) r
 | shutL {k:Nat}{cur p r:List T}{ctx:Ctx}:row[k]? = some 93->Pars row (linkT row k cur).2 (p++[(linkT row k cur).1]) ctx r->Pars row k cur ((none,p)::ctx) r
 | plain {k c:Nat}{cur r:List T}{ctx:Ctx}:row[k]? = some c->c≠92->c≠96->(ctx.length<12->opB row k c=false)->(c=41->isSpan ctx=false)->(c=93->isLabel ctx=false) ->
   Pars row (k+1) (putT cur c) ctx r->Pars row k cur ctx r
noncomputable def kn:Option Nat->List Nat
 | some _=>[115,112,97,110]
 | none=>[108,97,98,101,108]
noncomputable def ks:Option Nat->List Nat
 | some c=>[c]
 | none=>[]
noncomputable def frV (kd:Option Nat) (a:Nat):List V:=[.str (kn kd),.str (ks kd),.ref a]
noncomputable def At (H:Heap) (cur:List T) (a hi:Nat):Prop:=∃ l,H[a]? = some l/\Reps H (encs cur) (a+2) hi l
noncomputable def Lv (H:Heap) (A0:Nat):Nat->List Nat->List T->Ctx->Prop
 | hi,as,cur,[]=>as=[]/\At H cur A0 hi
 | hi,as,cur,(kd,p)::ctx=>∃ a as',as=a::as'/\A0+2<=a/\H[a+1]? = some (frV kd a)/\At H cur a hi/\Lv H A0 a as' p ctx
noncomputable def here (A0:Nat):List Nat->Nat
 | []=>A0
 | a::_=>a
theorem At.le {H:Heap}{cur:List T}{a hi:Nat}(h:At H cur a hi):a+2<=hi:=by
 obtain ⟨_,_,h⟩:=h;exact h.le
theorem At.to {H G:Heap}{cur:List T}{a hi:Nat}(h:At H cur a hi) (e:G[a]? = H[a]?) (k:Eqv H G (a+2) hi):At G cur a hi:=by
 obtain ⟨l,h1,h2⟩:=h;exact ⟨l,e.trans h1,h2.to k⟩
theorem At.up {H:Heap}{cur:List T}{a hi hi':Nat}(h:At H cur a hi) (k:hi<=hi'):At H cur a hi':=by
 obtain ⟨l,h1,h2⟩:=h;exact ⟨l,h1,h2.wide (Nat.le_refl _) k⟩
theorem Lv.to {H G:Heap}{A0:Nat}:∀ {ctx:Ctx}{hi:Nat}{as:List Nat}{cur:List T},Lv H A0 hi as cur ctx->G[A0]? = H[A0]?->Eqv H G (A0+2) hi->Lv G A0 hi as cur ctx
 | [],hi,as,cur,h,e,k=>⟨h.1,h.2.to e k⟩
 | (kd,p)::ctx,hi,as,cur,h,e,k=>by
  obtain ⟨a,as',h1,h2,h3,h4,h5⟩:=h
  have hle:=h4.le
  exact ⟨a,as',h1,h2,(k _ (Nat.le_trans h2 (Nat.le_succ _)) hle).trans h3,h4.to (k _ h2 (Nat.lt_of_succ_lt hle)) (k.sub (Nat.le_trans h2 (Nat.le_add_right _ _)) (Nat.le_refl _)),h5.to e (k.sub (Nat.le_refl _) (Nat.le_of_lt (Nat.lt_of_succ_lt hle)))⟩
theorem Lv.up {H:Heap}{A0:Nat}{ctx:Ctx}{hi hi':Nat}{as:List Nat}{cur:List T}(h:Lv H A0 hi as cur ctx) (k:hi<=hi'):Lv H A0 hi' as cur ctx:=by
 cases ctx with
 | nil=>exact ⟨h.1,h.2.up k⟩
 | cons x ctx =>
  obtain ⟨a,as',h1,h2,h3,h4,h5⟩:=h
  exact ⟨a,as',h1,h2,h3,h4.up k,h5⟩
theorem Lv.head {H:Heap}{A0:Nat}{ctx:Ctx}{hi:Nat}{as:List Nat}{cur:List T}(h:Lv H A0 hi as cur ctx):At H cur (here A0 as) hi/\(here A0 as=A0∨A0+2<=here A0 as):=by
 cases ctx with
 | nil=>obtain ⟨rfl,h1⟩:=h;exact ⟨h1,Or.inl rfl⟩
 | cons x ctx =>
  obtain ⟨a,as',rfl,h2,h3,h4,h5⟩:=h
  exact ⟨h4,Or.inr h2⟩
theorem Lv.lens {H:Heap}{A0:Nat}:∀ {ctx:Ctx}{hi:Nat}{as:List Nat}{cur:List T},Lv H A0 hi as cur ctx->as.length=ctx.length
 | [],hi,as,cur,h=>by rw [h.1];rfl
 | (kd,p)::ctx,hi,as,cur,h=>by
  obtain ⟨a,as',rfl,h2,h3,h4,h5⟩:=h
  exact congrArg (· + 1) h5.lens
noncomputable def opnV (as:List Nat):List V:=as.reverse.map fun a=>.ref (a+1)
theorem opn_cons {a:Nat}{as:List Nat}:opnV (a::as)=opnV as++[.ref (a+1)]:=by unfold opnV;simp
theorem opn_len {as:List Nat}:(opnV as).length=as.length:=by unfold opnV;simp
structure PSt (H0:Heap) (as:List Nat) (cur:List T) (ctx:Ctx) (H:Heap):Prop where
 len:H0.length+2<=H.length
 old:Eqv H0 H 0 H0.length
 opn:H[H0.length+1]? = some (opnV as)
 lv:Lv H H0.length H.length as cur ctx
theorem PSt.at {H0 as cur ctx H}(h:PSt H0 as cur ctx H):At H cur (here H0.length as) H.length:=h.lv.head.1
theorem PSt.upd {H0 as cur ctx H}{cur':List T}{l':List V}(h:PSt H0 as cur ctx H) (hl:Reps H (encs cur') (here H0.length as+2) H.length l'):PSt H0 as cur' ctx (H.set (here H0.length as) l'):=by
 have hh:=h.lv.head
 have hle:=hl.le
 have hA:H0.length<=here H0.length as:=by
  rcases hh.2 with q | q
  ·rw [q];exact Nat.le_refl _
  ·exact Nat.le_trans (Nat.le_add_right _ 2) q
 have hget:(H.set (here H0.length as) l')[here H0.length as]? = some l':=List.getElem?_set_self (Nat.lt_of_succ_lt hle)
 have hat:At (H.set (here H0.length as) l') cur' (here H0.length as) H.length:=⟨l',hget,hl.to (Eqv.set (Or.inl (Nat.lt_add_of_pos_right (by decide))))⟩
 refine ⟨by rw [List.length_set];exact h.len,h.old.trans (Eqv.set (Or.inr hA)),?_,?_⟩
 ·have hne:here H0.length as≠H0.length+1:=by
   rcases hh.2 with q | q
   ·rw [q];exact Nat.ne_of_lt (Nat.lt_succ_self _)
   ·exact Nat.ne_of_gt q
  rw [List.getElem?_set_ne hne];exact h.opn
 ·rw [List.length_set]
  have hlv:=h.lv
  cases ctx with
  | nil=>exact ⟨hlv.1,by obtain ⟨rfl,_⟩:=hlv;exact hat⟩
  | cons x ctx =>
   obtain ⟨a,as',rfl,h2,h3,h4,h5⟩:=hlv
   refine ⟨a,as',rfl,h2,?_,hat,h5.to ?_ (Eqv.set (Or.inr (Nat.le_refl _)))⟩
   ·exact (List.getElem?_set_ne (Nat.ne_of_lt (Nat.lt_succ_self a))).trans h3
   ·exact List.getElem?_set_ne (Nat.ne_of_gt (Nat.lt_of_succ_lt h2))
theorem PSt.push {H0 as cur ctx H}{kd:Option Nat}(h:PSt H0 as cur ctx H):PSt H0 (H.length::as) [] ((kd,cur)::ctx) ((H++[[]]++[frV kd H.length]).set (H0.length+1) (opnV as++[V.ref (H.length+1)])):=by
 have hlen:=h.len
 have hl2:(H++[[]]++[frV kd H.length]).length=H.length+2:=by rw [List.length_append,List.length_append];rfl
 have hl1:(H++[[]]).length=H.length+1:=by rw [List.length_append];rfl
 have e1:Eqv H (H++[[]]++[frV kd H.length]) 0 H.length:=(Eqv.one (Nat.le_refl _)).trans (Eqv.one (by rw [hl1];exact Nat.le_succ _))
 have hlt:H0.length<H.length:=Nat.lt_of_succ_lt hlen
 refine ⟨by rw [List.length_set,hl2];exact Nat.le_trans hlen (Nat.le_add_right _ 2),(h.old.trans (e1.sub (Nat.le_refl _) (Nat.le_of_lt hlt))).trans (Eqv.set (Or.inr (Nat.le_succ _))),?_,?_⟩
 ·rw [opn_cons];exact List.getElem?_set_self (by rw [hl2];exact Nat.lt_of_lt_of_le hlen (Nat.le_add_right _ 2))
 ·rw [List.length_set,hl2]
  refine ⟨H.length,as,rfl,hlen,?_,⟨[],?_,.nil (Nat.le_refl _)⟩,h.lv.to ?_ ((e1.sub (Nat.zero_le _) (Nat.le_refl _)).trans (Eqv.set (Or.inl (Nat.lt_succ_self _))))⟩
  ·rw [List.getElem?_set_ne (show H0.length+1≠H.length+1 from Nat.ne_of_lt (Nat.succ_lt_succ hlt)),<- hl1];exact g_last
  ·rw [List.getElem?_set_ne (Nat.ne_of_lt hlen)];exact g_skip g_last
  ·rw [List.getElem?_set_ne (Nat.ne_of_gt (Nat.lt_succ_self _))];exact e1 _ (Nat.zero_le _) hlt
theorem PSt.pop {H0 a as cur kd p ctx H}(h:PSt H0 (a::as) cur ((kd,p)::ctx) H) :
  PSt H0 as p ctx (H.set (H0.length+1) (opnV as))/\(H.set (H0.length+1) (opnV as))[a+1]? = some (frV kd a)/\Lv (H.set (H0.length+1) (opnV as)) H0.length a as p ctx/\At (H.set (H0.length+1) (opnV as)) cur a (H.set (H0.length+1) (opnV as)).length:=by
 obtain ⟨_,_,e,h2,h3,h4,h5⟩:=h.lv
 cases e
 have hle:=h4.le
 have hA:(H.set (H0.length+1) (opnV as))[H0.length]? = H[H0.length]?:=List.getElem?_set_ne (Nat.ne_of_gt (Nat.lt_succ_self _))
 have ev:∀ {hi:Nat},Eqv H (H.set (H0.length+1) (opnV as)) (H0.length+2) hi:=Eqv.set (Or.inl (Nat.lt_succ_self _))
 have hlv:=h5.to hA ev
 refine ⟨⟨by rw [List.length_set];exact h.len,h.old.trans (Eqv.set (Or.inr (Nat.le_succ _))),List.getElem?_set_self h.len,by rw [List.length_set];exact hlv.up (Nat.le_of_lt (Nat.lt_of_succ_lt hle))⟩,?_,hlv,?_⟩
 ·rw [List.getElem?_set_ne (Nat.ne_of_lt (Nat.lt_succ_of_lt h2))];exact h3
 ·rw [List.length_set];exact h4.to (List.getElem?_set_ne (Nat.ne_of_lt h2)) (ev.sub (Nat.le_trans h2 (Nat.le_add_right _ 2)) (Nat.le_refl _))
noncomputable def putPlain (l:List V) (c:Nat):List V:=match l.getLast? with
 | some (.str s)=>l.dropLast++[.str (s++[c])]
 | _=>l++[.str [c]]
theorem put_str (l:List V) (s:List Nat) (c:Nat):putPlain (l++[.str s]) c=l++[.str (s++[c])]:=by
 unfold putPlain;simp
theorem put_tup (l:List V) (t:List V) (c:Nat):putPlain (l++[.tup t]) c=l++[.tup t]++[.str [c]]:=by
 unfold putPlain;simp
noncomputable def EndOk (l:List V):Prop:=l=[]∨(∃ r s,l=r++[.str s]/\s.length+1<=lim)∨∃ r t,l=r++[.tup t]
theorem pos_len {l:List V}{c:V}:decide ((0:Int)<((l++[c]).length:Nat))=true:=by
 rw [List.length_append];exact decide_eq_true (Int.natCast_pos.mpr (Nat.succ_pos _))
theorem plain_ok {n a c:Nat}{l:List V}{Q:PostV}{H:Heap}(ha:H[a]? = some l) (hl:l.length<lim) (he:EndOk l) (h:Q .none (H.set a (putPlain l c))):callN P (n+1) "put_plain" [.ref a,.str [c]] Q H:=by
 refine in_put_plain ?_
 rcases he with rfl | ⟨r,s,rfl,hs⟩ | ⟨r,t,rfl⟩
 ·exact s_iteF (v_and2 (b:=false) (b2:=true) (v_cmp (v_len (fun _ h=>h) (o_lenR ha)) (fun _ h=>h) o_gt) fun q=>nomatch q) (s_append (fun _ h=>h) (fun _ h=>h) ha hl h)
 ·rw [put_str] at h
  refine s_iteT (v_and2 (b:=true) (b2:=true) (v_b (v_cmp (v_len (fun _ h=>h) (o_lenR ha)) (fun _ h=>h) o_gt) pos_len) fun _=>v_and1 (v_b (v_inst (v_idx (fun _ h=>h) (fun _ h=>h) (i_last ha))) rfl))
   (s_setIdx (v_bin (v_idx (fun _ h=>h) (fun _ h=>h) (i_last ha)) (fun _ h=>h) (o_addS hs)) (fun _ h=>h) (fun _ h=>h) ha (by rw [List.length_append];exact place_last) ?_)
  rw [List.set_append_right _ _ (Nat.le_refl _),Nat.sub_self]
  exact h
 ·rw [put_tup] at h
  exact s_iteF (v_and2 (b:=true) (b2:=false) (v_b (v_cmp (v_len (fun _ h=>h) (o_lenR ha)) (fun _ h=>h) o_gt) pos_len) fun _=>v_and1 (v_b (v_inst (v_idx (fun _ h=>h) (fun _ h=>h) (i_last ha))) rfl)) (s_append (fun _ h=>h) (fun _ h=>h) ha hl h)
theorem slice2 (row:List Nat) (k:Nat):slice row (some ((k:Int)+1)) (some ((k:Int)+2))=nx row k:=by
 rw [slice_mid (by lia) (by lia)]
 show (row.drop (k+1)).take (k+2 - (k+1))=_
 rw [Nat.add_sub_add_left];rfl
section
variable {H0 H:Heap}{as:List Nat}{cur:List T}{ctx:Ctx}{n:Nat}
theorem opn_pos {a:Nat}:decide ((0:Int)<((opnV (a::as)).length:Nat))=true:=by rw [opn_cons];exact pos_len
theorem here_ok (h:PSt H0 as cur ctx H) (Q:PostV) (k:Q (.ref (here H0.length as)) H):callN P (n+1) "here_of" [.ref H0.length,.ref (H0.length+1)] Q H:=by
 refine in_here_of ?_
 have ho:=h.opn
 have hlv:=h.lv
 cases ctx with
 | nil =>
  obtain ⟨rfl,_⟩:=hlv
  exact s_skip (v_cmp (v_len (fun _ h=>h) (o_lenR ho)) (fun _ h=>h) o_gt) k
 | cons x ctx =>
  obtain ⟨kd,p⟩:=x
  obtain ⟨a,as',rfl,h2,h3,_⟩:=hlv
  exact s_iteT (v_b (v_cmp (v_len (fun _ h=>h) (o_lenR ho)) (fun _ h=>h) o_gt) opn_pos) (s_ret (v_idx (v_idx (fun _ h=>h) (fun _ h=>h) (i_last (opn_cons▸ho))) (fun _ h=>h) (i_ref (i:=2) h3 rfl)) k)
theorem last_ok {w:List Nat}(h:PSt H0 as cur ctx H) (Q:PostV) (k:Q (.bool (match ctx with | []=>false | (kd,_)::_=>kn kd==w)) H):callN P (n+1) "last_is" [.ref (H0.length+1),.str w] Q H:=by
 refine in_last_is ?_
 have ho:=h.opn
 have hlv:=h.lv
 cases ctx with
 | nil =>
  obtain ⟨rfl,_⟩:=hlv
  exact s_ret (v_and2 (b:=false) (b2:=true) (v_cmp (v_len (fun _ h=>h) (o_lenR ho)) (fun _ h=>h) o_gt) fun q=>nomatch q) k
 | cons x ctx =>
  obtain ⟨kd,p⟩:=x
  obtain ⟨a,as',rfl,h2,h3,_⟩:=hlv
  exact s_ret (v_and2 (b:=true) (v_b (v_cmp (v_len (fun _ h=>h) (o_lenR ho)) (fun _ h=>h) o_gt) opn_pos) fun _=>v_and1 (v_cmp (v_idx (v_idx (fun _ h=>h) (fun _ h=>h) (i_last (opn_cons▸ho))) (fun _ h=>h) (i_ref (i:=0) h3 rfl)) (fun _ h=>h) o_eqS)) k
theorem last_span (h:PSt H0 as cur ctx H) (Q:PostV) (k:Q (.bool (isSpan ctx)) H):callN P (n+1) "last_is" [.ref (H0.length+1),.str [115,112,97,110]] Q H:=by
 refine last_ok h Q ?_
 match ctx with
 | []=>exact k
 | (some _,_)::_=>exact k
 | (none,_)::_=>exact k
theorem last_label (h:PSt H0 as cur ctx H) (Q:PostV) (k:Q (.bool (isLabel ctx)) H):callN P (n+1) "last_is" [.ref (H0.length+1),.str [108,97,98,101,108]] Q H:=by
 refine last_ok h Q ?_
 match ctx with
 | []=>exact k
 | (some _,_)::_=>exact k
 | (none,_)::_=>exact k
theorem opens_ok {row:List Nat}{i c:Nat}(h:PSt H0 as cur ctx H) (hg:row[i]? = some c) (Q:PostV) (k:Q (.bool (decide (ctx.length<12)&&opB row i c)) H):callN P (n+1) "opens" [.str row,.int i,.ref (H0.length+1)] Q H:=by
 refine in_opens ?_
 have hl:((opnV as).length:Int)=(ctx.length:Nat):=by rw [opn_len,h.lv.lens]
 have hge:∀ {C:Calls},Ev C [some (V.str row),some (V.int i),some (V.ref (H0.length+1))] H (.cmp .ge (.len (.var 2)) (.glob "MOST_OPEN" 12)) (.bool (decide ((12:Int)<=(opnV as).length))):=v_cmp (v_len (fun _ h=>h) (o_lenR h.opn)) (fun _ h=>h) o_ge
 rw [hl] at hge
 by_cases h12:ctx.length<12
 ·rw [decide_eq_true h12,Bool.true_and] at k
  refine s_skip (v_b hge (decide_eq_false (by lia))) (s_ret (v_or2 (v_b (v_cmp (v_idx (fun _ h=>h) (fun _ h=>h) (i_str hg)) (fun _ h=>h) o_eqS) ?_) fun _=>v_or1 (v_and2 (v_cmp (v_idx (fun _ h=>h) (fun _ h=>h) (i_str hg)) (fun _ h=>h) o_inS) fun _=>v_and1 (v_b (fun _ h=>h) (congrArg (· == [40]) (slice2 row i))))) k)
  simp
 ·rw [decide_eq_false h12] at k
  exact s_iteT (v_b hge (decide_eq_true (by lia))) k
end
theorem code_ok {n k:Nat}{row:List Nat}{Q:PostV}{H:Heap}(h:∀ v,(∀ G lo hi,lo<=hi->Rep G (enc (codeT row k).1) lo hi v)->Q (.tup [v,.int (codeT row k).2]) H):callN P (n+1) "code_at" [.str row,.int k] Q H:=by
 refine in_code_at (s_assign (v_find (fun _ h=>h) (fun _ h=>h) (fun _ h=>h) (Int.le_add_one (Int.natCast_nonneg k))) ?_)
 unfold codeT at h
 have e1:findC row 96 ((k:Int)+1).toNat=(match idx? 96 (row.drop (k+1)) with | some j=>((k+1+j:Nat):Int) | none=>-1):=rfl
 rw [e1]
 cases hi:idx? 96 (row.drop (k+1)) with
 | none =>
  rw [hi] at h
  have es:slice row (some ((k:Int)+1)) none=row.drop (k+1):=slice_from (Int.le_add_one (Int.natCast_nonneg k))
  exact s_iteT (fun _ h=>h) (s_ret (v_e (fun _ h=>h) (congrArg (fun s=>V.tup [V.tup [V.str [99,111,100,101],V.str s,V.bool false],V.int row.length]) es)) (h (codV (row.drop (k+1)) false) fun _ _ _=>rep_code))
 | some j =>
  rw [hi] at h
  have es:slice row (some ((k:Int)+1)) (some ((k+1+j:Nat):Int))=(row.drop (k+1)).take j:=by
   rw [slice_mid (Int.le_add_one (Int.natCast_nonneg k)) (Int.natCast_nonneg _)]
   show (row.drop (k+1)).take (k+1+j - (k+1))=_
   rw [Nat.add_sub_cancel_left]
  exact s_skip (v_b (v_cmp (fun _ h=>h) (fun _ h=>h) o_lt) (decide_eq_false (Int.not_lt.mpr (Int.natCast_nonneg _)))) (s_ret (v_e (fun _ h=>h) (congrArg (fun s=>V.tup [V.tup [V.str [99,111,100,101],V.str s,V.bool true],V.int ((k+1+j:Nat)+1)]) es)) (h (codV ((row.drop (k+1)).take j) true) fun _ _ _=>rep_code))
theorem link_ok {n k a:Nat}{row:List Nat}{ts:List T}{Q:PostV}{H:Heap}(h:∀ g b,(linkT row k ts).1=.link ts g b->Q (.tup [linkV a g b,.int (linkT row k ts).2]) H):callN P (n+1) "link_at" [.str row,.int k,.ref a] Q H:=by
 refine in_link_at ?_
 have p2:(0:Int)<=(k:Int)+2:=by lia
 unfold linkT at h
 by_cases hn:nx row k=[40]
 ·rw [if_pos hn] at h
  refine s_skip (v_b (fun _ h=>h) (by rw [slice2,hn];rfl)) (s_assign (v_find (fun _ h=>h) (fun _ h=>h) (fun _ h=>h) p2) ?_)
  have e1:findC row 41 ((k:Int)+2).toNat=(match idx? 41 (row.drop (k+2)) with | some j=>((k+2+j:Nat):Int) | none=>-1):=rfl
  rw [e1]
  cases hi:idx? 41 (row.drop (k+2)) with
  | none =>
   rw [hi] at h
   have es:slice row (some ((k:Int)+2)) none=row.drop (k+2):=slice_from p2
   exact s_iteT (fun _ h=>h) (s_ret (v_e (fun _ h=>h) (congrArg (fun s=>V.tup [V.tup [V.str [108,105,110,107],V.ref a,V.str s,V.bool false],V.int row.length]) es)) (h _ _ rfl))
  | some j =>
   rw [hi] at h
   have es:slice row (some ((k:Int)+2)) (some ((k+2+j:Nat):Int))=(row.drop (k+2)).take j:=by
    rw [slice_mid p2 (Int.natCast_nonneg _)]
    show (row.drop (k+2)).take (k+2+j - (k+2))=_
    rw [Nat.add_sub_cancel_left]
   exact s_skip (v_b (v_cmp (fun _ h=>h) (fun _ h=>h) o_lt) (decide_eq_false (Int.not_lt.mpr (Int.natCast_nonneg _)))) (s_ret (v_e (fun _ h=>h) (congrArg (fun s=>V.tup [V.tup [V.str [108,105,110,107],V.ref a,V.str s,V.bool true],V.int ((k+2+j:Nat)+1)]) es)) (h _ _ rfl))
 ·rw [if_neg hn] at h
  exact s_iteT (v_b (fun _ h=>h) (by rw [slice2];simpa using hn)) (h none true rfl)
theorem rep_last {H:Heap}{t:T}{lo hi:Nat}{v:V}(h:Rep H (enc t) lo hi v):(∃ s,t=.txt s/\v=.str s)∨∃ w,v=.tup w/\∀ us c,putT (us++[t]) c=us++[t]++[.txt [c]]:=by
 have e:∀ us:List T,(us++[t]).getLast? = some t:=fun us=>by simp
 cases t with
 | txt s=>exact Or.inl ⟨s,rfl,h⟩
 | kept s=>obtain ⟨w,e1,_⟩:=h;exact Or.inr ⟨w,e1,fun us c=>by unfold putT;rw [e]⟩
 | code s b=>obtain ⟨w,e1,_⟩:=h;exact Or.inr ⟨w,e1,fun us c=>by unfold putT;rw [e]⟩
 | span c ts b=>obtain ⟨w,e1,_⟩:=h;exact Or.inr ⟨w,e1,fun us c=>by unfold putT;rw [e]⟩
 | link ts g b=>obtain ⟨w,e1,_⟩:=h;exact Or.inr ⟨w,e1,fun us c=>by unfold putT;rw [e]⟩
theorem putT_txt {us:List T}{s:List Nat}{c:Nat}:putT (us++[.txt s]) c=us++[.txt (s++[c])]:=by
 unfold putT;simp
theorem reps_end {H:Heap}{cur:List T}{lo hi:Nat}{l:List V}(h:Reps H (encs cur) lo hi l):(cur=[]/\l=[])∨∃ us t r v m,cur=us++[t]/\l=r++[v]/\Reps H (encs us) lo m r/\m<=hi/\Rep H (enc t) m hi v:=by
 rcases List.eq_nil_or_concat cur with rfl | ⟨us,t,e⟩
 ·exact Or.inl ⟨rfl,h.2⟩
 ·rw [List.concat_eq_append] at e
  subst e
  rw [encs_app] at h
  obtain ⟨a,b,m,rfl,h1,h2⟩:=h.cut
  obtain ⟨v,r,k,rfl,c3,h3,h4⟩:=h2
  rw [h4.2]
  exact Or.inr ⟨us,t,a,v,m,rfl,rfl,h1,Nat.le_trans c3 h4.1,h3.wide (Nat.le_refl _) h4.1⟩
theorem put_rep {H:Heap}{cur:List T}{l:List V}{c lo hi:Nat}(h:Reps H (encs cur) lo hi l):Reps H (encs (putT cur c)) lo hi (putPlain l c):=by
 rcases reps_end h with ⟨rfl,rfl⟩ | ⟨us,t,r,v,m,rfl,rfl,h1,h2,h3⟩
 ·exact .one h.le rfl
 ·rcases rep_last h3 with ⟨s,rfl,rfl⟩ | ⟨w,rfl,e⟩
  ·rw [putT_txt,put_str]
   exact h1.addT h2 rfl
  ·rw [e,put_tup]
   exact h.addT (Nat.le_refl _) rfl
structure BdL (k:Nat) (ts:List T):Prop where
 len:ts.length<=k
 txt:∀ s,T.txt s∈ts->s.length<=k
theorem BdL.nil {k:Nat}:BdL k []:=⟨Nat.zero_le _,fun s hs=>nomatch hs⟩
theorem BdL.le {k m:Nat}{ts:List T}(h:BdL k ts) (hm:k<=m):BdL m ts:=⟨Nat.le_trans h.1 hm,fun s hs=>Nat.le_trans (h.2 s hs) hm⟩
theorem BdL.add {k m:Nat}{ts:List T}{t:T}(h:BdL k ts) (hm:k<m) (ht:∀ s,t=.txt s->s.length<=m):BdL m (ts++[t]):=by
 refine ⟨by rw [List.length_append];exact Nat.lt_of_le_of_lt h.1 hm,fun s hs=>?_⟩
 rcases List.mem_append.mp hs with q | q
 ·exact Nat.le_trans (h.2 s q) (Nat.le_of_lt hm)
 ·exact ht s (List.mem_singleton.mp q).symm
theorem BdL.put {k c:Nat}{ts:List T}(h:BdL k ts):BdL (k+1) (putT ts c):=by
 rcases List.eq_nil_or_concat ts with rfl | ⟨us,t,e⟩
 ·exact h.add (t:=.txt [c]) (Nat.lt_succ_self _) fun s e=>by cases e;exact Nat.succ_le_succ (Nat.zero_le _)
 ·rw [List.concat_eq_append] at e
  subst e
  have hadd:=h.add (m:=k+1) (t:=.txt [c]) (Nat.lt_succ_self _) (fun s e=>by cases e;exact Nat.succ_le_succ (Nat.zero_le _))
  have hl:=h.len
  cases t with
  | txt s =>
   rw [putT_txt]
   have hs:=h.txt s (List.mem_append_right _ (.head _))
   have hus:BdL k us:=⟨by rw [List.length_append] at hl;exact Nat.le_of_succ_le hl,fun s hs=>h.txt s (List.mem_append_left _ hs)⟩
   exact hus.add (Nat.lt_succ_self _) fun s' e=>by cases e;rw [List.length_append];exact Nat.succ_le_succ hs
  | kept s=>unfold putT;simp only [List.getLast?_append,List.getLast?_singleton,Option.some_or];exact hadd
  | code s b=>unfold putT;simp only [List.getLast?_append,List.getLast?_singleton,Option.some_or];exact hadd
  | span c' ts b=>unfold putT;simp only [List.getLast?_append,List.getLast?_singleton,Option.some_or];exact hadd
  | link ts g b=>unfold putT;simp only [List.getLast?_append,List.getLast?_singleton,Option.some_or];exact hadd
theorem bd_end {H:Heap}{k lo hi:Nat}{cur:List T}{l:List V}(hb:BdL k cur) (h:Reps H (encs cur) lo hi l) (hk:k<lim):EndOk l/\l.length<lim:=by
 refine ⟨?_,by rw [h.len,encs_len];exact Nat.lt_of_le_of_lt hb.1 hk⟩
 rcases reps_end h with ⟨rfl,rfl⟩ | ⟨us,t,r,v,m,rfl,rfl,h1,h2,h3⟩
 ·exact Or.inl rfl
 ·rcases rep_last h3 with ⟨s,rfl,rfl⟩ | ⟨w,rfl,e⟩
  ·exact Or.inr (Or.inl ⟨r,s,rfl,Nat.lt_of_le_of_lt (hb.2 s (List.mem_append_right _ (.head _))) hk⟩)
  ·exact Or.inr (Or.inr ⟨r,w,rfl⟩)
structure Bds (k:Nat) (cur:List T) (ctx:Ctx):Prop where
 cur:BdL k cur
 ctx:∀ x∈ctx,BdL k x.2
theorem Bds.to {k m:Nat}{cur cur':List T}{ctx:Ctx}(h:Bds k cur ctx) (hm:k<=m) (h':BdL m cur'):Bds m cur' ctx:=⟨h',fun x hx=>(h.ctx x hx).le hm⟩
theorem PSt.shut {H0 a as cur kd p ctx H}(h:PSt H0 (a::as) cur ((kd,p)::ctx) H) {t:T}{v:V}
  (ht:∀ G,At G cur a G.length->Rep G (enc t) a G.length v):∃ l,(H.set (H0.length+1) (opnV as))[here H0.length as]? = some l/\l.length=p.length/\PSt H0 as (p++[t]) ctx ((H.set (H0.length+1) (opnV as)).set (here H0.length as) (l++[v])):=by
 obtain ⟨h1,_,h2,h3⟩:=h.pop
 obtain ⟨l,g1,g2⟩:=h2.head.1
 exact ⟨l,g1,by rw [g2.len,encs_len],h1.upd (g2.addT (Nat.le_of_lt (Nat.lt_of_succ_lt h3.le)) (ht _ h3))⟩
theorem at_span {G:Heap}{cur:List T}{a c:Nat}{b:Bool}(h:At G cur a G.length):Rep G (enc (.span c cur b)) a G.length (spanV c a b):=by
 have hle:=h.le
 obtain ⟨l,h1,h2⟩:=h
 exact rep_span ⟨Nat.le_refl _,Nat.lt_of_succ_lt hle,Nat.le_add_right _ _,Nat.le_refl _⟩ h1 h2
theorem at_link {G:Heap}{cur:List T}{a:Nat}{g:Option (List Nat)}{b:Bool}(h:At G cur a G.length):Rep G (enc (.link cur g b)) a G.length (linkV a g b):=by
 have hle:=h.le
 obtain ⟨l,h1,h2⟩:=h
 exact rep_link ⟨Nat.le_refl _,Nat.lt_of_succ_lt hle,Nat.le_add_right _ _,Nat.le_refl _⟩ h1 h2
noncomputable def PQ (H0:Heap) (res:List T) (Q:PostV):Prop:=∀ H' l,H'[H0.length]? = some l->Reps H' (encs res) (H0.length+2) H'.length l->Eqv H0 H' 0 H0.length->Q (.ref H0.length) H'
structure ES where
 as:List Nat
 cur:List T
 ctx:Ctx
 e2:Option V
 e3:Option V
theorem ended_ok {n K:Nat}{H0 H:Heap}{as:List Nat}{cur:List T}{ctx:Ctx}{Q:PostV}(hst:PSt H0 as cur ctx H) (hK:K<2000000) (hb:Bds K cur ctx) (h:PQ H0 (closeAll cur ctx) Q) :
  callN P (n+2) "ended" [.ref H0.length,.ref (H0.length+1)] Q H:=by
 refine in_ended (ss_cons (l_whl (σ:=ES) (fun s=>[some (.ref H0.length),some (.ref (H0.length+1)),s.e2,s.e3]) (fun s G=>PSt H0 s.as s.cur s.ctx G/\closeAll s.cur s.ctx=closeAll cur ctx/\∀ x∈s.ctx,x.2.length<=K) (fun s=>s.ctx.length) (fun s G hI K' hK'=>?_) ⟨as,cur,ctx,none,none⟩ ⟨hst,rfl,fun x hx=>(hb.ctx x hx).len⟩))
 obtain ⟨as,cur',ctx',e2,e3⟩:=s
 have ho:=hI.1.opn
 have hlv:=hI.1.lv
 cases ctx' with
 | nil =>
  obtain ⟨rfl,l,g1,g2⟩:=hlv
  refine .stop (v_cmp (v_len (fun _ h=>h) (o_lenR ho)) (fun _ h=>h) o_gt) (h G l g1 ?_ hI.1.old)
  rw [<- hI.2.1];exact g2
 | cons x ctx' =>
  obtain ⟨kd,p⟩:=x
  obtain ⟨a,as',rfl,_⟩:=hlv
  obtain ⟨hst1,hf1,_⟩:=hI.1.pop
  refine .go (v_b (v_cmp (v_len (fun _ h=>h) (o_lenR ho)) (fun _ h=>h) o_gt) opn_pos) (s_pop (fun _ h=>h) (opn_cons▸ho) (s_assign (v_call (fun _ h=>h) (here_ok hst1)) ?_))
  have hp:=hI.2.2 (kd,p) (.head _)
  have hlim:lim=16777216:=rfl
  have next:∀ {t:T}{G':Heap}{e2 e3:Option V},t=closeT kd cur'->PSt H0 as' (p++[t]) ctx' G'->K' [some (.ref H0.length),some (.ref (H0.length+1)),e2,e3] G':=fun {t G' e2 e3} et g=>hK' ⟨as',p++[t],ctx',e2,e3⟩ G' (Nat.lt_succ_self _) ⟨g,by rw [et];exact hI.2.1,fun x hx=>hI.2.2 x (.tail _ hx)⟩
  cases kd with
  | some c =>
   obtain ⟨l,g1,g2,g3⟩:=hI.1.shut (t:=.span c cur' false) (v:=spanV c a false) fun G h=>at_span h
   exact s_iteT (v_b (v_cmp (v_idx (fun _ h=>h) (fun _ h=>h) (i_ref (i:=0) hf1 rfl)) (fun _ h=>h) o_eqS) rfl) (s_append (fun _ h=>h) (v_tup (v_cons (fun _ h=>h) (v_cons (v_idx (fun _ h=>h) (fun _ h=>h) (i_ref (i:=1) hf1 rfl)) (v_cons (v_idx (fun _ h=>h) (fun _ h=>h) (i_ref (i:=2) hf1 rfl)) (v_cons (fun _ h=>h) v_nil))))) g1 (by lia) (next rfl g3))
  | none =>
   obtain ⟨l,g1,g2,g3⟩:=hI.1.shut (t:=.link cur' none false) (v:=linkV a none false) fun G h=>at_link h
   exact s_iteF (v_b (v_cmp (v_idx (fun _ h=>h) (fun _ h=>h) (i_ref (i:=0) hf1 rfl)) (fun _ h=>h) o_eqS) rfl) (s_append (fun _ h=>h) (v_tup (v_cons (fun _ h=>h) (v_cons (v_idx (fun _ h=>h) (fun _ h=>h) (i_ref (i:=2) hf1 rfl)) (v_cons (fun _ h=>h) (v_cons (fun _ h=>h) v_nil))))) g1 (by lia) (next rfl g3))
theorem codeT_up {row:List Nat}{k:Nat}(hk:k<row.length):k<(codeT row k).2:=by
 unfold codeT
 split
 ·exact Nat.lt_succ_of_le (Nat.le_trans (Nat.le_succ k) (Nat.le_add_right _ _))
 ·exact hk
theorem idx_lt {c:Nat}:∀ {l:List Nat}{j:Nat},idx? c l=some j->j<l.length
 | [],_,h=>by cases h
 | x::l,j,h=>by
  replace h:(if x=c then some 0 else (idx? c l).map (· + 1))=some j:=h
  by_cases hx:x=c
  ·rw [if_pos hx] at h;cases h;exact Nat.succ_pos _
  ·rw [if_neg hx] at h
   obtain ⟨i,hi,rfl⟩:=Option.map_eq_some_iff.mp h
   exact Nat.succ_lt_succ (idx_lt hi)
theorem codeT_le {row:List Nat}{k:Nat}(hk:k<row.length):(codeT row k).2<=row.length:=by
 unfold codeT
 split
 ·rename_i j hj
  have:=idx_lt hj
  rw [List.length_drop] at this
  exact Nat.add_comm (k+1) j▸Nat.add_lt_of_lt_sub this
 ·exact Nat.le_refl _
theorem linkT_le {row:List Nat}{k:Nat}{ts:List T}(hk:k<row.length):(linkT row k ts).2<=row.length:=by
 unfold linkT
 split
 ·split
  ·rename_i j hj
   have:=idx_lt hj
   rw [List.length_drop] at this
   exact Nat.add_comm (k+2) j▸Nat.add_lt_of_lt_sub this
  ·exact Nat.le_refl _
 ·exact hk
theorem codeT_no {row:List Nat}{k:Nat}(s:List Nat):(codeT row k).1≠.txt s:=by
 unfold codeT
 split<;>exact fun e=>by cases e
theorem linkT_up {row:List Nat}{k:Nat}{ts:List T}(hk:k<row.length):k<(linkT row k ts).2:=by
 unfold linkT
 split
 ·split
  ·exact Nat.lt_succ_of_le (Nat.le_trans (Nat.le_add_right k 2) (Nat.le_add_right _ _))
  ·exact hk
 ·exact Nat.lt_succ_self _
theorem linkT_form {row:List Nat}{k:Nat}{ts:List T}:∃ g b,(linkT row k ts).1=.link ts g b:=by
 unfold linkT
 split
 ·split<;>exact ⟨_,_,rfl⟩
 ·exact ⟨_,_,rfl⟩
structure PS where
 k:Nat
 as:List Nat
 cur:List T
 ctx:Ctx
 e4:Option V
 e5:Option V
 e6:Option V
 e7:Option V
structure PInv (row:List Nat) (res:List T) (H0:Heap) (k:Nat) (as:List Nat) (cur:List T) (ctx:Ctx) (H:Heap):Prop where
 le:k<=row.length+1
 pars:Pars row k cur ctx res
 bds:Bds k cur ctx
 st:PSt H0 as cur ctx H
theorem parts_ok {n:Nat}{row:List Nat}{res:List T}{Q:PostV}{H0:Heap}(hr:row.length<=1000000) (hp:Pars row 0 [] [] res) (h:PQ H0 res Q):callN P (n+3) "parts_of" [.str row] Q H0:=by
 have hlim:lim=16777216:=rfl
 have hH:(H0++[[]]).length=H0.length+1:=by rw [List.length_append];rfl
 have hst0:PSt H0 [] [] [] (H0++[[]]++[[]]):=⟨by rw [List.length_append,hH];exact Nat.le_refl _,(Eqv.one (Nat.le_refl _)).trans (Eqv.one (by rw [hH];exact Nat.le_succ _)),by rw [<- hH];exact g_last,rfl,[],g_skip g_last,.nil (by rw [List.length_append,hH];exact Nat.le_refl _)⟩
 refine in_parts_of (s_assignG (H1:=H0++[[]]) (fun _ h=>h) (s_assignG (v:=.ref (H0.length+1)) (H1:=H0++[[]]++[[]]) (fun _ h=>by rw [<- hH] at h;exact h) (s_assign (fun _ h=>h) (ss_cons (l_whl (σ:=PS)
  (fun s=>[some (.str row),some (.ref H0.length),some (.ref (H0.length+1)),some (.int s.k),s.e4,s.e5,s.e6,s.e7]) (fun s G=>PInv row res H0 s.k s.as s.cur s.ctx G) (fun s=>row.length+1 - s.k) (fun s G hI K hK=>?_) ⟨0,[],[],[],none,none,none,none⟩ ⟨Nat.zero_le _,hp,⟨.nil,fun x hx=>nomatch hx⟩,hst0⟩)))))
 obtain ⟨k,as,cur,ctx,e4,e5,e6,e7⟩:=s
 obtain ⟨hkb,hp,hb,hst⟩:=hI
 dsimp only at hkb hp hb hst hK ⊢
 by_cases hk:k<row.length
 ·have hg:row[k]? = some row[k]:=List.getElem?_eq_getElem hk
  generalize row[k]=c at hg
  have go:∀ {k' as' cur' ctx' G' e4 e5 e6 e7},k<k'->k'<=row.length+1->Pars row k' cur' ctx' res->Bds k' cur' ctx'->PSt H0 as' cur' ctx' G'->K [some (.str row),some (.ref H0.length),some (.ref (H0.length+1)),some (.int (k':Nat)),e4,e5,e6,e7] G':=fun {k' as' cur' ctx' G' e4 e5 e6 e7} h1 h2 h3 h4 h5=>hK ⟨k',as',cur',ctx',e4,e5,e6,e7⟩ G' (Nat.sub_lt_sub_left (Nat.lt_of_lt_of_le h1 h2) h1) ⟨h2,h3,h4,h5⟩
  clear hK
  have same:∀ {d:Nat},row[k]? = some d->c=d:=fun hd=>Option.some.inj (hg.symm.trans hd)
  obtain ⟨l,ha,hra⟩:=hst.at
  have hend:=bd_end hb.cur hra (by lia)
  have cat:∀ {t:T}{v:V},Rep G (enc t) G.length G.length v->PSt H0 as (cur++[t]) ctx (G.set (here H0.length as) (l++[v])):=fun hv=>hst.upd (hra.addT (Nat.le_refl _) hv)
  refine .go (v_b (v_cmp (fun _ h=>h) (fun _ h=>h) o_lt) (decide_eq_true (Int.ofNat_lt.mpr hk))) (s_assign (v_idx (fun _ h=>h) (fun _ h=>h) (i_str hg)) (s_assign (v_call (fun _ h=>h) (here_ok hst)) ?_))
  cases hp with
  | done hd=>exact absurd hk (Nat.not_lt.mpr hd)
  | kept hc hp =>
   obtain rfl:=same hc
   exact s_iteT (fun _ h=>h) (s_append (fun _ h=>h) (v_e (fun _ h=>h) (congrArg (fun s=>V.tup [V.str [107,101,112,116],V.str s]) (slice2 row k))) ha hend.2 (go (k':=k+2) (Nat.lt_add_of_pos_right (by decide)) (Nat.succ_le_succ hk) hp (hb.to (Nat.le_add_right _ 2) (hb.cur.add (Nat.lt_add_of_pos_right (by decide)) fun s e=>nomatch e)) (cat (rep_kept (Nat.le_refl _)))))
  | code hc hp =>
   obtain rfl:=same hc
   have h1:=codeT_up hk
   refine s_iteF (fun _ h=>h) (s_iteT (fun _ h=>h) (c_assign (fun _ h=>h) (code_ok fun v hv=>s_append (fun _ h=>h) (fun _ h=>h) ha hend.2 (go h1 (Nat.le_succ_of_le (codeT_le hk)) hp (hb.to (Nat.le_of_lt h1) (hb.cur.add h1 fun s e=>absurd e (codeT_no s))) (cat (hv _ _ _ (Nat.le_refl _)))))))
  | label hc h12 hp =>
   obtain rfl:=same hc
   have hop:=opens_ok (n:=n+1) hst hc
   rw [decide_eq_true h12] at hop
   have hpush:=hst.push (kd:=none)
   have e2:(G++[[]]).length=G.length+1:=by rw [List.length_append];rfl
   rw [<- e2] at hpush
   refine s_iteF (fun _ h=>h) (s_iteF (fun _ h=>h) (s_iteT (v_call (fun _ h=>h) hop) (s_iteT (fun _ h=>h) (s_append (H1:=G++[[]]++[frV none G.length]) (v:=V.ref (G++[[]]:Heap).length) (fun _ h=>h) (fun _ h=>h) (g_skip (g_skip hst.opn)) (by rw [opn_len,hst.lv.lens];lia) (go (Nat.lt_succ_self k) (Nat.le_succ_of_le hk) hp ⟨.nil,fun x hx=>?_⟩ hpush)))))
   cases hx with
   | head=>exact hb.cur.le (Nat.le_succ _)
   | tail _ hx=>exact (hb.ctx x hx).le (Nat.le_succ _)
  | @span _ d _ _ _ hc hcc hn h12 hp =>
   obtain rfl:=same hc
   have hop:=opens_ok (n:=n+1) hst hc
   have h91:c≠91:=fun e=>by subst e;cases hcc
   have h92:c≠92:=fun e=>by subst e;cases hcc
   have h96:c≠96:=fun e=>by subst e;cases hcc
   have eop:opB row k c=true:=by unfold opB;rw [hcc,hn];simp
   rw [decide_eq_true h12,eop] at hop
   have hpush:=hst.push (kd:=some c)
   have e2:(G++[[]]).length=G.length+1:=by rw [List.length_append];rfl
   rw [<- e2] at hpush
   have hk2:k+2<=row.length+1:=Nat.succ_le_succ hk
   refine s_iteF (v_b (fun _ h=>h) (by simpa using h92)) (s_iteF (v_b (fun _ h=>h) (by simpa using h96)) (s_iteT (v_call (fun _ h=>h) hop) (s_iteF (v_b (fun _ h=>h) (by simpa using h91)) (s_append (H1:=G++[[]]++[frV (some c) G.length]) (v:=V.ref (G++[[]]:Heap).length) (fun _ h=>h) (fun _ h=>h) (g_skip (g_skip hst.opn)) (by rw [opn_len,hst.lv.lens];lia) (go (k':=k+2) (Nat.lt_add_of_pos_right (by decide)) hk2 hp ⟨.nil,fun x hx=>?_⟩ hpush)))))
   cases hx with
   | head=>exact hb.cur.le (Nat.le_add_right _ _)
   | tail _ hx=>exact (hb.ctx x hx).le (Nat.le_add_right _ _)
  | @shutS _ d _ p _ ctx hc hp =>
   obtain rfl:=same hc
   obtain ⟨a,as',rfl,_⟩:=hst.lv
   obtain ⟨hst1,hf1,_⟩:=hst.pop
   obtain ⟨l',g1,g2,g3⟩:=hst.shut (t:=.span d cur true) (v:=spanV d a true) fun G h=>at_span h
   have hop:=opens_ok (n:=n+1) hst hc
   have eop:(decide (((some d,p)::ctx:Ctx).length<12)&&opB row k 41)=false:=by unfold opB;simp
   rw [eop] at hop
   have hpl:=(hb.ctx _ (.head _)).len
   refine s_iteF (fun _ h=>h) (s_iteF (fun _ h=>h) (s_iteF (v_call (fun _ h=>h) hop) (s_iteT (v_and2 (b:=true) (b2:=true) (fun _ h=>h) fun _=>v_and1 (v_call (fun _ h=>h) (last_span hst))) (s_pop (fun _ h=>h) (opn_cons▸hst.opn)
    (s_append (v_call (fun _ h=>h) (here_ok hst1)) (v_tup (v_cons (fun _ h=>h) (v_cons (v_idx (fun _ h=>h) (fun _ h=>h) (i_ref (i:=1) hf1 rfl)) (v_cons (v_idx (fun _ h=>h) (fun _ h=>h) (i_ref (i:=2) hf1 rfl)) (v_cons (fun _ h=>h) v_nil))))) g1 (by lia)
     (go (Nat.lt_succ_self k) (Nat.le_succ_of_le hk) hp ⟨(hb.ctx _ (.head _)).add (Nat.lt_succ_self _) (fun s e=>nomatch e),fun x hx=>(hb.ctx x (.tail _ hx)).le (Nat.le_succ _)⟩ g3))))))
  | @shutL _ _ p _ ctx hc hp =>
   obtain rfl:=same hc
   obtain ⟨a,as',rfl,_⟩:=hst.lv
   obtain ⟨hst1,hf1,_⟩:=hst.pop
   have hop:=opens_ok (n:=n+1) hst hc
   have eop:(decide (((none,p)::ctx:Ctx).length<12)&&opB row k 93)=false:=by unfold opB;simp
   rw [eop] at hop
   have hpl:=(hb.ctx _ (.head _)).len
   have hup:=linkT_up (ts:=cur) hk
   refine s_iteF (fun _ h=>h) (s_iteF (fun _ h=>h) (s_iteF (v_call (fun _ h=>h) hop) (s_iteF (v_and2 (b:=false) (b2:=true) (fun _ h=>h) fun q=>nomatch q) (s_iteT (v_and2 (b:=true) (b2:=true) (fun _ h=>h) fun _=>v_and1 (v_call (fun _ h=>h) (last_label hst))) ?_))))
   refine ss_assign (e_call (es_cons (e_var rfl (es_cons (e_var rfl (es_cons (e_idx (e_pop (e_var rfl ⟨_,rfl,r_pop (opn_cons▸hst.opn) (e_int (v_idxRi (c:=.ref a) hf1 (by decide) rfl (es_nil ?_)))⟩) (monoCall _ _)))))))))
   refine link_ok (ts:=cur) fun g b e=>?_
   obtain ⟨l',g1,g2,g3⟩:=hst.shut (t:=.link cur g b) (v:=linkV a g b) fun G h=>at_link h
   rw [<- e] at g3
   exact s_append (v_call (fun _ h=>h) (here_ok hst1)) (fun _ h=>h) g1 (by lia) (go hup (Nat.le_succ_of_le (linkT_le hk)) hp ⟨(hb.ctx _ (.head _)).add hup (fun s q=>by rw [e] at q;cases q),fun x hx=>(hb.ctx x (.tail _ hx)).le (Nat.le_of_lt hup)⟩ g3)
  | @plain _ d _ _ _ hc h92 h96 hop h41 h93 hp =>
   obtain rfl:=same hc
   have hop':=opens_ok (n:=n+1) hst hc
   have eop:(decide (ctx.length<12)&&opB row k c)=false:=by
    by_cases q:ctx.length<12
    ·rw [hop q,Bool.and_false]
    ·rw [decide_eq_false q];rfl
   rw [eop] at hop'
   have tst:∀ {d:Nat}{w:List Nat}{b:Bool}{ρ:Env},(c=d->b=false)->Ev (callN P (n+2)) ρ G (.cmp .eq (.var 4) (.str [d])) (.bool ([c]==[d]))->(∀ Q:PostV,Q (.bool b) G->wpE (callN P (n+2)) (.call "last_is" [.var 2,.str w]) ρ Q G)->Ev (callN P (n+2)) ρ G (.and [.cmp .eq (.var 4) (.str [d]),.call "last_is" [.var 2,.str w]]) (.bool false):=fun {d w b ρ} h1 h2 h3=>by
    refine v_b (v_and2 h2 fun _=>v_and1 h3) ?_
    by_cases q:c=d
    ·rw [h1 q,Bool.and_false]
    ·rw [show ([c]==[d])=false by simpa using q];rfl
   exact s_iteF (v_b (fun _ h=>h) (by simpa using h92)) (s_iteF (v_b (fun _ h=>h) (by simpa using h96)) (s_iteF (v_call (fun _ h=>h) hop') (s_iteF (tst h41 (fun _ h=>h) (v_call (fun _ h=>h) (last_span hst))) (s_iteF (tst h93 (fun _ h=>h) (v_call (fun _ h=>h) (last_label hst)))
    (c_expr (fun _ h=>h) (plain_ok ha hend.2 hend.1 (go (Nat.lt_succ_self k) (Nat.le_succ_of_le hk) hp (hb.to (Nat.le_succ _) hb.cur.put) (hst.upd (put_rep hra)))))))))
 ·refine .stop (v_b (v_cmp (fun _ h=>h) (fun _ h=>h) o_lt) (decide_eq_false (fun q=>hk (Int.ofNat_lt.mp q)))) (c_ret (fun _ h=>h) (ended_ok (K:=k) hst (by lia) hb ?_))
  cases hp with
  | done hd=>exact h
  | kept hc _=>exact absurd (List.getElem?_eq_some_iff.mp hc).1 hk
  | code hc _=>exact absurd (List.getElem?_eq_some_iff.mp hc).1 hk
  | label hc _ _=>exact absurd (List.getElem?_eq_some_iff.mp hc).1 hk
  | span hc _ _ _ _=>exact absurd (List.getElem?_eq_some_iff.mp hc).1 hk
  | shutS hc _=>exact absurd (List.getElem?_eq_some_iff.mp hc).1 hk
  | shutL hc _=>exact absurd (List.getElem?_eq_some_iff.mp hc).1 hk
  | plain hc _ _ _ _ _ _=>exact absurd (List.getElem?_eq_some_iff.mp hc).1 hk
theorem Pars.past {row:List Nat}{k:Nat}{cur r:List T}{ctx:Ctx}(h:Pars row k cur ctx r) (hk:row.length<=k):r=closeAll cur ctx:=by
 have hno:∀ {c:Nat},row[k]? = some c->r=closeAll cur ctx:=fun hc=>by rw [List.getElem?_eq_none hk] at hc;cases hc
 cases h with
 | done _=>rfl
 | kept hc _=>exact hno hc
 | code hc _=>exact hno hc
 | label hc _ _=>exact hno hc
 | span hc _ _ _ _=>exact hno hc
 | shutS hc _=>exact hno hc
 | shutL hc _=>exact hno hc
 | plain hc _ _ _ _ _ _=>exact hno hc
structure Grow (H G:Heap):Prop where
 len:H.length<=G.length
 old:Eqv H G 0 H.length
theorem Grow.refl {H:Heap}:Grow H H:=⟨Nat.le_refl _,.refl⟩
theorem Grow.one {H:Heap}{x:List V}:Grow H (H++[x]):=⟨by rw [List.length_append];exact Nat.le_add_right _ _,.one (Nat.le_refl _)⟩
theorem Grow.trans {A B C:Heap}(h:Grow A B) (k:Grow B C):Grow A C:=⟨Nat.le_trans h.len k.len,h.old.trans (k.old.sub (Nat.le_refl _) h.len)⟩
theorem Grow.get {H G:Heap}{a:Nat}{l:List V}(g:Grow H G) (h:H[a]? = some l):G[a]? = some l:=(g.old a (Nat.zero_le _) (List.getElem?_eq_some_iff.mp h).1).trans h
theorem Rep.grow {H G:Heap}{xs:X}{lo hi:Nat}{l:V}(h:Rep H xs lo hi l) (g:Grow H G) (hh:hi<=H.length):Rep G xs lo hi l:=h.to (g.old.sub (Nat.zero_le _) hh)
theorem lt_of_get {H:Heap}{a:Nat}{l:List V}(h:H[a]? = some l):a<H.length:=(List.getElem?_eq_some_iff.mp h).1
theorem len1 {H:Heap}{x:List V}:(H++[x]).length=H.length+1:=by rw [List.length_append];rfl
noncomputable def W:Nat:=1000000
theorem W4:(4:Nat)<=W:=by decide
theorem fit_txt {m:Nat}{s:List Nat}:Fit W m (enc (.txt s)):=Fit.at
theorem fit_kept {m:Nat}{s:List Nat}:Fit W (m+1) (enc (.kept s)):=⟨Nat.le_trans (by decide:(2:Nat)<=4) W4,fun y hy=>by
 rcases List.mem_cons.mp hy with rfl | hy
 ·exact Fit.at
 ·rw [List.mem_singleton.mp hy];exact Fit.at⟩
theorem fit_code {m:Nat}{s:List Nat}{b:Bool}:Fit W (m+1) (enc (.code s b)):=⟨Nat.le_trans (by decide:(3:Nat)<=4) W4,fun y hy=>by
 rcases List.mem_cons.mp hy with rfl | hy
 ·exact Fit.at
 ·rcases List.mem_cons.mp hy with rfl | hy
  ·exact Fit.at
  ·rw [List.mem_singleton.mp hy];exact Fit.at⟩
theorem mem_encs:∀ {ts:List T}{y:X},y∈encs ts->∃ t∈ts,y=enc t
 | [],y,h=>by cases h
 | t::ts,y,h=>by
  cases h with
  | head=>exact ⟨t,.head _,rfl⟩
  | tail _ h =>
   obtain ⟨u,hu,e⟩:=mem_encs h
   exact ⟨u,.tail _ hu,e⟩
theorem fit_lst {m:Nat}{us:List T}(h:us.length<=W) (hf:∀ t∈us,Fit W m (enc t)):Fit W (m+1) (.lst (encs us)):=⟨by rw [encs_len];exact h,fun y hy=>by
 obtain ⟨t,ht,rfl⟩:=mem_encs hy
 exact hf t ht⟩
theorem fit_span {m c:Nat}{us:List T}{b:Bool}(h:us.length<=W) (hf:∀ t∈us,Fit W m (enc t)):Fit W (m+2) (enc (.span c us b)):=⟨W4,fun y hy=>by
 rcases List.mem_cons.mp hy with rfl | hy
 ·exact Fit.at
 ·rcases List.mem_cons.mp hy with rfl | hy
  ·exact Fit.at
  ·rcases List.mem_cons.mp hy with rfl | hy
   ·exact fit_lst h hf
   ·rw [List.mem_singleton.mp hy];exact Fit.at⟩
theorem fit_link {m:Nat}{us:List T}{g:Option (List Nat)}{b:Bool}(h:us.length<=W) (hf:∀ t∈us,Fit W m (enc t)):Fit W (m+2) (enc (.link us g b)):=⟨W4,fun y hy=>by
 rcases List.mem_cons.mp hy with rfl | hy
 ·exact Fit.at
 ·rcases List.mem_cons.mp hy with rfl | hy
  ·exact fit_lst h hf
  ·rcases List.mem_cons.mp hy with rfl | hy
   ·exact Fit.at
   ·rw [List.mem_singleton.mp hy];exact Fit.at⟩
theorem nx_len {row:List Nat}{k:Nat}(h:nx row k=[40]):k+2<=row.length:=by
 have:=congrArg List.length h
 unfold nx at this
 rw [List.length_take,List.length_drop,List.length_singleton] at this
 lia
theorem opB_span {row:List Nat}{k c:Nat}(h:[42,95,126].contains c=true) (hn:nx row k=[40]):opB row k c=true:=by unfold opB;rw [h,hn];simp
theorem Pars.total {row:List Nat}:∀ (n k:Nat) (cur:List T) (ctx:Ctx),row.length<=k+n->∃ r,Pars row k cur ctx r
 | 0,k,cur,ctx,h=>⟨_,.done h⟩
 | n+1,k,cur,ctx,h=>by
  by_cases hk:row.length<=k
  ·exact ⟨_,.done hk⟩
  have hk':k<row.length:=Nat.not_le.mp hk
  have up:∀ {k':Nat}(cur':List T) (ctx':Ctx),k<k'->∃ r,Pars row k' cur' ctx' r:=fun {k'} cur' ctx' q=>Pars.total (row:=row) n k' cur' ctx' (by lia)
  have hg:row[k]? = some row[k]:=List.getElem?_eq_getElem hk'
  generalize row[k]=c at hg
  by_cases h92:c=92
  ·exact (up _ ctx (Nat.lt_add_of_pos_right (by decide))).imp fun r hr=>.kept (by rw [hg,h92]) hr
  by_cases h96:c=96
  ·exact (up _ ctx (codeT_up hk')).imp fun r hr=>.code (by rw [hg,h96]) hr
  by_cases hop:ctx.length<12/\opB row k c=true
  ·obtain ⟨h12,hop⟩:=hop
   by_cases h91:c=91
   ·exact (up [] ((none,cur)::ctx) (Nat.lt_succ_self _)).imp fun r hr=>.label (by rw [hg,h91]) h12 hr
   ·unfold opB at hop
    rw [show (c==91)=false by simpa using h91,Bool.false_or] at hop
    obtain ⟨h1,h2⟩:=Bool.and_eq_true_iff.mp hop
    exact (up [] ((some c,cur)::ctx) (Nat.lt_add_of_pos_right (by decide))).imp fun r hr=>.span hg h1 (by simpa using h2) h12 hr
  have hno:ctx.length<12->opB row k c=false:=fun h12=>by
   cases e:opB row k c with
   | false=>rfl
   | true=>exact absurd ⟨h12,e⟩ hop
  have plain:(c=41->isSpan ctx=false)->(c=93->isLabel ctx=false)->∃ r,Pars row k cur ctx r:=fun h1 h2=>(up (putT cur c) ctx (Nat.lt_succ_self _)).imp fun r hr=>.plain hg h92 h96 hno h1 h2 hr
  match ctx,plain with
  | [],plain=>exact plain (fun _=>rfl) fun _=>rfl
  | (some x,p)::ctx,plain =>
   by_cases h41:c=41
   ·exact (up (p++[.span x cur true]) ctx (Nat.lt_succ_self _)).imp fun r hr=>.shutS (by rw [hg,h41]) hr
   ·exact plain (fun q=>absurd q h41) fun _=>rfl
  | (none,p)::ctx,plain =>
   by_cases h93:c=93
   ·exact (up (p++[(linkT row k cur).1]) ctx (linkT_up hk')).imp fun r hr=>.shutL (by rw [hg,h93]) hr
   ·exact plain (fun _=>rfl) fun q=>absurd q h93
noncomputable def shutN (row:List Nat) (k:Nat) (cur:List T):Ctx->Nat×List T×Ctx
 | []=>(k+1,cur,[])
 | (some d,p)::ctx=>(k+1,p++[.span d cur true],ctx)
 | (none,p)::ctx=>((linkT row k cur).2,p++[(linkT row k cur).1],ctx)
noncomputable def nxt (row:List Nat) (k c:Nat) (cur:List T) (ctx:Ctx):Nat×List T×Ctx :=
 if c=92 then (k+2,cur++[.kept (nx row k)],ctx) else if c=96 then ((codeT row k).2,cur++[(codeT row k).1],ctx) else
 if ctx.length<12/\opB row k c=true then (if c=91 then (k+1,[],(none,cur)::ctx) else (k+2,[],(some c,cur)::ctx)) else
 if c=41/\isSpan ctx=true then shutN row k cur ctx else if c=93/\isLabel ctx=true then shutN row k cur ctx else (k+1,putT cur c,ctx)
theorem Pars.step {row:List Nat}{k:Nat}{cur r:List T}{ctx:Ctx}(h:Pars row k cur ctx r):(row.length<=k/\r=closeAll cur ctx)∨∃ c,row[k]? = some c/\k<(nxt row k c cur ctx).1/\Pars row (nxt row k c cur ctx).1 (nxt row k c cur ctx).2.1 (nxt row k c cur ctx).2.2 r:=by
 have mk:∀ {c:Nat}{s:Nat×List T×Ctx},row[k]? = some c->nxt row k c cur ctx=s->k<s.1->Pars row s.1 s.2.1 s.2.2 r->(row.length<=k/\r=closeAll cur ctx)∨∃ c,row[k]? = some c/\k<(nxt row k c cur ctx).1/\Pars row (nxt row k c cur ctx).1 (nxt row k c cur ctx).2.1 (nxt row k c cur ctx).2.2 r:=fun {c s} h1 h2 h3 h4=>Or.inr ⟨c,h1,by rw [h2];exact ⟨h3,h4⟩⟩
 cases h with
 | done hk=>exact Or.inl ⟨hk,rfl⟩
 | kept hc h=>exact mk hc rfl (Nat.lt_add_of_pos_right (by decide)) h
 | code hc h=>exact mk hc rfl (codeT_up (List.getElem?_eq_some_iff.mp hc).1) h
 | @label _ cur _ ctx hc h12 h=>exact mk (s:=(k+1,[],(none,cur)::ctx)) hc (by unfold nxt;rw [if_neg (by decide),if_neg (by decide),if_pos ⟨h12,rfl⟩];rfl) (Nat.lt_succ_self _) h
 | @span _ c cur _ ctx hc hcc hn h12 h =>
  exact mk (s:=(k+2,[],(some c,cur)::ctx)) hc (by unfold nxt;rw [if_neg (fun e=>by subst e;cases hcc),if_neg (fun e=>by subst e;cases hcc),if_pos ⟨h12,opB_span hcc hn⟩,if_neg (fun e=>by subst e;cases hcc)]) (Nat.lt_add_of_pos_right (by decide)) h
 | @shutS _ c cur p _ ctx hc h =>
  have e:opB row k 41=false:=by unfold opB;simp
  exact mk (s:=(k+1,p++[.span c cur true],ctx)) hc (by unfold nxt;rw [if_neg (by decide),if_neg (by decide),if_neg (fun q=>by rw [e] at q;cases q.2)];rfl) (Nat.lt_succ_self _) h
 | @shutL _ cur p _ ctx hc h =>
  have e:opB row k 93=false:=by unfold opB;simp
  exact mk (s:=((linkT row k cur).2,p++[(linkT row k cur).1],ctx)) hc (by unfold nxt;rw [if_neg (by decide),if_neg (by decide),if_neg (fun q=>by rw [e] at q;cases q.2),if_neg (fun q=>by cases q.1)];rfl) (linkT_up (List.getElem?_eq_some_iff.mp hc).1) h
 | @plain _ c cur _ ctx hc h92 h96 hop h41 h93 h =>
  exact mk (s:=(k+1,putT cur c,ctx)) hc (by unfold nxt;rw [if_neg h92,if_neg h96,if_neg (fun q=>by rw [hop q.1] at q;cases q.2),if_neg (fun q=>by rw [h41 q.1] at q;cases q.2),if_neg (fun q=>by rw [h93 q.1] at q;cases q.2)]) (Nat.lt_succ_self _) h
theorem Pars.det {row:List Nat}:∀ (n k:Nat) (cur:List T) (ctx:Ctx) (r r':List T),row.length<=k+n->Pars row k cur ctx r->Pars row k cur ctx r'->r=r'
 | 0,k,cur,ctx,r,r',hn,h,h'=>(h.past hn).trans (h'.past hn).symm
 | n+1,k,cur,ctx,r,r',hn,h,h'=>by
  rcases h.step with ⟨q,e⟩ | ⟨c,hc,hk,g⟩
  ·rw [e,h'.past q]
  ·rcases h'.step with ⟨q,e⟩ | ⟨c',hc',_,g'⟩
   ·rw [e,h.past q]
   ·cases hc.symm.trans hc'
    exact Pars.det n _ _ _ r r' (by lia) g g'
noncomputable def pts (row:List Nat):List T:=Classical.choose (Pars.total (row:=row) row.length 0 [] [] (Nat.le_of_eq (Nat.zero_add _).symm))
theorem pts_ok (row:List Nat):Pars row 0 [] [] (pts row):=Classical.choose_spec (Pars.total (row:=row) row.length 0 [] [] (Nat.le_of_eq (Nat.zero_add _).symm))
theorem pts_eq {row:List Nat}{us:List T}(h:Pars row 0 [] [] us):us=pts row:=Pars.det row.length 0 [] [] _ _ (Nat.le_of_eq (Nat.zero_add _).symm) h (pts_ok row)
noncomputable def runL (c:Nat):List Nat->Nat
 | []=>0
 | x::r=>if x=c then runL c r+1 else 0
theorem slice_at (row:List Nat) (k:Nat):slice row (some (k:Int)) (some ((k:Int)+1))=(row.drop k).take 1:=by
 rw [slice_mid (Int.natCast_nonneg _) (Int.le_add_one (Int.natCast_nonneg _))]
 show (row.drop k).take (k+1 - k)=_
 rw [Nat.add_sub_cancel_left]
theorem run_ok {C:Calls}{row:List Nat}{c:Nat}{H:Heap}{R:PostS}(h:R .next [some (.str row),some (.str [c]),some (.int (runL c row:Nat))] H) :
  wpS C (.whl (.cmp .eq (.slc (.var 0) (.var 2) (.bin .add (.var 2) (.int 1))) (.var 1)) [.assign 2 (.bin .add (.var 2) (.int 1))]) [some (.str row),some (.str [c]),some (.int 0)] R H:=by
 refine l_whl (σ:=Nat) (fun i=>[some (.str row),some (.str [c]),some (.int (i:Nat))]) (fun i G=>G=H/\runL c row=i+runL c (row.drop i)) (fun i=>runL c (row.drop i)) (fun i G hI K hK=>?_) 0 ⟨rfl,(Nat.zero_add _).symm⟩
 obtain ⟨rfl,he⟩:=hI
 have et:Ev C [some (.str row),some (.str [c]),some (.int (i:Nat))] G (.cmp .eq (.slc (.var 0) (.var 2) (.bin .add (.var 2) (.int 1))) (.var 1)) (.bool ((row.drop i).take 1==[c])):=v_b (fun _ h=>h) (congrArg (· == [c]) (slice_at row i))
 have e1:row.drop (i+1)=(row.drop i).tail:=(List.tail_drop).symm
 cases hd:row.drop i with
 | nil =>
  rw [hd] at et he
  rw [show runL c row=i from he] at h
  exact .stop et h
 | cons x r =>
  rw [hd] at et he e1
  by_cases hx:x=c
  ·subst hx
   have e2:runL x (x::r)=runL x r+1:=if_pos rfl
   refine .go (v_b et (by show ([x]==[x])=true;simp)) (hK (i+1) _ ?_ ⟨rfl,?_⟩)
   ·show runL x (row.drop (i+1))<runL x (row.drop i)
    rw [e1,hd,e2];exact Nat.lt_succ_self _
   ·rw [e1,he,e2];exact (Nat.add_right_comm i _ 1)
  ·have e2:runL c (x::r)=0:=if_neg hx
   rw [e2] at he
   rw [show runL c row=i from he] at h
   exact .stop (v_b et (by show ([x]==[c])=false;simpa using hx)) h
theorem run_of_ok {n:Nat}{row:List Nat}{c:Nat}{H:Heap}(Q:PostV) (h:Q (.int (runL c row:Nat)) H):callN P (n+1) "run_of" [.str row,.str [c]] Q H:=in_run_of (s_assign (fun _ h=>h) (ss_cons (run_ok h)))
structure Sh where
 k:Nat
 n:Nat
 r:List Nat
noncomputable def isRun (c m:Nat) (row:List Nat):Bool:=decide (1<=runL c row)&&(decide (runL c row<=m)&&((row.drop (runL c row)).take 1==[32]))
noncomputable def isQ (deep:Nat) (row:List Nat):Bool:=decide (deep<9)&&(row.take 2==[62,32])
noncomputable def shpN (deep:Nat) (row:List Nat):Sh:=bif isQ deep row then ⟨1,0,row.drop 2⟩ else bif isRun 35 6 row then ⟨2,runL 35 row,row.drop (runL 35 row+1)⟩ else bif isRun 45 9 row then ⟨3,runL 45 row,row.drop (runL 45 row+1)⟩ else ⟨4,0,row⟩
noncomputable def shp (deep:Nat) (row:List Nat):Sh:=match row with
 | []=>⟨0,0,[]⟩
 | x::r=>shpN deep (x::r)
noncomputable def nmS:Nat->List Nat
 | 0=>[103,97,112]
 | 1=>[113,117,111,116,101]
 | 2=>[104,101,97,100,105,110,103]
 | 3=>[105,116,101,109]
 | _=>[112,108,97,105,110]
noncomputable def shV (s:Sh):V:=.tup [.str (nmS s.k),.int (s.n:Nat),.str s.r]
theorem from_at (row:List Nat) (k:Nat):slice row (some ((k:Int)+1)) none=row.drop (k+1):=slice_from (Int.le_add_one (Int.natCast_nonneg k))
theorem shp_cases (deep:Nat) (row:List Nat):(row=[]/\shp deep row=⟨0,0,[]⟩)∨((row==[])=false/\((isQ deep row=true/\shp deep row=⟨1,0,row.drop 2⟩)∨(isQ deep row=false/\((isRun 35 6 row=true/\shp deep row=⟨2,runL 35 row,row.drop (runL 35 row+1)⟩)∨(isRun 35 6 row=false /\
  ((isRun 45 9 row=true/\shp deep row=⟨3,runL 45 row,row.drop (runL 45 row+1)⟩)∨(isRun 45 9 row=false/\shp deep row=⟨4,0,row⟩))))))):=by
 match row with
 | []=>exact Or.inl ⟨rfl,rfl⟩
 | x::r =>
  refine Or.inr ⟨rfl,?_⟩
  show (_/\shpN deep (x::r)=_)∨(_/\((_/\shpN deep (x::r)=_)∨(_/\((_/\shpN deep (x::r)=_)∨(_/\shpN deep (x::r)=_)))))
  generalize x::r=row
  unfold shpN
  cases isQ deep row with
  | true=>exact Or.inl ⟨rfl,rfl⟩
  | false =>
   refine Or.inr ⟨rfl,?_⟩
   cases isRun 35 6 row with
   | true=>exact Or.inl ⟨rfl,rfl⟩
   | false =>
    refine Or.inr ⟨rfl,?_⟩
    cases isRun 45 9 row with
    | true=>exact Or.inl ⟨rfl,rfl⟩
    | false=>exact Or.inr ⟨rfl,rfl⟩
section
variable {n deep:Nat}{row:List Nat}{H:Heap}
theorem lt9 {k m:Nat}:decide ((k:Int)<(m:Nat))=decide (k<m):=decide_eq_decide.mpr Int.ofNat_lt
theorem le9 {k m:Nat}:decide ((k:Int)<=(m:Nat))=decide (k<=m):=decide_eq_decide.mpr Int.ofNat_le
theorem e_sp {C:Calls}{ρ:Env}{k x:Nat}(h0:ρ[0]? = some (some (.str row))) (hx:ρ[x]? = some (some (.int (k:Nat)))):Ev C ρ H (.cmp .eq (.slc (.var 0) (.var x) (.bin .add (.var x) (.int 1))) (.str [32])) (.bool ((row.drop k).take 1==[32])):=v_cmp (v_slc (v_var h0) (v_var hx) (v_bin (v_var hx) v_int o_addI) o_slcS) v_str (by rw [slice_at];rfl)
theorem e_rest {C:Calls}{ρ:Env}{k x:Nat}{w:List Nat}(h0:ρ[0]? = some (some (.str row))) (hx:ρ[x]? = some (some (.int (k:Nat)))):Ev C ρ H (.tup [.str w,.var x,.slcL (.var 0) (.bin .add (.var x) (.int 1))]) (.tup [.str w,.int (k:Nat),.str (row.drop (k+1))]):=v_tup (v_cons v_str (v_cons (v_var hx) (v_cons (v_slcL (v_var h0) (v_bin (v_var hx) v_int o_addI) (by rw [o_slcS,from_at])) v_nil)))
theorem shape_ok (Q:PostV) (h:Q (shV (shp deep row)) H):callN P (n+2) "shape" [.str row,.int (deep:Nat)] Q H:=by
 refine in_shape ?_
 have eq1:∀ {C:Calls}{y z:Option V},Ev C [some (.str row),some (.int (deep:Nat)),y,z] H (.and [.cmp .lt (.var 1) (.glob "MOST_QUOTES" 9),.cmp .eq (.slcH (.var 0) (.int 2)) (.str [62,32])]) (.bool (isQ deep row)):=v_and2 (v_b (v_cmp (fun _ h=>h) (fun _ h=>h) o_lt) lt9) fun _=>v_and1 (v_b (fun _ h=>h) (congrArg (· == [62,32]) (slice_to (by decide))))
 have e2:∀ {C:Calls}{a z:Option V},Ev C [some (.str row),a,some (.int (runL 35 row:Nat)),z] H (.and [.cmp .le (.int 1) (.var 2),.cmp .le (.var 2) (.glob "MOST_SHARPS" 6),.cmp .eq (.slc (.var 0) (.var 2) (.bin .add (.var 2) (.int 1))) (.str [32])]) (.bool (isRun 35 6 row)):=v_and2 (v_b (v_cmp (fun _ h=>h) (fun _ h=>h) o_le) le9) fun _=>v_and2 (v_b (v_cmp (fun _ h=>h) (fun _ h=>h) o_le) le9) fun _=>v_and1 (e_sp rfl rfl)
 have e3:∀ {C:Calls}{a z:Option V},Ev C [some (.str row),a,z,some (.int (runL 45 row:Nat))] H (.and [.cmp .le (.int 1) (.var 3),.cmp .le (.var 3) (.glob "MOST_DASHES" 9),.cmp .eq (.slc (.var 0) (.var 3) (.bin .add (.var 3) (.int 1))) (.str [32])]) (.bool (isRun 45 9 row)):=v_and2 (v_b (v_cmp (fun _ h=>h) (fun _ h=>h) o_le) le9) fun _=>v_and2 (v_b (v_cmp (fun _ h=>h) (fun _ h=>h) o_le) le9) fun _=>v_and1 (e_sp rfl rfl)
 rcases shp_cases deep row with ⟨rfl,e⟩ | ⟨h0,⟨hq,e⟩ | ⟨hq,⟨h35,e⟩ | ⟨h35,⟨h45,e⟩ | ⟨h45,e⟩⟩⟩⟩
 ·rw [e] at h
  exact s_iteT (fun _ h=>h) h
 ·rw [e] at h
  exact s_skip (v_b (fun _ h=>h) h0) (s_iteT (v_b eq1 hq) (s_ret (v_e (fun _ h=>h) (congrArg (fun s=>V.tup [V.str [113,117,111,116,101],V.int 0,V.str s]) (slice_from (by decide)))) h))
 ·rw [e] at h
  exact s_skip (v_b (fun _ h=>h) h0) (s_skip (v_b eq1 hq) (s_assign (v_call (fun _ h=>h) run_of_ok) (s_iteT (v_b e2 h35) (s_ret (e_rest rfl rfl) h))))
 ·rw [e] at h
  exact s_skip (v_b (fun _ h=>h) h0) (s_skip (v_b eq1 hq) (s_assign (v_call (fun _ h=>h) run_of_ok) (s_skip (v_b e2 h35) (s_assign (v_call (fun _ h=>h) run_of_ok) (s_iteT (v_b e3 h45) (s_ret (e_rest rfl rfl) h))))))
 ·rw [e] at h
  exact s_skip (v_b (fun _ h=>h) h0) (s_skip (v_b eq1 hq) (s_assign (v_call (fun _ h=>h) run_of_ok) (s_skip (v_b e2 h35) (s_assign (v_call (fun _ h=>h) run_of_ok) (s_skip (v_b e3 h45) h)))))
end
inductive It where
 | it (n:Nat) (ts:List T) (sub:List It)
mutual
noncomputable def itE:It->X
 | .it n ts sub=>.tup [.at (.i (n:Nat)),.lst (encs ts),.lst (itEs sub)]
noncomputable def itEs:List It->List X
 | []=>[]
 | i::is=>itE i::itEs is
end
mutual
noncomputable def cnt:It->Nat
 | .it _ _ sub=>cnts sub+1
noncomputable def cnts:List It->Nat
 | []=>0
 | i::is=>cnt i+cnts is
end
theorem cnts_app:∀ is js:List It,cnts (is++js)=cnts is+cnts js
 | [],js=>(Nat.zero_add _).symm
 | i::is,js=>by show cnt i+cnts (is++js)=cnt i+cnts is+cnts js;rw [cnts_app is js,Nat.add_assoc]
theorem len_cnts:∀ is:List It,is.length<=cnts is
 | []=>Nat.le_refl _
 | .it n ts sub::is=>by
  show is.length+1<=(cnts sub+1)+cnts is
  have:=len_cnts is
  lia
noncomputable def insAt:Nat->List It->It->List It
 | 0,is,x=>is++[x]
 | j+1,is,x=>match is.getLast? with
  | some (.it m ts sub)=>is.dropLast++[.it m ts (insAt j sub x)]
  | none=>is++[x]
theorem insAt_last {j m:Nat}{ts:List T}{sub is:List It}{x:It}(h:is.getLast? = some (It.it m ts sub)):insAt (j+1) is x=is.dropLast++[It.it m ts (insAt j sub x)]:=by
 show (match is.getLast? with
  | some (It.it m ts sub)=>is.dropLast++[It.it m ts (insAt j sub x)]
  | none=>is++[x])=_
 rw [h]
theorem insAt_succ {j m:Nat}{ts:List T}{sub is:List It}{x:It}:insAt (j+1) (is++[It.it m ts sub]) x=is++[It.it m ts (insAt j sub x)]:=by
 rw [insAt_last List.getLast?_concat,List.dropLast_concat]
theorem cnts_ins:∀ (j:Nat) (is:List It) (x:It),cnts (insAt j is x)=cnts is+cnt x
 | 0,is,x=>by show cnts (is++[x])=_;rw [cnts_app];rfl
 | j+1,is,x=>by
  rcases List.eq_nil_or_concat is with rfl | ⟨is',i,rfl⟩
  ·show cnts [x]=_;show cnt x+0=0+cnt x;rw [Nat.zero_add];rfl
  ·rw [List.concat_eq_append]
   obtain ⟨m,ts,sub⟩:=i
   rw [insAt_succ,cnts_app,cnts_app]
   show cnts is'+((cnts (insAt j sub x)+1)+0)=cnts is'+((cnts sub+1)+0)+cnt x
   rw [cnts_ins j sub x]
   lia
inductive Bk where
 | gap (n:Nat)
 | head (n:Nat) (ts:List T)
 | list (is:List It)
 | para (rs:List (List T))
 | quote (bs:List Bk)
noncomputable def paE:List (List T)->List X
 | []=>[]
 | ts::r=>.lst (encs ts)::paE r
mutual
noncomputable def bkE:Bk->X
 | .gap n=>.tup [.at (.s [103,97,112]),.at (.i (n:Nat))]
 | .head n ts=>.tup [.at (.s [104,101,97,100,105,110,103]),.at (.i (n:Nat)),.lst (encs ts)]
 | .list is=>.tup [.at (.s [108,105,115,116]),.lst (itEs is)]
 | .para rs=>.tup [.at (.s [112,97,114,97]),.lst (paE rs)]
 | .quote bs=>.tup [.at (.s [113,117,111,116,101]),.lst (bkEs bs)]
noncomputable def bkEs:List Bk->List X
 | []=>[]
 | b::bs=>bkE b::bkEs bs
end
theorem bkEs_app:∀ as bs:List Bk,bkEs (as++bs)=bkEs as++bkEs bs
 | [],_=>rfl
 | b::as,bs=>congrArg (bkE b::·) (bkEs_app as bs)
theorem bkEs_len:∀ bs:List Bk,(bkEs bs).length=bs.length
 | []=>rfl
 | _::bs=>congrArg (· + 1) (bkEs_len bs)
theorem lst_at {G:Heap}{xs:List X}{a k:Nat}{l:List V}(h:G[a]? = some l) (hr:Reps G xs (a+k+1) G.length l):Rep G (.lst xs) a G.length (.ref a):=by
 have hle:=hr.le
 exact rep_lst ⟨Nat.le_refl _,lt_of_get h,Nat.le_succ_of_le (Nat.le_add_right _ _),Nat.le_refl _⟩ h hr
theorem grow_of {H G:Heap}{xs:List X}{k:Nat}{l:List V}(hr:Reps G xs (H.length+k) G.length l) (e:Eqv H G 0 H.length):Grow H G:=⟨Nat.le_trans (Nat.le_add_right _ _) hr.le,e⟩
noncomputable def FitL (deep:Nat) (ts:List T):Prop:=∀ t∈ts,Fit W (2 * (12 - deep)+1) (enc t)
theorem FitL.nil {deep:Nat}:FitL deep []:=fun _ q=>nomatch q
theorem FitL.add {deep:Nat}{ts:List T}{t:T}(h:FitL deep ts) (k:Fit W (2 * (12 - deep)+1) (enc t)):FitL deep (ts++[t]):=fun x hx=>by
 rcases List.mem_append.mp hx with q | q
 ·exact h x q
 ·rw [List.mem_singleton.mp q];exact k
theorem FitL.put {deep c:Nat}{ts:List T}(h:FitL deep ts):FitL deep (putT ts c):=by
 have hadd:=h.add (t:=.txt [c]) fit_txt
 rcases List.eq_nil_or_concat ts with rfl | ⟨us,t,rfl⟩
 ·exact hadd
 ·rw [List.concat_eq_append] at h hadd ⊢
  cases t with
  | txt s=>rw [putT_txt];exact FitL.add (fun x hx=>h x (List.mem_append_left _ hx)) fit_txt
  | kept s=>unfold putT;simp only [List.getLast?_append,List.getLast?_singleton,Option.some_or];exact hadd
  | code s b=>unfold putT;simp only [List.getLast?_append,List.getLast?_singleton,Option.some_or];exact hadd
  | span c' ts b=>unfold putT;simp only [List.getLast?_append,List.getLast?_singleton,Option.some_or];exact hadd
  | link ts g b=>unfold putT;simp only [List.getLast?_append,List.getLast?_singleton,Option.some_or];exact hadd
theorem putT_len {ts:List T}{c:Nat}:(putT ts c).length<=ts.length+1:=by
 rcases List.eq_nil_or_concat ts with rfl | ⟨us,t,rfl⟩
 ·exact Nat.le_refl _
 ·rw [List.concat_eq_append]
  cases t with
  | txt s=>rw [putT_txt,List.length_append,List.length_append];exact Nat.le_succ _
  | kept s=>unfold putT;simp only [List.getLast?_append,List.getLast?_singleton,Option.some_or];rw [List.length_append];exact Nat.le_refl _
  | code s b=>unfold putT;simp only [List.getLast?_append,List.getLast?_singleton,Option.some_or];rw [List.length_append];exact Nat.le_refl _
  | span c' ts b=>unfold putT;simp only [List.getLast?_append,List.getLast?_singleton,Option.some_or];rw [List.length_append];exact Nat.le_refl _
  | link ts g b=>unfold putT;simp only [List.getLast?_append,List.getLast?_singleton,Option.some_or];rw [List.length_append];exact Nat.le_refl _
noncomputable def FitC (k:Nat):Ctx->Prop
 | []=>True
 | (_,p)::ctx=>ctx.length<12/\FitL ctx.length p/\p.length<=k/\FitC k ctx
theorem FitC.le {k m:Nat}(h:k<=m):∀ {ctx:Ctx},FitC k ctx->FitC m ctx
 | [],_=>trivial
 | _::ctx,q=>⟨q.1,q.2.1,Nat.le_trans q.2.2.1 h,FitC.le h q.2.2.2⟩
theorem fit_up {deep:Nat}{us:List T}(hd:deep<12) (hl:us.length<=W) (h:FitL (deep+1) us) {t:T}(ht:(∃ c b,t=.span c us b)∨∃ g b,t=.link us g b):Fit W (2 * (12 - deep)+1) (enc t):=by
 have e:2 * (12 - deep)+1=2 * (12 - (deep+1))+1+2:=by lia
 rw [e]
 rcases ht with ⟨c,b,rfl⟩ | ⟨g,b,rfl⟩
 ·exact fit_span hl h
 ·exact fit_link hl h
theorem fit_closeAll {k:Nat}(hk:k+1<=W):∀ {ctx:Ctx}{cur:List T},cur.length<=k+1->FitL ctx.length cur->FitC k ctx->FitL 0 (closeAll cur ctx)/\(closeAll cur ctx).length<=k+1
 | [],cur,h1,h2,_=>⟨h2,h1⟩
 | (kd,p)::ctx,cur,h1,h2,h3=>by
  refine fit_closeAll hk (ctx:=ctx) (by rw [List.length_append];exact Nat.succ_le_succ h3.2.2.1) (h3.2.1.add (fit_up h3.1 (Nat.le_trans h1 hk) h2 ?_)) h3.2.2.2
  cases kd with
  | some c=>exact Or.inl ⟨c,false,rfl⟩
  | none=>exact Or.inr ⟨none,false,rfl⟩
theorem Pars.fit {row:List Nat}{k:Nat}{cur r:List T}{ctx:Ctx}(h:Pars row k cur ctx r):row.length<=900000->k<=row.length+1->cur.length<=k->FitL ctx.length cur->FitC k ctx->FitL 0 r/\r.length<=row.length+2:=by
 have hW:W=1000000:=rfl
 induction h with
 | done hk =>
  intro h0 h1 h2 h3 h4
  have:=fit_closeAll (k:=row.length+1) (by lia) (Nat.le_trans h2 (Nat.le_trans h1 (Nat.le_succ _))) h3 (h4.le h1)
  exact this
 | kept hc _ ih=>exact fun h0 h1 h2 h3 h4=>ih h0 (Nat.succ_le_succ (List.getElem?_eq_some_iff.mp hc).1) (by rw [List.length_append];exact Nat.succ_le_succ (Nat.le_succ_of_le h2)) (h3.add fit_kept) (h4.le (Nat.le_add_right _ _))
 | @code k cur r ctx hc _ ih =>
  intro h0 h1 h2 h3 h4
  have hk:=(List.getElem?_eq_some_iff.mp hc).1
  have hu:=codeT_up hk
  refine ih h0 (Nat.le_succ_of_le (codeT_le hk)) (by rw [List.length_append];exact Nat.lt_of_le_of_lt h2 hu) (h3.add ?_) (h4.le (Nat.le_of_lt hu))
  unfold codeT
  split<;>exact fit_code
 | label hc h12 _ ih=>exact fun h0 h1 h2 h3 h4=>ih h0 (Nat.succ_le_succ (Nat.le_of_lt (List.getElem?_eq_some_iff.mp hc).1)) (Nat.zero_le _) .nil ⟨h12,h3,Nat.le_succ_of_le h2,h4.le (Nat.le_succ _)⟩
 | span hc _ hn h12 _ ih=>exact fun h0 h1 h2 h3 h4=>ih h0 (Nat.le_succ_of_le (nx_len hn)) (Nat.zero_le _) .nil ⟨h12,h3,Nat.le_trans h2 (Nat.le_add_right _ _),h4.le (Nat.le_add_right _ _)⟩
 | @shutS k c cur p r ctx hc _ ih =>
  intro h0 h1 h2 h3 h4
  exact ih h0 (Nat.succ_le_succ (Nat.le_of_lt (List.getElem?_eq_some_iff.mp hc).1)) (by rw [List.length_append];exact Nat.succ_le_succ h4.2.2.1) (h4.2.1.add (fit_up h4.1 (by lia) h3 (Or.inl ⟨c,true,rfl⟩))) (h4.2.2.2.le (Nat.le_succ _))
 | @shutL k cur p r ctx hc _ ih =>
  intro h0 h1 h2 h3 h4
  have hk:=(List.getElem?_eq_some_iff.mp hc).1
  have hu:=linkT_up (ts:=cur) hk
  exact ih h0 (Nat.le_succ_of_le (linkT_le hk)) (by rw [List.length_append];exact Nat.lt_of_le_of_lt h4.2.2.1 hu) (h4.2.1.add (fit_up h4.1 (by lia) h3 (Or.inr linkT_form))) (h4.2.2.2.le (Nat.le_of_lt hu))
 | plain hc _ _ _ _ _ _ ih=>exact fun h0 h1 h2 h3 h4=>ih h0 (Nat.succ_le_succ (Nat.le_of_lt (List.getElem?_eq_some_iff.mp hc).1)) (Nat.le_trans putT_len (Nat.succ_le_succ h2)) h3.put (h4.le (Nat.le_succ _))
theorem fit_pts {row:List Nat}(h:row.length<=900000):Fit W 26 (.lst (encs (pts row))):=by
 obtain ⟨h1,h2⟩:=(pts_ok row).fit h (Nat.zero_le _) (Nat.zero_le _) .nil trivial
 exact fit_lst (m:=25) (Nat.le_trans h2 (Nat.le_trans (Nat.add_le_add_right h 2) (by decide))) h1
mutual
noncomputable def dI:It->Nat
 | .it _ _ sub=>dIs sub+1
noncomputable def dIs:List It->Nat
 | []=>0
 | i::is=>max (dI i) (dIs is)
end
theorem dIs_app:∀ as bs:List It,dIs (as++bs)=max (dIs as) (dIs bs)
 | [],bs=>(Nat.zero_max _).symm
 | a::as,bs=>by show max (dI a) (dIs (as++bs))=max (max (dI a) (dIs as)) (dIs bs);rw [dIs_app as bs,Nat.max_assoc]
mutual
noncomputable def PI:It->Prop
 | .it _ ts sub=>Fit W 26 (.lst (encs ts))/\PIs sub
noncomputable def PIs:List It->Prop
 | []=>True
 | i::is=>PI i/\PIs is
end
theorem itEs_len:∀ is:List It,(itEs is).length=is.length
 | []=>rfl
 | _::is=>congrArg (· + 1) (itEs_len is)
mutual
theorem fit_it:∀ {i:It}{m:Nat},dI i<=m->cnt i<=W->PI i->Fit W (2 * m+26) (itE i)
 | .it n ts sub,0,h,_,_=>nomatch h
 | .it n ts sub,m+1,h,hc,hp=>by
  refine Fit.tup (m:=2 * m+27) (Nat.le_trans (by decide:(3:Nat)<=4) W4) fun y hy=>?_
  rcases List.mem_cons.mp hy with rfl | hy
  ·exact Fit.at
  ·rcases List.mem_cons.mp hy with rfl | hy
   ·exact hp.1.up (Nat.le_refl _) (by lia)
   ·rw [List.mem_singleton.mp hy]
    have hc':cnts sub+1<=W:=hc
    exact Fit.lst (m:=2 * m+26) (by rw [itEs_len];exact Nat.le_trans (len_cnts sub) (Nat.le_of_succ_le hc')) (fit_its (Nat.le_of_succ_le_succ h) (Nat.le_of_succ_le hc') hp.2)
theorem fit_its:∀ {is:List It}{m:Nat},dIs is<=m->cnts is<=W->PIs is->∀ y∈itEs is,Fit W (2 * m+26) y
 | [],_,_,_,_=>fun y hy=>nomatch hy
 | i::is,m,h,hc,hp=>fun y hy=>by
  have h1:=Nat.max_le.mp h
  have hc':cnt i+cnts is<=W:=hc
  rcases List.mem_cons.mp hy with rfl | hy
  ·exact fit_it h1.1 (Nat.le_trans (Nat.le_add_right _ _) hc') hp.1
  ·exact fit_its h1.2 (Nat.le_trans (Nat.le_add_left _ _) hc') hp.2 y hy
end
theorem fit2 {m:Nat}{x:X}{w:List Nat}(h:Fit W m x):Fit W (m+1) (.tup [.at (.s w),x]):=Fit.tup (Nat.le_trans (by decide:(2:Nat)<=4) W4) fun y hy=>by
 rcases List.mem_cons.mp hy with rfl | hy
 ·exact Fit.at
 ·rw [List.mem_singleton.mp hy];exact h
theorem mem_paE:∀ {rs:List (List T)}{y:X},y∈paE rs->∃ ts∈rs,y=.lst (encs ts)
 | [],y,h=>nomatch h
 | ts::rs,y,h=>by
  cases h with
  | head=>exact ⟨ts,.head _,rfl⟩
  | tail _ h =>
   obtain ⟨u,hu,e⟩:=mem_paE h
   exact ⟨u,.tail _ hu,e⟩
theorem paE_len:∀ rs:List (List T),(paE rs).length=rs.length
 | []=>rfl
 | _::rs=>congrArg (· + 1) (paE_len rs)
noncomputable def sgB (c:Nat):Bool:=decide (32<=c)&&(decide (c<=126)&&c != 37)
theorem sign_ok {n c:Nat}{H:Heap}(hc:sgB c=true) (Q:PostV) (h:Q (.bool true) H):callN P (n+1) "is_sign" [.str [c]] Q H:=by
 have hc':32<=c/\c<=126/\c≠37:=by unfold sgB at hc;simpa using hc
 exact in_is_sign (s_assign (v_ord (fun _ h=>h)) (s_ret (v_and2 (b:=true) (b2:=true) (v_b (v_cmp (fun _ h=>h) (fun _ h=>h) o_le) (decide_eq_true (by lia))) fun _=>v_and2 (b:=true) (b2:=true) (v_b (v_cmp (fun _ h=>h) (fun _ h=>h) o_le) (decide_eq_true (by lia))) fun _=>v_and1 (v_b (v_cmp (fun _ h=>h) (fun _ h=>h) o_neI) (by simp;lia))) h))
theorem is_row_ok {n:Nat}{s:List Nat}{H:Heap}(hs:∀ c∈s,sgB c=true) (Q:PostV) (h:Q (.bool true) H):callN P (n+2) "is_row" [.str s] Q H:=by
 refine in_is_row (s_skip (fun _ h=>h) (ss_cons (l_forS (σ:=Option V) (fun e=>[some (.str s),e]) (fun _ _ G=>G=H) (t:=s) (fun i e G c hc hI K hK=>?_) (fun e G hI=>?_) none (fun _ h=>h) rfl)))
 ·subst hI
  exact s_skip (v_not (t:=true) (v_call (fun _ h=>h) (sign_ok (hs c (List.mem_of_getElem? hc))))) (hK _ _ rfl)
 ·subst hI
  exact h
noncomputable def dA:A->D
 | .n=>.none
 | .b t=>.bool t
 | .i z=>.int z
 | .s w=>.str w
mutual
noncomputable def dX:X->D
 | .at a=>dA a
 | .tup xs=>.tup (dXs xs)
 | .lst xs=>.list (dXs xs)
noncomputable def dXs:List X->List D
 | []=>[]
 | x::xs=>dX x::dXs xs
end
noncomputable def okA:A->Prop
 | .s w=>∀ c∈w,c<1114112
 | _=>True
mutual
noncomputable def okX:X->Prop
 | .at a=>okA a
 | .tup xs=>okXs xs
 | .lst xs=>okXs xs
noncomputable def okXs:List X->Prop
 | []=>True
 | x::xs=>okX x/\okXs xs
end
theorem rd_A {H:Heap}{n:Nat}{a:A}(h:okA a):rd H (n+1) (aV a)=some (dA a):=by
 cases a with
 | n=>rfl
 | b t=>rfl
 | i z=>rfl
 | s w=>exact if_pos (List.all_eq_true.mpr fun c hc=>decide_eq_true (h c hc))
theorem rd_X {H:Heap}{w:Nat}:∀ (m:Nat) (x:X) (v:V) (lo hi n:Nat),Fit w m x->okX x->Rep H x lo hi v->m<n->rd H n v=some (dX x):=by
 intro m
 induction m with
 | zero =>
  intro x v lo hi n hf ho h hn
  cases x with
  | «at» a =>
   obtain ⟨n',rfl⟩:∃ n',n=n'+1:=⟨n - 1,by lia⟩
   rw [show v=aV a from h];exact rd_A ho
  | tup xs=>exact hf.elim
  | lst xs=>exact hf.elim
 | succ m ih =>
  intro x v lo hi n hf ho h hn
  obtain ⟨n',rfl⟩:∃ n',n=n'+1:=⟨n - 1,by lia⟩
  have go:∀ (xs:List X) (l:List V) (p q:Nat),(∀ y∈xs,Fit w m y)->okXs xs->Reps H xs p q l->rdL (rd H n') l=some (dXs xs):=by
   intro xs
   induction xs with
   | nil=>intro l p q _ _ h;rw [h.2];rfl
   | cons y ys ihy =>
    intro l p q hf ho h
    obtain ⟨u,r,k,rfl,_,h1,h2⟩:=h
    show (match rd H n' u with | some d=>(rdL (rd H n') r).map (d::·) | none=>none)=_
    rw [ih y u _ _ n' (hf y (.head _)) ho.1 h1 (Nat.lt_of_succ_lt_succ hn),ihy r _ _ (fun z hz=>hf z (.tail _ hz)) ho.2 h2];rfl
  cases x with
  | «at» a=>rw [show v=aV a from h];exact rd_A ho
  | tup xs =>
   obtain ⟨l,rfl,h⟩:=h
   show (rdL (rd H n') l).map D.tup=_
   rw [go xs l _ _ hf.2 ho h];rfl
  | lst xs =>
   obtain ⟨a,l,p,q,rfl,_,ha,h⟩:=h
   show (match H[a]? with | some l=>(rdL (rd H n') l).map D.list | none=>none)=_
   rw [ha]
   show (rdL (rd H n') l).map D.list=_
   rw [go xs l _ _ hf.2 ho h];rfl
theorem eq_X {H:Heap}{w m:Nat}{xs:List X}{a b lo hi lo' hi':Nat}(hm:m<100) (hf:Fit w m (.lst xs)) (ho:okX (.lst xs)) (h:Rep H (.lst xs) lo hi (.ref a)) (h':Rep H (.lst xs) lo' hi' (.ref b)):cmpV .eq (.ref a) (.ref b) H=some true:=by
 show (match flatEq (V.ref a) (V.ref b) with | some t=>some t | none=>deepEq (.ref a) (.ref b) H)=_
 show ((rd H eqDeep (.ref a)).bind fun x=>(rd H eqDeep (.ref b)).bind fun y=>some (eqD x y))=_
 rw [rd_X m _ _ _ _ eqDeep hf ho h hm,rd_X m _ _ _ _ eqDeep hf ho h' hm]
 exact congrArg some (eqD_refl _)
theorem ne_X {H:Heap}{w m:Nat}{x:X}{xs:List X}{a b lo hi:Nat}(hm:m<100) (hf:Fit w m (.lst (x::xs))) (ho:okX (.lst (x::xs))) (h:Rep H (.lst (x::xs)) lo hi (.ref a)) (hb:H[b]? = some []):cmpV .eq (.ref a) (.ref b) H=some false:=by
 show ((rd H eqDeep (.ref a)).bind fun x=>(rd H eqDeep (.ref b)).bind fun y=>some (eqD x y))=_
 rw [rd_X m _ _ _ _ eqDeep hf ho h hm]
 have e:rd H eqDeep (.ref b)=some (.list []):=by
  show (match H[b]? with | some l=>(rdL (rd H 99) l).map D.list | none=>none)=_
  rw [hb];rfl
 rw [e];rfl
theorem rep_at {H:Heap}{a:A}{xs:List X}{lo hi:Nat}{l:List V}(h:Reps H (.at a::xs) lo hi l):∃ r m,l=aV a::r/\lo<=m/\Reps H xs m hi r:=by
 obtain ⟨v,r,m,rfl,h1,h2,h3⟩:=h
 rw [show v=aV a from h2]
 exact ⟨r,m,rfl,h1,h3⟩
theorem rep_ls {H:Heap}{ys xs:List X}{lo hi:Nat}{l:List V}(h:Reps H (.lst ys::xs) lo hi l):∃ a r m,l=.ref a::r/\Rep H (.lst ys) lo m (.ref a)/\lo<=m/\Reps H xs m hi r:=by
 obtain ⟨v,r,m,rfl,h1,⟨a,vs,p,q,rfl,hb,ha,hr⟩,h3⟩:=h
 exact ⟨a,r,m,rfl,⟨a,vs,p,q,rfl,hb,ha,hr⟩,h1,h3⟩
theorem un_kept {H:Heap}{s:List Nat}{lo hi:Nat}{v:V}(h:Rep H (enc (.kept s)) lo hi v):v=keptV s:=by
 obtain ⟨l,rfl,h⟩:=h
 obtain ⟨r,_,rfl,_,h⟩:=rep_at h
 obtain ⟨r,_,rfl,_,h⟩:=rep_at h
 rw [h.2];rfl
theorem un_code {H:Heap}{s:List Nat}{b:Bool}{lo hi:Nat}{v:V}(h:Rep H (enc (.code s b)) lo hi v):v=codV s b:=by
 obtain ⟨l,rfl,h⟩:=h
 obtain ⟨r,_,rfl,_,h⟩:=rep_at h
 obtain ⟨r,_,rfl,_,h⟩:=rep_at h
 obtain ⟨r,_,rfl,_,h⟩:=rep_at h
 rw [h.2];rfl
theorem un_span {H:Heap}{c:Nat}{ts:List T}{b:Bool}{lo hi:Nat}{v:V}(h:Rep H (enc (.span c ts b)) lo hi v):∃ a,v=spanV c a b/\Rep H (.lst (encs ts)) lo hi (.ref a):=by
 obtain ⟨l,rfl,h⟩:=h
 obtain ⟨r,_,rfl,q1,h⟩:=rep_at h
 obtain ⟨r,_,rfl,q2,h⟩:=rep_at h
 obtain ⟨a,r,_,rfl,ha,_,h⟩:=rep_ls h
 have hle:=h.le
 obtain ⟨r,_,rfl,_,h⟩:=rep_at h
 rw [h.2]
 exact ⟨a,rfl,ha.wide (Nat.le_trans q1 q2) hle⟩
theorem un_link {H:Heap}{ts:List T}{g:Option (List Nat)}{b:Bool}{lo hi:Nat}{v:V}(h:Rep H (enc (.link ts g b)) lo hi v):∃ a,v=linkV a g b/\Rep H (.lst (encs ts)) lo hi (.ref a):=by
 obtain ⟨l,rfl,h⟩:=h
 obtain ⟨r,_,rfl,q1,h⟩:=rep_at h
 obtain ⟨a,r,_,rfl,ha,_,h⟩:=rep_ls h
 have hle:=h.le
 obtain ⟨r,_,rfl,_,h⟩:=rep_at h
 obtain ⟨r,_,rfl,_,h⟩:=rep_at h
 rw [h.2]
 exact ⟨a,rfl,ha.wide q1 hle⟩
theorem getT {H:Heap}:∀ {ts:List T}{lo hi:Nat}{l:List V}{i:Nat}{v:V},Reps H (encs ts) lo hi l->l[i]? = some v->∃ t p q,ts[i]? = some t/\lo<=p/\q<=hi/\Rep H (enc t) p q v
 | [],_,_,_,i,v,h,hv=>by rw [h.2] at hv;cases hv
 | t::ts,_,_,_,i,v,h,hv=>by
  obtain ⟨u,r,m,rfl,q1,h1,h2⟩:=h
  cases i with
  | zero=>cases hv;exact ⟨t,_,_,rfl,Nat.le_refl _,h2.le,h1⟩
  | succ i =>
   obtain ⟨t',p,q,g1,g2,g3,g4⟩:=getT (ts:=ts) (i:=i) h2 hv
   exact ⟨t',p,q,g1,Nat.le_trans q1 g2,g3,g4⟩
noncomputable def Sg (s:List Nat):Prop:=∀ c∈s,sgB c=true
mutual
noncomputable def GT:Nat->T->Prop
 | _,.txt s=>s≠[]/\Sg s
 | _,.kept s=>s.length<=1/\Sg s
 | _,.code s _=>Sg s
 | d,.span c ts _=>d<12/\[42,95,126].contains c=true/\GTs (d+1) ts
 | d,.link ts g _=>d<12/\(∀ s,g=some s->Sg s)/\GTs (d+1) ts
noncomputable def GTs:Nat->List T->Prop
 | _,[]=>True
 | d,t::ts=>GT d t/\GTs d ts
end
theorem GTs.app {d:Nat}:∀ {ts us:List T},GTs d (ts++us)↔GTs d ts/\GTs d us
 | [],us=>⟨fun h=>⟨trivial,h⟩,fun h=>h.2⟩
 | t::ts,us=>⟨fun h=>⟨⟨h.1,(GTs.app.mp h.2).1⟩,(GTs.app.mp h.2).2⟩,fun h=>⟨h.1.1,GTs.app.mpr ⟨h.1.2,h.2⟩⟩⟩
theorem GTs.add {d:Nat}{ts:List T}{t:T}(h:GTs d ts) (k:GT d t):GTs d (ts++[t]):=GTs.app.mpr ⟨h,k,trivial⟩
theorem GTs.get {d:Nat}:∀ {ts:List T}{i:Nat}{t:T},GTs d ts->ts[i]? = some t->GT d t
 | t::ts,0,_,h,e=>by cases e;exact h.1
 | t::ts,i+1,_,h,e=>GTs.get (ts:=ts) (i:=i) h.2 e
theorem GTs.put {d c:Nat}{ts:List T}(h:GTs d ts) (hc:sgB c=true):GTs d (putT ts c):=by
 have h1:GT d (.txt [c]):=⟨(fun q=>nomatch q),fun x hx=>by rw [List.mem_singleton.mp hx];exact hc⟩
 have hadd:=h.add h1
 rcases List.eq_nil_or_concat ts with rfl | ⟨us,t,rfl⟩
 ·exact hadd
 ·rw [List.concat_eq_append] at h hadd ⊢
  cases t with
  | txt s =>
   rw [putT_txt]
   have:=GTs.app.mp h
   refine this.1.add ⟨by simp,fun x hx=>?_⟩
   rcases List.mem_append.mp hx with q | q
   ·exact this.2.1.2 x q
   ·rw [List.mem_singleton.mp q];exact hc
  | kept s=>unfold putT;simp only [List.getLast?_append,List.getLast?_singleton,Option.some_or];exact hadd
  | code s b=>unfold putT;simp only [List.getLast?_append,List.getLast?_singleton,Option.some_or];exact hadd
  | span c' ts b=>unfold putT;simp only [List.getLast?_append,List.getLast?_singleton,Option.some_or];exact hadd
  | link ts g b=>unfold putT;simp only [List.getLast?_append,List.getLast?_singleton,Option.some_or];exact hadd
noncomputable def GC:Ctx->Prop
 | []=>True
 | (kd,p)::ctx=>ctx.length<12/\(∀ c,kd=some c->[42,95,126].contains c=true)/\GTs ctx.length p/\GC ctx
theorem good_closeAll:∀ {ctx:Ctx}{cur:List T},GTs ctx.length cur->GC ctx->GTs 0 (closeAll cur ctx)
 | [],cur,h,_=>h
 | (kd,p)::ctx,cur,h,hc=>by
  refine good_closeAll (ctx:=ctx) (hc.2.2.1.add ?_) hc.2.2.2
  cases kd with
  | some c=>exact ⟨hc.1,hc.2.1 c rfl,h⟩
  | none=>exact ⟨hc.1,fun s q=>(nomatch q),h⟩
theorem Sg.drop {s:List Nat}{k:Nat}(h:Sg s):Sg (s.drop k):=fun c hc=>h c (List.mem_of_mem_drop hc)
theorem Sg.take {s:List Nat}{k:Nat}(h:Sg s):Sg (s.take k):=fun c hc=>h c (List.mem_of_mem_take hc)
theorem Pars.good {row:List Nat}{k:Nat}{cur r:List T}{ctx:Ctx}(h:Pars row k cur ctx r) (hs:Sg row):GTs ctx.length cur->GC ctx->GTs 0 r:=by
 induction h with
 | done _=>exact good_closeAll
 | kept _ _ ih=>exact fun h1 h2=>ih (h1.add ⟨by unfold nx;rw [List.length_take];exact Nat.min_le_left _ _,hs.drop.take⟩) h2
 | code _ _ ih =>
  refine fun h1 h2=>ih (h1.add ?_) h2
  unfold codeT
  split
  ·exact hs.drop.take
  ·exact hs.drop
 | label _ h12 _ ih=>exact fun h1 h2=>ih trivial ⟨h12,fun c q=>(nomatch q),h1,h2⟩
 | span _ hcc _ h12 _ ih=>exact fun h1 h2=>ih trivial ⟨h12,fun c q=>by cases q;exact hcc,h1,h2⟩
 | shutS _ _ ih=>exact fun h1 h2=>ih (h2.2.2.1.add ⟨h2.1,h2.2.1 _ rfl,h1⟩) h2.2.2.2
 | shutL _ _ ih =>
  refine fun h1 h2=>ih (h2.2.2.1.add ?_) h2.2.2.2
  unfold linkT
  split
  ·split
   ·exact ⟨h2.1,fun s q=>by cases q;exact hs.drop.take,h1⟩
   ·exact ⟨h2.1,fun s q=>by cases q;exact hs.drop,h1⟩
  ·exact ⟨h2.1,fun s q=>(nomatch q),h1⟩
 | plain hc _ _ _ _ _ _ ih=>exact fun h1 h2=>ih (h1.put (hs _ (List.mem_of_getElem? hc))) h2
theorem pts_good {row:List Nat}(h:Sg row):GTs 0 (pts row):=(pts_ok row).good h trivial trivial
theorem sg_lt {s:List Nat}(h:Sg s):∀ c∈s,c<1114112:=fun c hc=>by
 have:=h c hc
 unfold sgB at this
 have:=of_decide_eq_true (Bool.and_eq_true_iff.mp (Bool.and_eq_true_iff.mp this).2).1
 lia
theorem okL {w:List Nat}(h:(w.all fun c=>decide (c<1114112))=true):okX (.at (.s w)):=fun c hc=>of_decide_eq_true (List.all_eq_true.mp h c hc)
mutual
theorem ok_T:∀ {d:Nat}{t:T},GT d t->okX (enc t)
 | _,.txt s,h=>sg_lt h.2
 | _,.kept s,h=>⟨okL rfl,sg_lt h.2,trivial⟩
 | _,.code s b,h=>⟨okL rfl,sg_lt h,trivial,trivial⟩
 | d,.span c ts b,h=>⟨okL rfl,fun x hx=>by
   rw [List.mem_singleton.mp hx]
   have:=h.2.1
   simp at this
   rcases this with e | e | e<;>subst e<;>decide,ok_Ts h.2.2,trivial,trivial⟩
 | d,.link ts g b,h=>⟨okL rfl,ok_Ts h.2.2,by cases g with | none=>exact trivial | some s=>exact sg_lt (h.2.1 s rfl),trivial,trivial⟩
theorem ok_Ts:∀ {d:Nat}{ts:List T},GTs d ts->okXs (encs ts)
 | _,[],_=>trivial
 | _,t::ts,h=>⟨ok_T h.1,ok_Ts h.2⟩
end
theorem i_tup0 {v:V}{r:List V}{H:Heap}:idxV (.tup (v::r)) (.int 0) H=some v:=by
 show (place ((0:Nat):Int) (v::r).length).bind _=some v
 rw [place_nat (k:=0) (n:=(v::r).length) (Nat.succ_pos _)];rfl
theorem tuple_ok {n:Nat}{w kd:List Nat}{z:Int}{r:List V}{H:Heap}(Q:PostV) (h:Q (.bool (((r.length+1:Nat):Int)==z&&w==kd)) H):callN P (n+1) "is_tuple" [.tup (.str w::r),.str kd,.int z] Q H:=by
 refine in_is_tuple ?_
 have e1:∀ {C:Calls},Ev C [some (.tup (.str w::r)),some (.str kd),some (.int z)] H (.or [.not (.isinst (.var 0) .tuple),.cmp .ne (.len (.var 0)) (.var 2)]) (.bool (false||!(((r.length+1:Nat):Int)==z))):=v_or2 (fun _ h=>h) fun _=>v_or1 (fun _ h=>h)
 cases hz:((r.length+1:Nat):Int)==z with
 | false =>
  rw [hz] at e1 h
  exact s_iteT e1 h
 | true =>
  rw [hz] at e1 h
  exact s_skip e1 (s_ret (v_and2 (b:=true) (v_b (v_inst (v_idx (fun _ h=>h) (fun _ h=>h) i_tup0)) rfl) fun _=>v_and1 (v_cmp (v_idx (fun _ h=>h) (fun _ h=>h) i_tup0) (fun _ h=>h) o_eqS)) h)
theorem notin_three {H:Heap}{c:Nat}(hs:c<1114112):cmpV .notin (.str [c]) (.tup [.str [42],.str [95],.str [126]]) H=some (![42,95,126].contains c):=by
 have e1:rd H eqDeep (.str [c])=some (.str [c]):=if_pos (by simpa using hs)
 show (memV _ _ H).map (!·)=_
 unfold memV
 rw [e1]
 show some (!([D.str [42],D.str [95],D.str [126]].any fun y=>eqD y (.str [c])))=_
 have q:∀ a:Nat,eqD (.str [a]) (.str [c])=(c==a):=fun a=>by
  show ([a]==[c])=(c==a)
  rw [Bool.eq_iff_iff,beq_iff_eq,beq_iff_eq]
  exact ⟨fun h=>by cases h;rfl,fun h=>by rw [h]⟩
 simp only [List.any_cons,List.any_nil,q,List.contains_cons,List.contains_nil]
noncomputable def APs (d n:Nat):Prop:=∀ (ts:List T) (a lo hi:Nat) (H:Heap) (Q:PostV),GTs d ts->Rep H (.lst (encs ts)) lo hi (.ref a)->Q (.bool true) H->callN P n "are_parts" [.ref a,.int (d:Nat)] Q H
theorem is_part_ok {n d lo hi:Nat}{t:T}{v:V}{H:Heap}(ih:d<12->APs (d+1) (n+2)) (hg:GT d t) (hr:Rep H (enc t) lo hi v) (Q:PostV) (h:Q (.bool true) H):callN P (n+3) "is_part" [v,.int (d:Nat)] Q H:=by
 refine in_is_part ?_
 have e12:∀ {C:Calls}{v:V},d<12->Ev C [some v,some (.int (d:Nat))] H (.cmp .ge (.var 1) (.glob "MOST_OPEN" 12)) (.bool false):=fun q=>v_b (v_cmp (fun _ h=>h) (fun _ h=>h) o_ge) (decide_eq_false (by lia))
 cases t with
 | txt s =>
  rw [show v=.str s from hr]
  exact s_iteT (fun _ h=>h) (s_ret (v_and2 (b:=true) (b2:=true) (v_b (fun _ h=>h) (by simpa using hg.1)) fun _=>v_and1 (v_call (fun _ h=>h) (is_row_ok hg.2))) h)
 | kept s =>
  rw [un_kept hr]
  exact s_skip (fun _ h=>h) (s_iteT (v_b (v_call (fun _ h=>h) tuple_ok) rfl) (s_ret (v_and2 (b:=true) (b2:=true) (v_call (fun _ h=>h) (is_row_ok hg.2)) fun _=>v_and1 (v_b (fun _ h=>h) (decide_eq_true (Int.ofNat_le.mpr hg.1)))) h))
 | code s b =>
  rw [un_code hr]
  exact s_skip (fun _ h=>h) (s_skip (v_b (v_call (fun _ h=>h) tuple_ok) rfl) (s_iteT (v_b (v_call (fun _ h=>h) tuple_ok) rfl) (s_ret (v_and2 (b:=true) (b2:=true) (v_call (fun _ h=>h) (is_row_ok hg)) fun _=>fun _ h=>h) h)))
 | span c ts b =>
  obtain ⟨a,rfl,hra⟩:=un_span hr
  have hc:sgB c=true:=by have:=hg.2.1;simp at this;rcases this with e | e | e<;>subst e<;>rfl
  have hs:Sg [c]:=fun x hx=>by rw [List.mem_singleton.mp hx];exact hc
  refine s_skip (fun _ h=>h) (s_skip (v_b (v_call (fun _ h=>h) tuple_ok) rfl) (s_skip (v_b (v_call (fun _ h=>h) tuple_ok) rfl) (s_skip (e12 hg.1) (s_iteT (v_b (v_call (fun _ h=>h) tuple_ok) rfl) (s_skip (v_or2 (b:=false) (b2:=false) (v_not (t:=true) (v_call (fun _ h=>h) (is_row_ok hs))) fun _=>v_or1 (v_b (v_cmp (fun _ h=>h) (fun _ h=>h) (notin_three (sg_lt hs c (.head _)))) (by rw [hg.2.1];rfl))) (s_ret (v_and2 (b:=true) (b2:=true) (fun _ h=>h) fun _=>v_and1 (v_call (vs:=[.ref a,.int ((d+1:Nat):Int)]) (fun _ h=>h) fun Q q=>ih hg.1 ts a _ _ H Q hg.2.2 hra q)) h))))))
 | link ts g b =>
  obtain ⟨a,rfl,hra⟩:=un_link hr
  have eg:∀ {C:Calls},C=callN P (n+2)->Ev C [some (linkV a g b),some (.int (d:Nat))] H (.and [.isnot (.idx (.var 0) (.int 2)) .none,.not (.call "is_row" [.idx (.var 0) (.int 2)])]) (.bool false):=fun {C} e=>by
   subst e
   cases g with
   | none=>exact v_and2 (b:=false) (b2:=true) (fun _ h=>h) fun q=>nomatch q
   | some s=>exact v_and2 (b:=true) (b2:=false) (fun _ h=>h) fun _=>v_and1 (v_not (t:=true) (v_call (fun _ h=>h) (is_row_ok (hg.2.1 s rfl))))
  exact s_skip (fun _ h=>h) (s_skip (v_b (v_call (fun _ h=>h) tuple_ok) rfl) (s_skip (v_b (v_call (fun _ h=>h) tuple_ok) rfl) (s_skip (e12 hg.1) (s_skip (v_b (v_call (fun _ h=>h) tuple_ok) rfl) (s_iteT (v_b (v_call (fun _ h=>h) tuple_ok) rfl) (s_skip (eg rfl) (s_ret (v_and2 (b:=true) (b2:=true) (fun _ h=>h) fun _=>v_and1 (v_call (vs:=[.ref a,.int ((d+1:Nat):Int)]) (fun _ h=>h) fun Q q=>ih hg.1 ts a _ _ H Q hg.2.2 hra q)) h)))))))
theorem are_body {n d:Nat}(ih:d<12->APs (d+1) (n+2)):APs d (n+4):=by
 intro ts a lo hi H Q hg hr h
 obtain ⟨a',l,p,q,e,hb,ha,hrl⟩:=hr
 cases e
 refine in_are_parts (s_skip (fun _ h=>h) (ss_cons (l_for (σ:=Option V) (fun e=>[some (.ref a),some (.int (d:Nat)),e]) (fun _ _ G=>G=H) (l:=l) (fun i e G hI=>hI▸ha) (fun i e G v hv hI K hK=>?_) (fun e G hI=>?_) none (fun _ h=>h) rfl)))
 ·subst hI
  obtain ⟨t,p',q',ht,_,_,hrt⟩:=getT hrl hv
  exact s_skip (v_not (t:=true) (v_call (fun _ h=>h) (is_part_ok ih (hg.get ht) hrt))) (hK _ _ rfl)
 ·subst hI
  exact h
theorem are_ok:∀ (m d n:Nat),d+m=12->APs d (n+2 * m+4)
 | 0,d,n,h=>are_body fun q=>absurd h (Nat.ne_of_lt q)
 | m+1,d,n,h=>are_body (n:=n+2 * m+2) fun _=>are_ok m (d+1) n ((Nat.add_right_comm d 1 m).trans h)
mutual
noncomputable def rowT:T->List Nat
 | .txt s=>s
 | .kept s=>[92]++s
 | .code s b=>[96]++s++(if b then [96] else [])
 | .span c ts b=>[c,40]++rowTs ts++(if b then [41] else [])
 | .link ts g b=>match g with
  | none=>[91]++rowTs ts++(if b then [93] else [])
  | some s=>[91]++rowTs ts++[93,40]++s++(if b then [41] else [])
noncomputable def rowTs:List T->List Nat
 | []=>[]
 | t::ts=>rowT t++rowTs ts
end
theorem rowTs_app:∀ (ts us:List T),rowTs (ts++us)=rowTs ts++rowTs us
 | [],us=>rfl
 | t::ts,us=>by
  show rowT t++rowTs (ts++us)=rowT t++rowTs ts++rowTs us
  rw [rowTs_app ts us,List.append_assoc]
theorem lim1:(1000000:Nat)<=lim:=by show 1000000<=16777216;decide
theorem pre {a b:List Nat}{n:Nat}(h:(a++b).length<=n):a.length<=n:=Nat.le_trans (by rw [List.length_append];exact Nat.le_add_right _ _) h
theorem suf {a b:List Nat}{n:Nat}(h:(a++b).length<=n):b.length<=n:=Nat.le_trans (by rw [List.length_append];exact Nat.le_add_left _ _) h
theorem ltl {n:Nat}(h:n<=1000000):n<lim:=Nat.lt_of_le_of_lt h (by show 1000000<16777216;decide)
theorem rowTs_one (t:T):rowTs [t]=rowT t:=List.append_nil _
noncomputable def pV (p:List Nat×List Nat):V:=.tup [.str p.1,.str p.2]
noncomputable def Pc (ps:List V) (s:List Nat):Prop:=∃ ks:List (List Nat×List Nat),ps=ks.map pV/\(ks.map (·.2)).flatten=s/\∀ p∈ks,p.2≠[]
theorem Pc.nil:Pc [] []:=⟨[],rfl,rfl,fun p hp=>nomatch hp⟩
theorem Pc.app {ps qs:List V}{s t:List Nat}(h:Pc ps s) (k:Pc qs t):Pc (ps++qs) (s++t):=by
 obtain ⟨ks,rfl,rfl,h1⟩:=h
 obtain ⟨js,rfl,rfl,h2⟩:=k
 refine ⟨ks++js,(List.map_append).symm,by rw [List.map_append,List.flatten_append],fun p hp=>?_⟩
 rcases List.mem_append.mp hp with q | q
 ·exact h1 p q
 ·exact h2 p q
theorem Pc.one {k t:List Nat}(ht:t≠[]):Pc [.tup [.str k,.str t]] t:=⟨[(k,t)],rfl,List.append_nil _,fun p hp=>by rw [List.mem_singleton.mp hp];exact ht⟩
theorem pieces_len:∀ ks:List (List Nat×List Nat),(∀ p∈ks,p.2≠[])->ks.length<=(ks.map (·.2)).flatten.length
 | [],_=>Nat.le_refl _
 | k::ks,h=>by
  have h1:=List.length_pos_iff.mpr (h k (.head _))
  have h2:=pieces_len ks fun p hp=>h p (.tail _ hp)
  show ks.length+1<=(k.2++(ks.map (·.2)).flatten).length
  rw [List.length_append];lia
theorem Pc.len {ps:List V}{s:List Nat}(h:Pc ps s):ps.length<=s.length:=by
 obtain ⟨ks,rfl,rfl,h1⟩:=h
 rw [List.length_map];exact pieces_len ks h1
theorem piece_put {n mk:Nat}{k t s:List Nat}{ps ps0:List V}{Q:PostV}{H:Heap}(hm:H[mk]? = some ps0) (hp:Pc ps s) (hl:s.length<lim) (h:∀ ps',Pc ps' (s++t)->Q .none (H.set mk ps')):callN P (n+1) "put_piece" [.ref mk,.str k,.str t] Q (H.set mk ps):=by
 refine in_put_piece ?_
 by_cases ht:t=[]
 ·subst ht
  rw [List.append_nil] at h
  exact s_skip (fun _ h=>h) (h ps hp)
 ·refine s_iteT (v_b (fun _ h=>h) (by simpa using ht)) (s_append (fun _ h=>h) (fun _ h=>h) (g_set hm) (Nat.lt_of_le_of_lt hp.len hl) ?_)
  rw [List.set_set]
  exact h _ (hp.app (.one ht))
noncomputable def PPs (d n:Nat):Prop:=∀ (H:Heap) (ts:List T) (a lo hi mk:Nat) (ps0 ps:List V) (s:List Nat) (Q:PostV),GTs d ts->Rep H (.lst (encs ts)) lo hi (.ref a)->hi<=mk->H[mk]? = some ps0->Pc ps s->(s++rowTs ts).length<=1000000 ->
 (∀ ps',Pc ps' (s++rowTs ts)->Q .none (H.set mk ps'))->callN P n "put_pieces" [.ref a,.ref mk] Q (H.set mk ps)
theorem shut_ok {n mk:Nat}{b:Bool}{w s:List Nat}{ps ps0:List V}{ρ:Env}{e:E}{x:Nat}{ss:List S}{R:PostS}{H:Heap}(hm:H[mk]? = some ps0) (hp:Pc ps s) (hl:s.length<lim) (he:Ev (callN P (n+1)) ρ (H.set mk ps) e (.bool b)) (hx:ρ[x]? = some (some (.ref mk)))
  (h:∀ ps',Pc ps' (s++(if b then w else []))->wpSs (callN P (n+1)) ss ρ R (H.set mk ps')):wpSs (callN P (n+1)) (.ite e [.expr (.call "put_piece" [.var x,.str [109,97,114,107],.str w])] []::ss) ρ R (H.set mk ps):=by
 cases b with
 | true=>exact s_iteT he (c_expr (v_cons (v_var hx) (fun _ h=>h)) (piece_put hm hp hl fun ps' hp'=>ss_nil (at_next (h ps' hp'))))
 | false=>exact s_skip he (h ps (by rw [show (if false=true then w else [])=[] from rfl,List.append_nil];exact hp))
theorem link_put {n d a lo hi mk:Nat}{ts:List T}{g:Option (List Nat)}{b:Bool}{ps ps0:List V}{s:List Nat}{Q:PostV}{H:Heap}(ih:PPs (d+1) (n+1)) (hg:GT d (.link ts g b)) (hr:Rep H (.lst (encs ts)) lo hi (.ref a)) (hh:hi<=mk) (hm:H[mk]? = some ps0) (hp:Pc ps s) (hl:(s++rowT (.link ts g b)).length<=1000000)
  (h:∀ ps',Pc ps' (s++rowT (.link ts g b))->Q .none (H.set mk ps')):callN P (n+2) "link_pieces" [linkV a g b,.ref mk] Q (H.set mk ps):=by
 have h1:(s++[91]++rowTs ts).length<=1000000:=by
  cases g with
  | none =>
   replace hl:(s++([91]++rowTs ts++(if b then [93] else []))).length<=1000000:=hl
   rw [<- List.append_assoc,<- List.append_assoc] at hl
   exact pre hl
  | some w =>
   replace hl:(s++([91]++rowTs ts++[93,40]++w++(if b then [41] else []))).length<=1000000:=hl
   rw [<- List.append_assoc,<- List.append_assoc,<- List.append_assoc,<- List.append_assoc] at hl
   exact pre (pre (pre hl))
 have hs:s.length<lim:=ltl (pre (pre h1))
 refine in_link_pieces (c_expr (fun _ h=>h) (piece_put hm hp hs fun ps1 hp1=>c_expr (fun _ h=>h) (ih H ts a lo hi mk ps0 ps1 _ _ hg.2.2 hr hh hm hp1 h1 fun ps2 hp2=>?_)))
 cases g with
 | none =>
  refine s_iteT (fun _ h=>h) (shut_ok (b:=b) (w:=[93]) hm hp2 (ltl h1) (fun _ h=>h) rfl fun ps3 hp3=>h ps3 ?_)
  rw [List.append_assoc,List.append_assoc] at hp3
  show Pc ps3 (s++([91]++rowTs ts++(if b then [93] else [])))
  rw [List.append_assoc];exact hp3
 | some w =>
  have e0:(s++rowT (.link ts (some w) b))=(((s++[91]++rowTs ts)++[93,40])++w)++(if b then [41] else []):=by
   show s++([91]++rowTs ts++[93,40]++w++_)=_
   simp only [List.append_assoc]
  rw [e0] at h hl
  have h2:(((s++[91]++rowTs ts)++[93,40])++w).length<=1000000:=pre hl
  exact s_skip (fun _ h=>h) (c_expr (fun _ h=>h) (piece_put hm hp2 (ltl h1) fun ps3 hp3=>c_expr (fun _ h=>h) (piece_put hm hp3 (ltl (pre h2)) fun ps4 hp4=>shut_ok (b:=b) (w:=[41]) hm hp4 (ltl h2) (fun _ h=>h) rfl fun ps5 hp5=>h ps5 hp5)))
structure PZ where
 ps:List V
 e:Option V
theorem put_body {n d:Nat}(ih:d<12->PPs (d+1) (n+2)) (ih1:d<12->PPs (d+1) (n+1)):PPs d (n+3):=by
 intro H ts a lo hi mk ps0 ps s Q hg hr hh hm hp hl hQ
 obtain ⟨a',l,p,q,e,hb,ha,hrl⟩:=hr
 cases e
 have ham:mk≠a:=Nat.ne_of_gt (Nat.lt_of_lt_of_le hb.ah hh)
 refine in_put_pieces (ss_cons (l_for (σ:=PZ) (fun z=>[some (.ref a),some (.ref mk),z.e]) (fun i z G=>G=H.set mk z.ps/\Pc z.ps (s++rowTs (ts.take i))) (l:=l) (fun i z G hI=>?_) (fun i z G v hv hI K hK=>?_) (fun z G hI=>?_) ⟨ps,none⟩ (fun _ h=>h) ⟨rfl,by rw [show rowTs (ts.take 0)=[] from rfl,List.append_nil];exact hp⟩))
 ·rw [hI.1,List.getElem?_set_ne ham];exact ha
 ·obtain ⟨rfl,hpz⟩:=hI
  obtain ⟨t,p',q',ht,hp',hq',hrt⟩:=getT hrl hv
  have hgt:=hg.get ht
  have ek:rowTs (ts.take (i+1))=rowTs (ts.take i)++rowT t:=by rw [List.take_add_one,ht,rowTs_app];exact congrArg _ (rowTs_one t)
  have hq:q'<=mk:=Nat.le_trans hq' (Nat.le_trans hb.qh hh)
  have hlen:((s++rowTs (ts.take i))++rowT t).length<=1000000:=by
   refine Nat.le_trans ?_ hl
   rw [List.append_assoc,<- ek,List.length_append,List.length_append]
   have:=congrArg List.length (rowTs_app (ts.take (i+1)) (ts.drop (i+1)))
   rw [List.take_append_drop,List.length_append] at this
   rw [this]
   exact Nat.add_le_add_left (Nat.le_add_right _ _) _
  have fin:∀ {ps':List V}{R:PostS}{w:V},(∀ ρ G,K ρ G->R .next ρ G)->Pc ps' ((s++rowTs (ts.take i))++rowT t)->R .next [some (.ref a),some (.ref mk),some w] (H.set mk ps'):=fun {ps' R w} hR hp'=>hR _ _ (hK ⟨ps',some w⟩ _ ⟨rfl,by rw [ek,<- List.append_assoc];exact hp'⟩)
  generalize s++rowTs (ts.take i)=u at hpz hlen fin
  have hu:u.length<lim:=ltl (pre hlen)
  cases t with
  | txt w =>
   rw [show v=.str w from hrt]
   exact s_iteT (fun _ h=>h) (c_expr (fun _ h=>h) (piece_put hm hpz hu fun ps1 hp1=>fin (fun _ _ h=>h) hp1))
  | kept w =>
   rw [un_kept hrt]
   replace hlen:(u++([92]++w)).length<=1000000:=hlen
   rw [<- List.append_assoc] at hlen
   refine s_iteF (fun _ h=>h) (s_iteT (fun _ h=>h) (c_expr (fun _ h=>h) (piece_put hm hpz hu fun ps1 hp1=>c_expr (fun _ h=>h) (piece_put hm hp1 (ltl (pre hlen)) fun ps2 hp2=>fin (fun _ _ h=>h) ?_))))
   rw [List.append_assoc] at hp2;exact hp2
  | code w b =>
   rw [un_code hrt]
   have e0:u++rowT (.code w b)=((u++[96])++w)++(if b then [96] else []):=by
    show u++([96]++w++_)=_
    simp only [List.append_assoc]
   rw [e0] at hlen fin
   have h2:((u++[96])++w).length<=1000000:=pre hlen
   exact s_iteF (fun _ h=>h) (s_iteF (fun _ h=>h) (s_iteT (fun _ h=>h) (c_expr (fun _ h=>h) (piece_put hm hpz hu fun ps1 hp1=>c_expr (fun _ h=>h) (piece_put hm hp1 (ltl (pre h2)) fun ps2 hp2=>shut_ok (b:=b) (w:=[96]) hm hp2 (ltl h2) (fun _ h=>h) rfl fun ps3 hp3=>fin (fun _ _ h=>h) hp3)))))
  | span c us b =>
   obtain ⟨a2,rfl,hra⟩:=un_span hrt
   have e0:u++rowT (.span c us b)=((u++([c]++[40]))++rowTs us)++(if b then [41] else []):=by
    show u++([c,40]++rowTs us++_)=_
    simp only [List.append_assoc];rfl
   rw [e0] at hlen fin
   have h2:((u++([c]++[40]))++rowTs us).length<=1000000:=pre hlen
   exact s_iteF (fun _ h=>h) (s_iteF (fun _ h=>h) (s_iteF (fun _ h=>h) (s_iteT (fun _ h=>h) (c_expr (v_cons (fun _ h=>h) (v_cons (fun _ h=>h) (v_cons (v_bin (fun _ h=>h) (fun _ h=>h) (o_addS (by show 2<=lim;decide))) v_nil))) (piece_put hm hpz hu fun ps1 hp1=>c_expr (fun _ h=>h) (ih hgt.1 H us a2 _ _ mk ps0 ps1 _ _ hgt.2.2 hra hq hm hp1 h2 fun ps2 hp2=>shut_ok (b:=b) (w:=[41]) hm hp2 (ltl h2) (fun _ h=>h) rfl fun ps3 hp3=>fin (fun _ _ h=>h) hp3))))))
  | link us g b =>
   obtain ⟨a2,rfl,hra⟩:=un_link hrt
   exact s_iteF (fun _ h=>h) (s_iteF (fun _ h=>h) (s_iteF (fun _ h=>h) (s_iteF (fun _ h=>h) (c_expr (fun _ h=>h) (link_put (ih1 hgt.1) hgt hra hq hm hpz hlen fun ps1 hp1=>fin (fun _ _ h=>h) hp1)))))
 ·obtain ⟨rfl,hpz⟩:=hI
  rw [hrl.len,encs_len,List.take_length] at hpz
  exact hQ z.ps hpz
theorem put_ok:∀ (m d n:Nat),d+m=12->PPs d (n+2 * m+3)
 | 0,d,n,h=>put_body (fun q=>absurd h (Nat.ne_of_lt q)) (fun q=>absurd q (by lia))
 | m+1,d,n,h=>put_body (n:=n+2 * m+2) (fun _=>by
   have:=put_ok m (d+1) (n+1) (by lia)
   rw [show n+1+2 * m+3=n+2 * m+2+2 by lia] at this
   exact this) fun _=>put_ok m (d+1) n (by lia)
theorem pieces_of_ok {n a lo hi:Nat}{ts:List T}{Q:PostV}{H:Heap}(hg:GTs 0 ts) (hr:Rep H (.lst (encs ts)) lo hi (.ref a)) (hh:hi<=H.length) (hl:(rowTs ts).length<=1000000) (h:∀ ps,Pc ps (rowTs ts)->Q (.ref H.length) (H++[ps])):callN P (n+28) "pieces_of" [.ref a] Q H:=by
 have hset:∀ ps,(H++[[]]).set H.length ps=H++[ps]:=fun ps=>by rw [List.set_append_right _ _ (Nat.le_refl _),Nat.sub_self];rfl
 refine in_pieces_of (s_assignG (H1:=H++[[]]) (fun _ h=>h) (c_expr (fun _ h=>h) ?_))
 have:=put_ok 12 0 n rfl (H++[[]]) ts a lo hi H.length [] [] [] (fun v H₁=>wpSs (callN P (n+27)) [.ret (.var 1)] [some (.ref a),some (.ref H.length)] (callQ Q) H₁) hg (hr.to (Eqv.one hh)) hh g_last .nil hl fun ps hp=>(hset ps).symm▸h ps hp
 rw [hset] at this
 exact this
theorem join_row {n:Nat}{ps:List V}{s:List Nat}{Q:PostV}{ρ:Env}{x b:Nat}{H:Heap}(hx:x<ρ.length) (hp:Pc ps s) (hl:s.length<=1000000) (hb:H[b]? = some ps) (h:∀ l,Q (.str s) (H++[l])) :
  ∃ a l,V.ref b=.ref a/\H[a]? = some l/\l.length<=lim/\(∀ v∈l,∀ K:PostV,K ((fun v=>match v with | .tup [_,w]=>w | _=>.none) v) H->wpE (callN P n) (.idx (.var x) (.int 1)) (ρ.set x (some v)) K H)/\joinP [] (.ref H.length) Q (H++[l.map fun v=>match v with | .tup [_,w]=>w | _=>.none]):=by
 have hlim:lim=16777216:=rfl
 have hpl:=hp.len
 obtain ⟨ks,rfl,hks,hne⟩:=hp
 refine ⟨b,_,rfl,hb,by lia,fun v hv K hK=>?_,?_⟩
 ·obtain ⟨p,_,rfl⟩:=List.mem_map.mp hv
  exact e_idx (e_var (v:=pV p) (by rw [List.getElem?_set_self hx]) (e_int hK))
 ·have e:(ks.map pV).map (fun v=>match v with | .tup [_,w]=>w | _=>.none)=(ks.map (·.2)).map V.str:=by rw [List.map_map,List.map_map];rfl
  rw [e]
  refine j_ref (ks.map (·.2)) g_last ?_ ?_
  ·rw [<- List.length_flatten,hks];show s.length+_ * 0<=lim;lia
  ·rw [join_nil,hks];exact h _
theorem row_of_ok {n a lo hi:Nat}{ts:List T}{Q:PostV}{H:Heap}(hg:GTs 0 ts) (hr:Rep H (.lst (encs ts)) lo hi (.ref a)) (hh:hi<=H.length) (hl:(rowTs ts).length<=1000000) (h:∀ l l',Q (.str (rowTs ts)) (H++[l]++[l'])):callN P (n+29) "row_of" [.ref a] Q H :=
 in_row_of (ss_ret (e_join (e_str ⟨_,rfl,e_comp (monoCall _ _) (fun v=>match v with | .tup [_,w]=>w | _=>.none) (e_call (es_ev (v:=.ref a) (fun _ h=>h) (es_nil (pieces_of_ok hg hr hh hl fun ps hp=>join_row (by show 1<2;decide) hp hl g_last fun l=>h ps l))))⟩) (monoCall _ _)))
noncomputable def openR:Option Nat->List Nat
 | some c=>[c,40]
 | none=>[91]
noncomputable def rowC:Ctx->List T->List Nat
 | [],cur=>rowTs cur
 | (kd,p)::ctx,cur=>rowC ctx p++openR kd++rowTs cur
theorem rowC_app:∀ (ctx:Ctx) (cur us:List T),rowC ctx (cur++us)=rowC ctx cur++rowTs us
 | [],cur,us=>rowTs_app cur us
 | (kd,p)::ctx,cur,us=>by
  show rowC ctx p++openR kd++rowTs (cur++us)=rowC ctx p++openR kd++rowTs cur++rowTs us
  rw [rowTs_app,<- List.append_assoc]
structure Ct (ts:List T):Prop where
 sg:Sg (rowTs ts)
 eq:ts=pts (rowTs ts)
 len:(rowTs ts).length<=900000
theorem Ct.good {ts:List T}(h:Ct ts):GTs 0 ts:=by rw [h.eq];exact pts_good h.sg
theorem Ct.pars {ts:List T}(h:Ct ts):Pars (rowTs ts) 0 [] [] ts:=by
 have:=pts_ok (rowTs ts)
 rw [<- h.eq] at this
 exact this
theorem Ct.fit {ts:List T}(h:Ct ts):Fit W 26 (.lst (encs ts)):=by
 have:=fit_pts h.len
 rw [<- h.eq] at this
 exact this
theorem grow2 {H:Heap}{l l':List V}:Grow H (H++[l]++[l']):=Grow.one.trans .one
theorem lenH2 {H:Heap}{l l':List V}:(H++[l]++[l']).length=H.length+2:=by rw [len1,len1]
theorem content_ok {n a lo hi:Nat}{ts:List T}{H:Heap}(hc:Ct ts) (hr:Rep H (.lst (encs ts)) lo hi (.ref a)) (hh:hi<=H.length) (Q:PostV) (h:∀ G,Grow H G->Q (.bool true) G):callN P (n+30) "is_content" [.ref a] Q H:=by
 refine in_is_content (hs_ret (Φ:=Grow H) (h_and2 (h_ev (v_call (fun _ h=>h) fun Q q=>are_ok 12 0 (n+1) rfl ts a lo hi H Q hc.good hr q)) fun G g=>?_) h)
 subst g
 have e1:EvH (callN P (n+29)) [some (.ref a)] G (.call "parts_of" [.call "row_of" [.var 0]]) (.ref (G.length+2)) (fun G'=>Grow G G'/\Rep G' (.lst (encs ts)) (G.length+2) G'.length (.ref (G.length+2))):=fun Q k=>by
  refine e_call (es_cons (e_call (es_cons (e_var rfl (es_nil (row_of_ok (n:=n) hc.good hr hh (Nat.le_trans hc.len (by decide)) fun l l'=>es_nil (parts_ok (n:=n+26) (Nat.le_trans hc.len (by decide)) hc.pars fun H' lp h1 h2 h3=>?_)))))))
  have e:=lenH2 (H:=G) (l:=l) (l':=l')
  have hgr:=grow_of h2 h3
  have:=lst_at (k:=1) h1 h2
  rw [e] at this ⊢
  exact k H' ⟨grow2.trans hgr,this⟩
 exact h_and1 (h_to (h_cmp (t:=true) e1 (fun G' g Q k=>e_var rfl (k G' g)) fun G' g=>eq_X (w:=W) (m:=26) (by decide) hc.fit (ok_Ts hc.good) g.2 (hr.grow g.1 hh)) fun G' g=>g.1)
noncomputable def dsh:It->Nat
 | .it n _ _=>n
mutual
noncomputable def IO1:Nat->Nat->It->Prop
 | above,most,.it n ts sub=>(1<=n/\n<=most/\above<n)/\Ct ts/\IOs n 9 sub
noncomputable def IOs:Nat->Nat->List It->Prop
 | _,_,[]=>True
 | above,most,i::is=>IO1 above most i/\IOs above (dsh i) is
end
theorem number_ok {n k m:Nat}{H:Heap}(h1:1<=k) (h2:k<=m) (Q:PostV) (h:Q (.bool true) H):callN P (n+1) "is_number" [.int (k:Nat),.int (m:Nat)] Q H :=
 in_is_number (s_skip (v_or2 (b:=false) (b2:=false) (fun _ h=>h) fun _=>v_or2 (b:=false) (b2:=false) (fun _ h=>h) fun _=>v_or1 (v_b (v_cmp (fun _ h=>h) (fun _ h=>h) o_lt) (decide_eq_false (by lia)))) (s_ret (v_or2 (b:=false) (b2:=true) (fun _ h=>h) fun _=>v_or1 (v_b (v_cmp (fun _ h=>h) (fun _ h=>h) o_le) (decide_eq_true (Int.ofNat_le.mpr h2)))) h))
theorem number_any {n k:Nat}{H:Heap}(h1:1<=k) (Q:PostV) (h:Q (.bool true) H):callN P (n+1) "is_number" [.int (k:Nat),.none] Q H :=
 in_is_number (s_skip (v_or2 (b:=false) (b2:=false) (fun _ h=>h) fun _=>v_or2 (b:=false) (b2:=false) (fun _ h=>h) fun _=>v_or1 (v_b (v_cmp (fun _ h=>h) (fun _ h=>h) o_lt) (decide_eq_false (by lia)))) (s_ret (v_or2 (b:=true) (b2:=true) (fun _ h=>h) fun q=>nomatch q) h))
theorem un_item {H:Heap}{n:Nat}{ts:List T}{sub:List It}{lo hi:Nat}{v:V}(h:Rep H (itE (.it n ts sub)) lo hi v):∃ a b,v=.tup [.int (n:Nat),.ref a,.ref b]/\Rep H (.lst (encs ts)) lo hi (.ref a)/\Rep H (.lst (itEs sub)) lo hi (.ref b):=by
 obtain ⟨l,rfl,h⟩:=h
 obtain ⟨r,_,rfl,q1,h⟩:=rep_at h
 obtain ⟨a,r,_,rfl,ha,q2,h⟩:=rep_ls h
 have hle:=h.le
 obtain ⟨b,r,_,rfl,hb,_,h⟩:=rep_ls h
 rw [h.2]
 exact ⟨a,b,rfl,ha.wide q1 hle,hb.wide (Nat.le_trans q1 q2) h.1⟩
theorem getI {H:Heap}:∀ {is:List It}{lo hi:Nat}{l:List V}{k:Nat}{v:V},Reps H (itEs is) lo hi l->l[k]? = some v->∃ i,is[k]? = some i/\Rep H (itE i) lo hi v
 | [],_,_,_,k,v,h,hv=>by rw [h.2] at hv;cases hv
 | i::is,_,_,_,k,v,h,hv=>by
  obtain ⟨u,r,m,rfl,q1,h1,h2⟩:=h
  cases k with
  | zero=>cases hv;exact ⟨i,rfl,h1.wide (Nat.le_refl _) h2.le⟩
  | succ k =>
   obtain ⟨j,g1,g4⟩:=getI (is:=is) (k:=k) h2 hv
   exact ⟨j,g1,g4.wide q1 (Nat.le_refl _)⟩
theorem dIs_get:∀ {is:List It}{k:Nat}{i:It},is[k]? = some i->dI i<=dIs is
 | j::is,0,i,h=>by cases h;exact Nat.le_max_left _ _
 | j::is,k+1,i,h=>Nat.le_trans (dIs_get (is:=is) h) (Nat.le_max_right _ _)
noncomputable def AIs (m n:Nat):Prop:=∀ (is:List It) (above a lo hi:Nat) (H:Heap) (Q:PostV),dIs is<=m->IOs above 9 is->Rep H (.lst (itEs is)) lo hi (.ref a)->hi<=H.length->(∀ G,Grow H G->Q (.bool true) G)->callN P n "are_items" [.ref a,.int (above:Nat)] Q H
structure IZ where
 most:Nat
 e:Option V
theorem items_body {m n:Nat}(ih:∀ m',m=m'+1->AIs m' (n+30)):AIs m (n+31):=by
 intro is above a lo hi H Q hd hi0 hr hh hQ
 obtain ⟨a',l,p,q,e,hb,ha,hrl⟩:=hr
 cases e
 have hq:q<=H.length:=Nat.le_trans hb.qh hh
 refine in_are_items (s_skip (fun _ h=>h) (s_assign (fun _ h=>h) (ss_cons (l_for (σ:=IZ) (fun z=>[some (.ref a),some (.int (above:Nat)),some (.int (z.most:Nat)),z.e]) (fun k z G=>Grow H G/\IOs above z.most (is.drop k)) (l:=l) (fun k z G hI=>hI.1.get ha) (fun k z G v hv hI K hK=>?_) (fun z G hI=>hQ G hI.1) ⟨9,none⟩ (fun _ h=>h) ⟨.refl,hi0⟩))))
 obtain ⟨hg,hio⟩:=hI
 obtain ⟨i,hi1,hri⟩:=getI hrl hv
 have hdk:=Nat.le_trans (dIs_get hi1) hd
 obtain ⟨c,ts,sub⟩:=i
 have ed:is.drop k=.it c ts sub::is.drop (k+1):=by
  obtain ⟨h1,h2⟩:=List.getElem?_eq_some_iff.mp hi1
  rw [List.drop_eq_getElem_cons h1,h2]
 rw [ed] at hio
 obtain ⟨⟨hn,hct,hsub⟩,hrest⟩:=hio
 obtain ⟨a1,b1,rfl,hra,hrb⟩:=un_item (hri.grow hg hq)
 have hqG:q<=G.length:=Nat.le_trans hq hg.len
 obtain ⟨m',rfl⟩:∃ m',m=m'+1:=⟨m - 1,by have:dIs sub+1<=m:=hdk;lia⟩
 refine s_skip (v_or2 (b:=false) (b2:=false) (fun _ h=>h) fun _=>fun _ h=>h) (s_skip (v_or2 (b:=false) (b2:=false) (v_not (t:=true) (v_call (fun _ h=>h) (number_ok hn.1 hn.2.1))) fun _=>v_or1 (v_b (v_cmp (fun _ h=>h) (fun _ h=>h) o_le) (decide_eq_false (by lia)))) (hs_skip (Φ:=Grow G) (h_or2 (h_not (t:=true) (h_call (fun _ h=>h) fun Q k=>content_ok (n:=n) hct hra hqG Q k)) fun G1 g1=>h_or1 (h_to (h_not (t:=true) (h_call (fun _ h=>h) fun Q k=>ih m' rfl sub c b1 p q G1 Q (Nat.le_of_succ_le_succ hdk) hsub (hrb.grow g1 hqG) (Nat.le_trans hqG g1.len) k)) fun G2 g2=>g1.trans g2)) fun G2 g2=>?_))
 exact hK ⟨c,_⟩ _ ⟨hg.trans g2,hrest⟩
theorem are_items_ok:∀ (m n:Nat),AIs m (n+m+31)
 | 0,n=>items_body fun m' q=>nomatch q
 | m+1,n=>items_body (n:=n+m+1) fun m' q=>by cases q;exact are_items_ok m n
noncomputable def nmB:Bk->List Nat
 | .gap _=>[103,97,112]
 | .head _ _=>[104,101,97,100,105,110,103]
 | .list _=>[108,105,115,116]
 | .para _=>[112,97,114,97]
 | .quote _=>[113,117,111,116,101]
mutual
noncomputable def BO1:Nat->Bk->Prop
 | _,.gap n=>1<=n
 | _,.head n ts=>(1<=n/\n<=6)/\Ct ts
 | _,.list is=>is≠[]/\IOs 0 9 is/\dIs is<=9
 | deep,.para rs=>rs≠[]/\∀ ts∈rs,Ct ts/\(shp deep (rowTs ts)).k=4
 | deep,.quote bs=>deep<9/\bs≠[]/\BOs (deep+1) [] bs
noncomputable def BOs:Nat->List Nat->List Bk->Prop
 | _,_,[]=>True
 | deep,last,b::bs=>BO1 deep b/\(nmB b≠last∨last=[104,101,97,100,105,110,103])/\BOs deep (nmB b) bs
end
mutual
theorem ok_I:∀ {above most:Nat}{i:It},IO1 above most i->okX (itE i)
 | above,most,.it n ts sub,h=>⟨trivial,ok_Ts h.2.1.good,ok_Is h.2.2,trivial⟩
theorem ok_Is:∀ {above most:Nat}{is:List It},IOs above most is->okXs (itEs is)
 | _,_,[],_=>trivial
 | above,most,i::is,h=>⟨ok_I h.1,ok_Is h.2⟩
end
theorem ok_pa:∀ {rs:List (List T)},(∀ ts∈rs,Ct ts)->okXs (paE rs)
 | [],_=>trivial
 | ts::rs,h=>⟨ok_Ts (h ts (.head _)).good,ok_pa fun x hx=>h x (.tail _ hx)⟩
mutual
theorem ok_B:∀ {deep:Nat}{b:Bk},BO1 deep b->okX (bkE b)
 | _,.gap n,h=>⟨okL rfl,trivial,trivial⟩
 | _,.head n ts,h=>⟨okL rfl,trivial,ok_Ts h.2.good,trivial⟩
 | _,.list is,h=>⟨okL rfl,ok_Is h.2.1,trivial⟩
 | _,.para rs,h=>⟨okL rfl,ok_pa fun ts ht=>(h.2 ts ht).1,trivial⟩
 | deep,.quote bs,h=>⟨okL rfl,ok_Bs h.2.2,trivial⟩
theorem ok_Bs:∀ {deep:Nat}{last:List Nat}{bs:List Bk},BOs deep last bs->okXs (bkEs bs)
 | _,_,[],_=>trivial
 | deep,last,b::bs,h=>⟨ok_B h.1,ok_Bs h.2.2⟩
end
theorem un_two {H:Heap}{w:List Nat}{xs:List X}{lo hi:Nat}{v:V}(h:Rep H (.tup [.at (.s w),.lst xs]) lo hi v):∃ a,v=.tup [.str w,.ref a]/\Rep H (.lst xs) lo hi (.ref a):=by
 obtain ⟨l,rfl,h⟩:=h
 obtain ⟨r,_,rfl,q1,h⟩:=rep_at h
 obtain ⟨a,r,_,rfl,ha,q2,h⟩:=rep_ls h
 rw [h.2]
 exact ⟨a,rfl,ha.wide q1 h.1⟩
theorem un_gap {H:Heap}{n:Nat}{lo hi:Nat}{v:V}(h:Rep H (bkE (.gap n)) lo hi v):v=.tup [.str [103,97,112],.int (n:Nat)]:=by
 obtain ⟨l,rfl,h⟩:=h
 obtain ⟨r,_,rfl,q1,h⟩:=rep_at h
 obtain ⟨r,_,rfl,q1,h⟩:=rep_at h
 rw [h.2];rfl
theorem un_head {H:Heap}{n:Nat}{ts:List T}{lo hi:Nat}{v:V}(h:Rep H (bkE (.head n ts)) lo hi v):∃ a,v=.tup [.str [104,101,97,100,105,110,103],.int (n:Nat),.ref a]/\Rep H (.lst (encs ts)) lo hi (.ref a):=by
 obtain ⟨l,rfl,h⟩:=h
 obtain ⟨r,_,rfl,q1,h⟩:=rep_at h
 obtain ⟨r,_,rfl,q2,h⟩:=rep_at h
 obtain ⟨a,r,_,rfl,ha,q3,h⟩:=rep_ls h
 rw [h.2]
 exact ⟨a,rfl,ha.wide (Nat.le_trans q1 q2) h.1⟩
theorem getB {H:Heap}:∀ {is:List Bk}{lo hi:Nat}{l:List V}{k:Nat}{v:V},Reps H (bkEs is) lo hi l->l[k]? = some v->∃ i,is[k]? = some i/\Rep H (bkE i) lo hi v
 | [],_,_,_,k,v,h,hv=>by rw [h.2] at hv;cases hv
 | i::is,_,_,_,k,v,h,hv=>by
  obtain ⟨u,r,m,rfl,q1,h1,h2⟩:=h
  cases k with
  | zero=>cases hv;exact ⟨i,rfl,h1.wide (Nat.le_refl _) h2.le⟩
  | succ k =>
   obtain ⟨j,g1,g4⟩:=getB (is:=is) (k:=k) h2 hv
   exact ⟨j,g1,g4.wide q1 (Nat.le_refl _)⟩
theorem getP {H:Heap}:∀ {is:List (List T)}{lo hi:Nat}{l:List V}{k:Nat}{v:V},Reps H (paE is) lo hi l->l[k]? = some v->∃ i a,is[k]? = some i/\v=.ref a/\Rep H (.lst (encs i)) lo hi (.ref a)
 | [],_,_,_,k,v,h,hv=>by rw [h.2] at hv;cases hv
 | i::is,_,_,_,k,v,h,hv=>by
  obtain ⟨a,r,m,rfl,h1,q1,h2⟩:=rep_ls h
  cases k with
  | zero=>cases hv;exact ⟨i,a,rfl,rfl,h1.wide (Nat.le_refl _) h2.le⟩
  | succ k =>
   obtain ⟨j,b,g1,g2,g4⟩:=getP (is:=is) (k:=k) h2 hv
   exact ⟨j,b,g1,g2,g4.wide q1 (Nat.le_refl _)⟩
theorem empty_no {C:Calls}{ρ:Env}{H:Heap}{x:X}{xs:List X}{a lo hi m:Nat}{e:E}(he:Ev C ρ H e (.ref a)) (hm:m<100) (hf:Fit W m (.lst (x::xs))) (ho:okX (.lst (x::xs))) (h:Rep H (.lst (x::xs)) lo hi (.ref a)) (hh:hi<=H.length):EvH C ρ H (.cmp .eq e (.list [])) (.bool false) (fun G=>G=H++[[]]) :=
 h_cmp (h_ev he) (fun G g=>by subst g;exact h_list0) fun G g=>by
  subst g
  exact ne_X hm hf ho (h.grow .one hh) g_last
theorem rows_ok {n deep a lo hi m:Nat}{rs:List (List T)}{H:Heap}(hne:rs≠[]) (hrs:∀ ts∈rs,Ct ts/\(shp deep (rowTs ts)).k=4) (hm:m<100) (hf:Fit W m (.lst (paE rs))) (hr:Rep H (.lst (paE rs)) lo hi (.ref a)) (hh:hi<=H.length) (Q:PostV) (h:∀ G,Grow H G->Q (.bool true) G):callN P (n+31) "are_rows" [.ref a,.int (deep:Nat)] Q H:=by
 have hok:=ok_pa fun ts ht=>(hrs ts ht).1
 cases rs with
 | nil=>exact absurd rfl hne
 | cons t0 rs =>
  refine in_are_rows (hs_skip (h_or2 (h_ev (v:=.bool false) (fun _ h=>h)) fun G g=>by subst g;exact h_or1 (empty_no (by exact fun _ h=>h) hm hf hok hr hh)) fun G g=>?_)
  subst g
  obtain ⟨a',l,p,q,e,hb,ha,hrl⟩:=hr
  cases e
  have hq:q<=H.length:=Nat.le_trans hb.qh hh
  refine ss_cons (l_for (σ:=Option V) (fun z=>[some (.ref a),some (.int (deep:Nat)),z]) (fun k z G=>Grow H G) (l:=l) (fun k z G hI=>hI.get ha) (fun k z G v hv hI K hK=>?_) (fun z G hI=>h G hI) none (fun _ h=>h) .one)
  obtain ⟨ts,b,hts,rfl,hrb⟩:=getP hrl hv
  obtain ⟨hc,h4⟩:=hrs ts (List.mem_of_getElem? hts)
  have hrb:=hrb.grow hI hq
  have hqG:q<=G.length:=Nat.le_trans hq hI.len
  have e2:∀ G1,Grow G G1->EvH (callN P (n+30)) [some (.ref a),some (.int (deep:Nat)),some (.ref b)] G1 (.cmp .ne (.idx (.call "shape" [.call "row_of" [.var 2],.var 1]) (.int 0)) (.str [112,108,97,105,110])) (.bool false) (Grow G1):=fun G1 g1 Q k=>by
   refine e_cmp (e_idx (e_call (es_cons (e_call (es_cons (e_var rfl (es_nil (row_of_ok (n:=n+1) hc.good (hrb.grow g1 hqG) (Nat.le_trans hqG g1.len) (Nat.le_trans hc.len (by decide)) fun l l'=>es_cons (e_var rfl (es_nil (shape_ok (n:=n+28) (deep:=deep) (row:=rowTs ts) _ ?_)))))))))))
   generalize shp deep (rowTs ts)=s at h4
   obtain ⟨k4,sn,sr⟩:=s
   cases h4
   exact k _ grow2
  refine hs_skip (Φ:=Grow G) (h_or2 (h_not (t:=true) (h_call (fun _ h=>h) fun Q k=>content_ok (n:=n) hc hrb hqG Q k)) fun G1 g1=>h_or1 (h_to (e2 G1 g1) fun G2 g2=>g1.trans g2)) fun G2 g2=>?_
  exact hK _ _ (hI.trans g2)
theorem full_yes {C:Calls}{ρ:Env}{H:Heap}{x:X}{xs:List X}{a lo hi m:Nat}{e:E}(he:Ev C ρ H e (.ref a)) (hm:m<100) (hf:Fit W m (.lst (x::xs))) (ho:okX (.lst (x::xs))) (h:Rep H (.lst (x::xs)) lo hi (.ref a)) (hh:hi<=H.length):EvH C ρ H (.cmp .ne e (.list [])) (.bool true) (Grow H) :=
 h_to (Φ:=fun G=>G=H++[[]]) (h_cmp (h_ev he) (fun G g=>by subst g;exact h_list0) fun G g=>by
  subst g
  exact congrArg (Option.map not) (ne_X hm hf ho (h.grow .one hh) g_last)) fun G g=>by subst g;exact .one
theorem bkEs_mem:∀ {bs:List Bk}{k:Nat}{b:Bk},bs[k]? = some b->bkE b∈bkEs bs
 | b::bs,0,_,h=>by cases h;exact .head _
 | _::bs,k+1,_,h=>.tail _ (bkEs_mem (bs:=bs) h)
noncomputable def ABs (d deep n:Nat):Prop:=∀ (bs:List Bk) (a lo hi:Nat) (H:Heap) (Q:PostV),bs≠[]->BOs deep [] bs->Fit W (2 * d+47) (.lst (bkEs bs))->Rep H (.lst (bkEs bs)) lo hi (.ref a)->hi<=H.length->(∀ G,Grow H G->Q (.bool true) G)->callN P n "are_blocks" [.ref a,.int (deep:Nat)] Q H
theorem is_block_ok {n d deep lo hi:Nat}{b:Bk}{v:V}{H:Heap}(hd:deep+d=9) (ih:∀ d',d=d'+1->ABs d' (deep+1) (n+40)) (hb:BO1 deep b) (hf:Fit W (2 * d+46) (bkE b)) (hr:Rep H (bkE b) lo hi v) (hh:hi<=H.length) (Q:PostV) (h:∀ G,Grow H G->Q (.bool true) G):callN P (n+41) "is_block" [v,.int (deep:Nat)] Q H:=by
 refine in_is_block ?_
 cases b with
 | gap k =>
  rw [un_gap hr]
  exact s_iteT (v_b (v_call (fun _ h=>h) tuple_ok) rfl) (s_ret (v_call (fun _ h=>h) (number_any hb)) (h H .refl))
 | head k ts =>
  obtain ⟨a,rfl,hra⟩:=un_head hr
  exact s_skip (v_b (v_call (fun _ h=>h) tuple_ok) rfl) (s_iteT (v_b (v_call (fun _ h=>h) tuple_ok) rfl) (hs_ret (Φ:=Grow H) (h_and2 (h_ev (v_call (fun _ h=>h) (number_ok hb.1.1 hb.1.2))) fun G g=>by subst g;exact h_and1 (h_call (fun _ h=>h) fun Q k=>content_ok (n:=n+10) hb.2 hra hh Q k)) h))
 | list is =>
  obtain ⟨a,rfl,hra⟩:=un_two hr
  have hfl:=hf.2 _ (List.mem_cons_of_mem _ (.head _))
  cases is with
  | nil=>exact absurd rfl hb.1
  | cons i is =>
   refine s_skip (v_b (v_call (fun _ h=>h) tuple_ok) rfl) (s_skip (v_b (v_call (fun _ h=>h) tuple_ok) rfl) (s_iteT (v_b (v_call (fun _ h=>h) tuple_ok) rfl) (hs_ret (Φ:=Grow H) (h_and2 (h_call (fun _ h=>h) fun Q k=>are_items_ok 9 n (i::is) 0 a lo hi H Q hb.2.2 hb.2.1 hra hh k) fun G g=>h_and1 (h_to (full_yes (by exact fun _ h=>h) ?_ hfl (ok_Is hb.2.1) (hra.grow g hh) (Nat.le_trans hh g.len)) fun G1 g1=>g.trans g1)) h)))
   lia
 | para rs =>
  obtain ⟨a,rfl,hra⟩:=un_two hr
  have hfl:=hf.2 _ (List.mem_cons_of_mem _ (.head _))
  exact s_skip (v_b (v_call (fun _ h=>h) tuple_ok) rfl) (s_skip (v_b (v_call (fun _ h=>h) tuple_ok) rfl) (s_skip (v_b (v_call (fun _ h=>h) tuple_ok) rfl) (s_iteT (v_b (v_call (fun _ h=>h) tuple_ok) rfl) (hs_ret (Φ:=Grow H) (h_call (fun _ h=>h) fun Q k=>rows_ok (n:=n+9) (m:=2 * d+45) hb.1 hb.2 (by lia) hfl hra hh Q k) h))))
 | quote bs =>
  obtain ⟨a,rfl,hra⟩:=un_two hr
  have hfl:=hf.2 _ (List.mem_cons_of_mem _ (.head _))
  obtain ⟨d',rfl⟩:∃ d',d=d'+1:=⟨d - 1,by have:=hb.1;lia⟩
  exact s_skip (v_b (v_call (fun _ h=>h) tuple_ok) rfl) (s_skip (v_b (v_call (fun _ h=>h) tuple_ok) rfl) (s_skip (v_b (v_call (fun _ h=>h) tuple_ok) rfl) (s_skip (v_b (v_call (fun _ h=>h) tuple_ok) rfl) (s_iteT (v_b (v_call (fun _ h=>h) tuple_ok) rfl) (hs_ret (Φ:=Grow H) (h_and2 (h_ev (v_b (v_cmp (fun _ h=>h) (fun _ h=>h) o_lt) (decide_eq_true (Int.ofNat_lt.mpr hb.1)))) fun G g=>by subst g;exact h_and1 (h_call (fun _ h=>h) fun Q k=>ih d' rfl bs a lo hi G Q hb.2.1 hb.2.2 hfl hra hh k)) h)))))
theorem nm_at {H:Heap}{b:Bk}{lo hi:Nat}{v:V}(h:Rep H (bkE b) lo hi v):∃ l,v=.tup (.str (nmB b)::l):=by
 cases b<;>(obtain ⟨l,rfl,h⟩:=h;obtain ⟨r,_,rfl,q1,h⟩:=rep_at h;exact ⟨r,rfl⟩)
structure BZ where
 last:List Nat
 e:Option V
theorem ab_body {n d deep:Nat}(hd:deep+d=9) (ih:∀ d',d=d'+1->ABs d' (deep+1) (n+40)):ABs d deep (n+42):=by
 intro bs a lo hi H Q hne hbo hf hr hh hQ
 cases bs with
 | nil=>exact absurd rfl hne
 | cons b0 bs =>
  refine in_are_blocks (hs_skip (h_or2 (h_ev (v:=.bool false) (fun _ h=>h)) fun G g=>by subst g;exact h_or1 (empty_no (by exact fun _ h=>h) (by lia) hf (ok_Bs hbo) hr hh)) fun G g=>?_)
  subst g
  obtain ⟨a',l,p,q,e,hb,ha,hrl⟩:=hr
  cases e
  have hq:q<=H.length:=Nat.le_trans hb.qh hh
  refine s_assign (fun _ h=>h) (ss_cons (l_for (σ:=BZ) (fun z=>[some (.ref a),some (.int (deep:Nat)),some (.str z.last),z.e]) (fun k z G=>Grow H G/\BOs deep z.last ((b0::bs).drop k)) (l:=l) (fun k z G hI=>hI.1.get ha) (fun k z G v hv hI K hK=>?_) (fun z G hI=>hQ G hI.1) ⟨[],none⟩ (fun _ h=>h) ⟨.one,hbo⟩))
  obtain ⟨hg,hio⟩:=hI
  obtain ⟨b,hb1,hrb⟩:=getB hrl hv
  have hfb:=hf.2 _ (bkEs_mem hb1)
  generalize hbs:b0::bs=all at hb1 hio hK
  have ed:all.drop k=b::all.drop (k+1):=by
   obtain ⟨h1,h2⟩:=List.getElem?_eq_some_iff.mp hb1
   rw [List.drop_eq_getElem_cons h1,h2]
  rw [ed] at hio
  obtain ⟨ho,hl,hrest⟩:=hio
  have hrb:=hrb.grow hg hq
  have hqG:q<=G.length:=Nat.le_trans hq hg.len
  obtain ⟨vs,rfl⟩:=nm_at hrb
  refine hs_skip (Φ:=Grow G) (h_not (t:=true) (h_call (fun _ h=>h) fun Q k=>is_block_ok hd ih ho hfb hrb hqG Q k)) fun G1 g1=>?_
  have e0:∀ {C:Calls},Ev C [some (.ref a),some (.int (deep:Nat)),some (.str z.last),some (.tup (.str (nmB b)::vs))] G1 (.idx (.var 3) (.int 0)) (.str (nmB b)):=v_idx (fun _ h=>h) (fun _ h=>h) i_tup0
  refine s_skip (v_b (v_and2 (b:=nmB b==z.last) (b2:=!(z.last==[104,101,97,100,105,110,103])) (v_cmp e0 (fun _ h=>h) rfl) fun q=>v_and1 (v_cmp (fun _ h=>h) (fun _ h=>h) rfl)) ?_) (s_assign e0 (hK ⟨nmB b,_⟩ _ ⟨hg.trans g1,hrest⟩))
  rcases hl with hl | hl
  ·rw [beq_eq_false_iff_ne.mpr hl];rfl
  ·rw [hl];exact Bool.and_false _
theorem are_blocks_ok:∀ (d deep n:Nat),deep+d=9->ABs d deep (n+2 * d+42)
 | 0,deep,n,hd=>ab_body hd fun d' q=>nomatch q
 | d+1,deep,n,hd=>ab_body (n:=n+2 * d+2) hd fun d' q=>by cases q;exact are_blocks_ok d (deep+1) n (by lia)
inductive Kd where
 | top | sp | lb
noncomputable def kdOf:Ctx->Kd
 | []=>.top
 | (some _,_)::_=>.sp
 | (none,_)::_=>.lb
structure PlainIn (deep:Nat) (kd:Kd) (s:List Nat):Prop where
 ne:s≠[]
 all:∀ c∈s,c≠92/\c≠96/\(kd=.sp->c≠41)/\(kd=.lb->c≠93)/\(deep<12->c≠91)
 pair:deep<12->∀ a b c,s=a++c::40::b->[42,95,126].contains c=false
noncomputable def NoTxt (ts:List T):Prop:=∀ us s,ts≠us++[.txt s]
noncomputable def Barred (ts:List T):Prop:=∃ us vs,ts=us++[.link vs none true]
inductive Good:Nat->Kd->List T->Prop
 | nil {deep:Nat}{kd:Kd}:Good deep kd []
 | txt {deep:Nat}{kd:Kd}{ts:List T}{s:List Nat}:Good deep kd ts->NoTxt ts->PlainIn deep kd s->(Barred ts->s.take 1≠[40])->Good deep kd (ts++[.txt s])
 | kept {deep:Nat}{kd:Kd}{ts:List T}{c:Nat}:Good deep kd ts->Good deep kd (ts++[.kept [c]])
 | code {deep:Nat}{kd:Kd}{ts:List T}{s:List Nat}:Good deep kd ts->(∀ c∈s,c≠96)->Good deep kd (ts++[.code s true])
 | span {deep c:Nat}{kd:Kd}{ts us:List T}:Good deep kd ts->deep<12->[42,95,126].contains c=true->Good (deep+1) .sp us->Good deep kd (ts++[.span c us true])
 | link {deep:Nat}{kd:Kd}{ts us:List T}{g:Option (List Nat)}:Good deep kd ts->deep<12->(∀ s,g=some s->∀ c∈s,c≠41)->Good (deep+1) .lb us->Good deep kd (ts++[.link us g true])
theorem get_at (u:List Nat) (x:Nat) (v:List Nat):(u++x::v)[u.length]? = some x:=by
 rw [List.getElem?_append_right (Nat.le_refl _),Nat.sub_self];rfl
theorem drop_at (u:List Nat) (x:Nat) (v:List Nat):(u++x::v).drop (u.length+1)=v:=by
 rw [List.drop_append];simp
theorem nx_at (u:List Nat) (x:Nat) (v:List Nat):nx (u++x::v) u.length=v.take 1:=by
 unfold nx;rw [drop_at]
theorem idx_stop {c:Nat}:∀ {t v:List Nat},(∀ x∈t,x≠c)->idx? c (t++c::v)=some t.length
 | [],v,_=>if_pos rfl
 | x::t,v,h=>by
  have h1:¬ x=c:=h x (by simp)
  show (if x=c then some 0 else (idx? c (t++c::v)).map (· + 1))=_
  rw [if_neg h1,idx_stop fun y hy=>h y (List.mem_cons_of_mem _ hy)];rfl
theorem idx_never {c:Nat}:∀ {t:List Nat},(∀ x∈t,x≠c)->idx? c t=none
 | [],_=>rfl
 | x::t,h=>by
  have h1:¬ x=c:=h x (by simp)
  show (if x=c then some 0 else (idx? c t).map (· + 1))=_
  rw [if_neg h1,idx_never fun y hy=>h y (List.mem_cons_of_mem _ hy)];rfl
noncomputable def part (ts:List T) (s:List Nat):List T:=if s=[] then ts else ts++[.txt s]
theorem put_part {ts:List T}{s:List Nat}{c:Nat}(hd:NoTxt ts):putT (part ts s) c=part ts (s++[c]):=by
 unfold part
 rw [if_neg (by simp:¬ s++[c]=[])]
 by_cases h:s=[]
 ·rw [if_pos h,h]
  unfold putT
  rcases List.eq_nil_or_concat ts with rfl | ⟨us,t,rfl⟩
  ·rfl
  ·rw [List.concat_eq_append] at hd ⊢
   rw [List.getLast?_append]
   simp only [List.getLast?_singleton,Option.some_or]
   cases t with
   | txt s'=>exact absurd rfl (hd us s')
   | kept _=>rfl
   | code _ _=>rfl
   | span _ _ _=>rfl
   | link _ _ _=>rfl
 ·rw [if_neg h]
  unfold putT
  rw [List.getLast?_append]
  simp only [List.getLast?_singleton,Option.some_or,List.dropLast_concat]
theorem kd_span {ctx:Ctx}{kd:Kd}(h:kdOf ctx=kd):isSpan ctx=true->kd=.sp:=by
 intro q
 subst h
 match ctx,q with
 | (some _,_)::_,_=>rfl
theorem kd_label {ctx:Ctx}{kd:Kd}(h:kdOf ctx=kd):isLabel ctx=true->kd=.lb:=by
 intro q
 subst h
 match ctx,q with
 | (none,_)::_,_=>rfl
theorem read_signs {row:List Nat}{ts r:List T}{ctx:Ctx}{kd:Kd}{s:List Nat}(hk:kdOf ctx=kd) (hn:NoTxt ts) (hp:PlainIn ctx.length kd s):∀ (b a u v:List Nat),s=a++b->row=u++a++b++v->(b.getLast? = none∨v.take 1≠[40]∨∃ c,b.getLast? = some c/\[42,95,126].contains c=false) ->
  Pars row (u.length+a.length+b.length) (part ts (a++b)) ctx r->Pars row (u.length+a.length) (part ts a) ctx r
 | [],a,u,v,_,_,_,h=>by simpa using h
 | c::b,a,u,v,es,e,hv,h=>by
  have hc:=hp.all c (by rw [es];simp)
  have e1:row=(u++a)++c::(b++v):=by rw [e];simp
  have hg:row[u.length+a.length]? = some c:=by
   rw [e1,<- List.length_append];exact get_at _ _ _
  have hnx:nx row (u.length+a.length)=(b++v).take 1:=by
   rw [e1,<- List.length_append];exact nx_at _ _ _
  refine .plain hg hc.1 hc.2.1 (fun h12=>?_) (fun q=>?_) (fun q=>?_) ?_
  ·unfold opB
   have h91:(c==91)=false:=by simpa using hc.2.2.2.2 h12
   rw [h91,Bool.false_or,hnx]
   cases hcc:[42,95,126].contains c with
   | false=>rfl
   | true =>
    rw [Bool.true_and]
    cases b with
    | nil =>
     rcases hv with q | q | ⟨x,q,qx⟩
     ·simp at q
     ·simpa using q
     ·have:x=c:=by simpa using q.symm
      subst this
      rw [hcc] at qx;cases qx
    | cons y b =>
     by_cases hy:y=40
     ·subst hy
      have:=hp.pair h12 a b c es
      rw [hcc] at this;cases this
     ·simpa using hy
  ·cases hs:isSpan ctx with
   | false=>rfl
   | true=>exact absurd q (hc.2.2.1 (kd_span hk hs))
  ·cases hs:isLabel ctx with
   | false=>rfl
   | true=>exact absurd q (hc.2.2.2.1 (kd_label hk hs))
  ·rw [put_part hn]
   have ih:=read_signs (row:=row) (r:=r) (ctx:=ctx) (s:=s) hk hn hp b (a++[c]) u v (by rw [es];simp) (by rw [e];simp) ?_
   ·have e2:u.length+(a++[c]).length=u.length+a.length+1:=by simp;lia
    rw [e2] at ih
    refine ih ?_
    have e3:u.length+a.length+1+b.length=u.length+a.length+(c::b).length:=by simp;lia
    have e4:a++[c]++b=a++c::b:=by simp
    rw [e3,e4];exact h
   ·cases b with
    | nil=>exact Or.inl rfl
    | cons y b =>
     rcases hv with q | q | q
     ·simp at q
     ·exact Or.inr (Or.inl q)
     ·refine Or.inr (Or.inr ?_)
      simpa using q
noncomputable def Safe (ts:List T) (v:List Nat):Prop:=(Barred ts∨∃ us s,ts=us++[.txt s])->v.take 1≠[40]
theorem codeT_closed {u t v:List Nat}(h:∀ x∈t,x≠96):codeT (u++96::(t++96::v)) u.length=(.code t true,u.length+(t.length+2)):=by
 unfold codeT
 rw [drop_at,idx_stop h]
 simp only [List.take_left']
 have:u.length+1+t.length+1=u.length+(t.length+2):=by lia
 rw [this]
theorem codeT_open {u t:List Nat}(h:∀ x∈t,x≠96):codeT (u++96::t) u.length=(.code t false,(u++96::t).length):=by
 unfold codeT
 rw [drop_at,idx_never h]
theorem linkT_bare {u v:List Nat}{ts:List T}(h:v.take 1≠[40]):linkT (u++93::v) u.length ts=(.link ts none true,u.length+1):=by
 unfold linkT
 rw [nx_at,if_neg h]
theorem drop_two (u v:List Nat) (x y:Nat):(u++x::y::v).drop (u.length+2)=v:=by
 rw [List.drop_append];simp
theorem linkT_to {u g v:List Nat}{ts:List T}(h:∀ x∈g,x≠41):linkT (u++93::40::(g++41::v)) u.length ts=(.link ts (some g) true,u.length+(g.length+3)):=by
 unfold linkT
 rw [nx_at,if_pos (show List.take 1 (40::(g++41::v))=[40] from rfl),drop_two,idx_stop h]
 simp only [List.take_left']
 have:u.length+2+g.length+1=u.length+(g.length+3):=by lia
 rw [this]
theorem linkT_open {u g:List Nat}{ts:List T}(h:∀ x∈g,x≠41):linkT (u++93::40::g) u.length ts=(.link ts (some g) false,(u++93::40::g).length):=by
 unfold linkT
 rw [nx_at,if_pos (show List.take 1 (40::g)=[40] from rfl),drop_two,idx_never h]
theorem barred_snoc {ts us:List T}{t:T}(h:Barred (ts++[t])):∃ vs,t=.link vs none true:=by
 obtain ⟨a,b,e⟩:=h
 obtain ⟨_,e2⟩:=List.append_inj' e rfl
 exact ⟨b,by simpa using e2⟩
theorem notxt_snoc {ts:List T}{t:T}{us:List T}{s:List Nat}(h:ts++[t]=us++[.txt s]):t=.txt s:=by
 obtain ⟨_,e2⟩:=List.append_inj' h rfl
 simpa using e2
theorem rk {s:List Nat}:rowT (.kept s)=92::s:=rfl
theorem rc {s:List Nat}{b:Bool}:rowT (.code s b)=96::(s++if b then [96] else []):=rfl
theorem rs {c:Nat}{us:List T}{b:Bool}:rowT (.span c us b)=c::40::(rowTs us++if b then [41] else []):=rfl
theorem rn {us:List T}{b:Bool}:rowT (.link us none b)=91::(rowTs us++if b then [93] else []):=rfl
theorem rl {us:List T}{g:List Nat}{b:Bool}:rowT (.link us (some g) b)=[91]++rowTs us++[93,40]++g++if b then [41] else []:=rfl
theorem Good.read {deep:Nat}{kd:Kd}{ts:List T}(h:Good deep kd ts):∀ (u v:List Nat) (ctx:Ctx) (r:List T),ctx.length=deep->kdOf ctx=kd->Safe ts v ->
  Pars (u++rowTs ts++v) (u.length+(rowTs ts).length) ts ctx r->Pars (u++rowTs ts++v) u.length [] ctx r:=by
 induction h with
 | nil=>intro u v ctx r _ _ _ h;exact h
 | @txt deep kd ts s hg hn hp hbar ih =>
  intro u v ctx r hc hk hsafe h
  rw [rowTs_app,rowTs_one] at h ⊢
  have e:u++(rowTs ts++s)++v=u++rowTs ts++(s++v):=by simp
  have e':u++(rowTs ts++rowT (.txt s))++v=u++rowTs ts++(s++v):=e
  rw [e'] at h ⊢
  have hs1:(s++v).take 1=s.take 1:=by
   cases s with
   | nil=>exact absurd rfl hp.ne
   | cons x s=>rfl
  refine ih u (s++v) ctx r hc hk (fun q=>?_) ?_
  ·rw [hs1]
   rcases q with q | ⟨us,s',q⟩
   ·exact hbar q
   ·exact absurd q (hn us s')
  ·have hv:v.take 1≠[40]:=hsafe (Or.inr ⟨ts,s,rfl⟩)
   have hpl:PlainIn ctx.length kd s:=by rw [hc];exact hp
   have:=read_signs (row:=u++rowTs ts++(s++v)) (ts:=ts) (r:=r) hk hn hpl s [] (u++rowTs ts) v rfl (by simp) (Or.inr (Or.inl hv))
   simp only [List.length_nil,Nat.add_zero,List.nil_append,List.length_append] at this
   have e1:part ts s=ts++[.txt s]:=by unfold part;rw [if_neg hp.ne]
   have e2:part ts []=ts:=by unfold part;rw [if_pos rfl]
   rw [e1,e2] at this
   refine this ?_
   have e3:u.length+(rowTs ts++rowT (.txt s)).length=u.length+(rowTs ts).length+s.length:=by
    show u.length+(rowTs ts++s).length=_
    rw [List.length_append];lia
   rw [e3] at h;exact h
 | @kept deep kd ts c hg ih =>
  intro u v ctx r hc hk hsafe h
  rw [rowTs_app,rowTs_one] at h ⊢
  have e:u++(rowTs ts++rowT (.kept [c]))++v=u++rowTs ts++(92::c::v):=by simp [rk]
  rw [e] at h ⊢
  refine ih u _ ctx r hc hk (fun _=>by simp) ?_
  rw [<- List.length_append]
  refine .kept (get_at _ _ _) ?_
  rw [nx_at]
  have e2:u.length+(rowTs ts++rowT (.kept [c])).length=(u++rowTs ts).length+2:=by simp [rk]<;>lia
  rw [e2] at h
  exact h
 | @code deep kd ts s hg hs ih =>
  intro u v ctx r hc hk hsafe h
  rw [rowTs_app,rowTs_one] at h ⊢
  have e:u++(rowTs ts++rowT (.code s true))++v=u++rowTs ts++(96::(s++96::v)):=by simp [rc]
  rw [e] at h ⊢
  refine ih u _ ctx r hc hk (fun _=>by simp) ?_
  rw [<- List.length_append]
  refine .code (get_at _ _ _) ?_
  rw [codeT_closed hs]
  have e2:u.length+(rowTs ts++rowT (.code s true)).length=(u++rowTs ts).length+(s.length+2):=by simp [rc]<;>lia
  rw [e2] at h
  exact h
 | @span deep c kd ts us hg hd hcc hus ih ihu =>
  intro u v ctx r hc hk hsafe h
  rw [rowTs_app,rowTs_one] at h ⊢
  have e:u++(rowTs ts++rowT (.span c us true))++v=u++rowTs ts++(c::40::(rowTs us++41::v)):=by simp [rs]
  rw [e] at h ⊢
  have hc40:c≠40:=by rintro rfl;simp at hcc
  refine ih u _ ctx r hc hk (fun _=>by simpa using hc40) ?_
  rw [<- List.length_append]
  refine .span (c:=c) (get_at _ _ _) hcc (by rw [nx_at];rfl) (by lia) ?_
  have eu:u++rowTs ts++(c::40::(rowTs us++41::v))=(u++rowTs ts++[c,40])++rowTs us++41::v:=by simp
  have el:(u++rowTs ts).length+2=(u++rowTs ts++[c,40]).length:=by simp<;>lia
  rw [eu] at h ⊢
  rw [el]
  refine ihu (u++rowTs ts++[c,40]) (41::v) ((some c,ts)::ctx) r (by simp [hc]) rfl (fun _=>by simp) ?_
  rw [<- List.length_append]
  refine .shutS (get_at _ _ _) ?_
  have e2:u.length+(rowTs ts++rowT (.span c us true)).length=(u++rowTs ts++[c,40]++rowTs us).length+1:=by simp [rs]<;>lia
  rw [e2] at h
  exact h
 | @link deep kd ts us g hg hd hgg hus ih ihu =>
  intro u v ctx r hc hk hsafe h
  rw [rowTs_app,rowTs_one] at h ⊢
  cases g with
  | none =>
   have hv:v.take 1≠[40]:=hsafe (Or.inl ⟨ts,us,rfl⟩)
   have e:u++(rowTs ts++rowT (.link us none true))++v=u++rowTs ts++(91::(rowTs us++93::v)):=by simp [rn]
   rw [e] at h ⊢
   refine ih u _ ctx r hc hk (fun _=>by simp) ?_
   rw [<- List.length_append]
   refine .label (get_at _ _ _) (by lia) ?_
   have eu:u++rowTs ts++(91::(rowTs us++93::v))=(u++rowTs ts++[91])++rowTs us++93::v:=by simp
   have el:(u++rowTs ts).length+1=(u++rowTs ts++[91]).length:=by simp<;>lia
   rw [eu] at h ⊢
   rw [el]
   refine ihu (u++rowTs ts++[91]) (93::v) ((none,ts)::ctx) r (by simp [hc]) rfl (fun _=>by simp) ?_
   rw [<- List.length_append]
   refine .shutL (get_at _ _ _) ?_
   rw [linkT_bare hv]
   have e2:u.length+(rowTs ts++rowT (.link us none true)).length=(u++rowTs ts++[91]++rowTs us).length+1:=by simp [rn]<;>lia
   rw [e2] at h
   exact h
  | some g =>
   have e:u++(rowTs ts++rowT (.link us (some g) true))++v=u++rowTs ts++(91::(rowTs us++93::40::(g++41::v))):=by simp [rl]
   rw [e] at h ⊢
   refine ih u _ ctx r hc hk (fun _=>by simp) ?_
   rw [<- List.length_append]
   refine .label (get_at _ _ _) (by lia) ?_
   have eu:u++rowTs ts++(91::(rowTs us++93::40::(g++41::v)))=(u++rowTs ts++[91])++rowTs us++93::40::(g++41::v):=by simp
   have el:(u++rowTs ts).length+1=(u++rowTs ts++[91]).length:=by simp<;>lia
   rw [eu] at h ⊢
   rw [el]
   refine ihu (u++rowTs ts++[91]) (93::40::(g++41::v)) ((none,ts)::ctx) r (by simp [hc]) rfl (fun _=>by simp) ?_
   rw [<- List.length_append]
   refine .shutL (get_at _ _ _) ?_
   rw [linkT_to (hgg g rfl)]
   have e2:u.length+(rowTs ts++rowT (.link us (some g) true)).length=(u++rowTs ts++[91]++rowTs us).length+(g.length+3):=by simp [rl]<;>lia
   rw [e2] at h
   exact h
inductive Opn:Nat->Kd->List T->Prop
 | good {deep:Nat}{kd:Kd}{ts:List T}:Good deep kd ts->Opn deep kd ts
 | kept {deep:Nat}{kd:Kd}{ts:List T}:Good deep kd ts->Opn deep kd (ts++[.kept []])
 | code {deep:Nat}{kd:Kd}{ts:List T}{s:List Nat}:Good deep kd ts->(∀ c∈s,c≠96)->Opn deep kd (ts++[.code s false])
 | span {deep c:Nat}{kd:Kd}{ts us:List T}:Good deep kd ts->deep<12->[42,95,126].contains c=true->Opn (deep+1) .sp us->Opn deep kd (ts++[.span c us false])
 | bare {deep:Nat}{kd:Kd}{ts us:List T}:Good deep kd ts->deep<12->Opn (deep+1) .lb us->Opn deep kd (ts++[.link us none false])
 | link {deep:Nat}{kd:Kd}{ts us:List T}{g:List Nat}:Good deep kd ts->deep<12->(∀ c∈g,c≠41)->Good (deep+1) .lb us->Opn deep kd (ts++[.link us (some g) false])
theorem Opn.read {deep:Nat}{kd:Kd}{ts:List T}(h:Opn deep kd ts):∀ (u:List Nat) (ctx:Ctx),ctx.length=deep->kdOf ctx=kd->Pars (u++rowTs ts) u.length [] ctx (closeAll ts ctx):=by
 induction h with
 | @good deep kd ts hg =>
  intro u ctx hc hk
  have:=hg.read u [] ctx (closeAll ts ctx) hc hk (fun _=>by simp) (.done (by simp<;>lia))
  simpa using this
 | @kept deep kd ts hg =>
  intro u ctx hc hk
  rw [rowTs_app,rowTs_one]
  have:=hg.read u [92] ctx (closeAll (ts++[.kept []]) ctx) hc hk (fun _=>by simp) (by
   rw [<- List.length_append]
   refine .kept (get_at _ _ _) ?_
   rw [nx_at]
   exact .done (by simp<;>lia))
  rw [<- List.append_assoc];exact this
 | @code deep kd ts s hg hs =>
  intro u ctx hc hk
  rw [rowTs_app,rowTs_one]
  have e:rowT (.code s false)=96::s:=by simp [rc]
  rw [e]
  have:=hg.read u (96::s) ctx (closeAll (ts++[.code s false]) ctx) hc hk (fun _=>by simp) (by
   rw [<- List.length_append]
   refine .code (get_at _ _ _) ?_
   rw [codeT_open hs]
   exact .done (Nat.le_refl _))
  rw [<- List.append_assoc];exact this
 | @span deep c kd ts us hg hd hcc hus ihu =>
  intro u ctx hc hk
  rw [rowTs_app,rowTs_one]
  have e:rowT (.span c us false)=c::40::rowTs us:=by simp [rs]
  rw [e]
  have hc40:c≠40:=by rintro rfl;simp at hcc
  have:=hg.read u (c::40::rowTs us) ctx (closeAll (ts++[.span c us false]) ctx) hc hk (fun _=>by simpa using hc40) (by
   rw [<- List.length_append]
   refine .span (c:=c) (get_at _ _ _) hcc (by rw [nx_at];rfl) (by lia) ?_
   have eu:u++rowTs ts++(c::40::rowTs us)=(u++rowTs ts++[c,40])++rowTs us:=by simp
   have el:(u++rowTs ts).length+2=(u++rowTs ts++[c,40]).length:=by simp<;>lia
   rw [eu,el]
   exact ihu (u++rowTs ts++[c,40]) ((some c,ts)::ctx) (by simp [hc]) rfl)
  rw [<- List.append_assoc];exact this
 | @bare deep kd ts us hg hd hus ihu =>
  intro u ctx hc hk
  rw [rowTs_app,rowTs_one]
  have e:rowT (.link us none false)=91::rowTs us:=by simp [rn]
  rw [e]
  have:=hg.read u (91::rowTs us) ctx (closeAll (ts++[.link us none false]) ctx) hc hk (fun _=>by simp) (by
   rw [<- List.length_append]
   refine .label (get_at _ _ _) (by lia) ?_
   have eu:u++rowTs ts++(91::rowTs us)=(u++rowTs ts++[91])++rowTs us:=by simp
   have el:(u++rowTs ts).length+1=(u++rowTs ts++[91]).length:=by simp<;>lia
   rw [eu,el]
   exact ihu (u++rowTs ts++[91]) ((none,ts)::ctx) (by simp [hc]) rfl)
  rw [<- List.append_assoc];exact this
 | @link deep kd ts us g hg hd hgg hus =>
  intro u ctx hc hk
  rw [rowTs_app,rowTs_one]
  have e:rowT (.link us (some g) false)=91::(rowTs us++93::40::g):=by simp [rl]
  rw [e]
  have:=hg.read u (91::(rowTs us++93::40::g)) ctx (closeAll (ts++[.link us (some g) false]) ctx) hc hk (fun _=>by simp) (by
   rw [<- List.length_append]
   refine .label (get_at _ _ _) (by lia) ?_
   have eu:u++rowTs ts++(91::(rowTs us++93::40::g))=(u++rowTs ts++[91])++rowTs us++93::40::g:=by simp
   have el:(u++rowTs ts).length+1=(u++rowTs ts++[91]).length:=by simp<;>lia
   rw [eu,el]
   refine hus.read (u++rowTs ts++[91]) (93::40::g) ((none,ts)::ctx) _ (by simp [hc]) rfl (fun _=>by simp) ?_
   rw [<- List.length_append]
   refine .shutL (get_at _ _ _) ?_
   rw [linkT_open hgg]
   exact .done (Nat.le_refl _))
  rw [<- List.append_assoc];exact this
theorem Opn.back {ts:List T}(h:Opn 0 .top ts):Pars (rowTs ts) 0 [] [] ts:=h.read [] [] rfl rfl
noncomputable def mkV:Option Nat->List Nat
 | some c=>[c,40]
 | none=>[91]
noncomputable def ent (mk:List Nat) (a:Nat):V:=.tup [.str mk,.ref a]
noncomputable def pileV (A0:Nat):List Nat->Ctx->List V
 | a::as,(kd,_)::ctx=>pileV A0 as ctx++[ent (mkV kd) a]
 | _,_=>[ent [] A0]
noncomputable def At1 (H:Heap) (cur:List T) (a lo hi:Nat):Prop:=∃ l,H[a]? = some l/\Reps H (encs cur) lo hi l
noncomputable def BL (H:Heap) (A0:Nat):Nat->List Nat->List T->Ctx->Prop
 | hi,as,cur,[]=>as=[]/\At1 H cur A0 (A0+2) hi
 | hi,as,cur,(kd,p)::ctx=>∃ a as',as=a::as'/\A0+2<=a/\At1 H cur a (a+1) hi/\BL H A0 a as' p ctx
theorem At1.le {H:Heap}{cur:List T}{a lo hi:Nat}(h:At1 H cur a lo hi):lo<=hi:=by
 obtain ⟨_,_,h⟩:=h;exact h.le
theorem At1.to {H G:Heap}{cur:List T}{a lo hi:Nat}(h:At1 H cur a lo hi) (e:G[a]? = H[a]?) (k:Eqv H G lo hi):At1 G cur a lo hi:=by
 obtain ⟨l,h1,h2⟩:=h;exact ⟨l,e.trans h1,h2.to k⟩
theorem At1.up {H:Heap}{cur:List T}{a lo hi hi':Nat}(h:At1 H cur a lo hi) (k:hi<=hi'):At1 H cur a lo hi':=by
 obtain ⟨l,h1,h2⟩:=h;exact ⟨l,h1,h2.wide (Nat.le_refl _) k⟩
theorem BL.to {H G:Heap}{A0:Nat}:∀ {ctx:Ctx}{hi:Nat}{as:List Nat}{cur:List T},BL H A0 hi as cur ctx->G[A0]? = H[A0]?->Eqv H G (A0+2) hi->BL G A0 hi as cur ctx
 | [],hi,as,cur,h,e,k=>⟨h.1,h.2.to e k⟩
 | (kd,p)::ctx,hi,as,cur,h,e,k=>by
  obtain ⟨a,as',h1,h2,h4,h5⟩:=h
  have hle:=h4.le
  exact ⟨a,as',h1,h2,h4.to (k _ h2 hle) (k.sub (Nat.le_succ_of_le h2) (Nat.le_refl _)),h5.to e (k.sub (Nat.le_refl _) (Nat.le_of_lt hle))⟩
theorem BL.up {H:Heap}{A0:Nat}{ctx:Ctx}{hi hi':Nat}{as:List Nat}{cur:List T}(h:BL H A0 hi as cur ctx) (k:hi<=hi'):BL H A0 hi' as cur ctx:=by
 cases ctx with
 | nil=>exact ⟨h.1,h.2.up k⟩
 | cons x ctx =>
  obtain ⟨a,as',h1,h2,h4,h5⟩:=h
  exact ⟨a,as',h1,h2,h4.up k,h5⟩
noncomputable def from1 (A0:Nat):List Nat->Nat
 | []=>A0+2
 | a::_=>a+1
theorem BL.head {H:Heap}{A0:Nat}{ctx:Ctx}{hi:Nat}{as:List Nat}{cur:List T}(h:BL H A0 hi as cur ctx):At1 H cur (here A0 as) (from1 A0 as) hi/\(here A0 as=A0∨A0+2<=here A0 as)/\here A0 as<from1 A0 as:=by
 cases ctx with
 | nil=>obtain ⟨rfl,h1⟩:=h;exact ⟨h1,Or.inl rfl,Nat.lt_add_of_pos_right (by decide)⟩
 | cons x ctx =>
  obtain ⟨a,as',rfl,h2,h4,h5⟩:=h
  exact ⟨h4,Or.inr h2,Nat.lt_succ_self _⟩
theorem BL.lens {H:Heap}{A0:Nat}:∀ {ctx:Ctx}{hi:Nat}{as:List Nat}{cur:List T},BL H A0 hi as cur ctx->as.length=ctx.length
 | [],hi,as,cur,h=>by rw [h.1];rfl
 | (kd,p)::ctx,hi,as,cur,h=>by
  obtain ⟨a,as',rfl,h2,h4,h5⟩:=h
  exact congrArg (· + 1) h5.lens
theorem pile_len {A0:Nat}:∀ {as:List Nat}{ctx:Ctx},as.length=ctx.length->(pileV A0 as ctx).length=ctx.length+1
 | [],[],_=>rfl
 | a::as,(kd,p)::ctx,h=>by
  show (pileV A0 as ctx++[ent (mkV kd) a]).length=ctx.length+1+1
  rw [List.length_append,pile_len (Nat.succ.inj h)];rfl
structure BSt (H0:Heap) (as:List Nat) (cur:List T) (ctx:Ctx) (H:Heap):Prop where
 len:H0.length+2<=H.length
 old:Eqv H0 H 0 H0.length
 pile:H[H0.length+1]? = some (pileV H0.length as ctx)
 lv:BL H H0.length H.length as cur ctx
theorem BSt.upd {H0 as cur ctx H}{cur':List T}{l':List V}(h:BSt H0 as cur ctx H) (hl:Reps H (encs cur') (from1 H0.length as) H.length l'):BSt H0 as cur' ctx (H.set (here H0.length as) l'):=by
 have hh:=h.lv.head
 have hle:=hl.le
 have hA:H0.length<=here H0.length as:=by rcases hh.2.1 with q | q<;>lia
 have hlt:=Nat.lt_of_lt_of_le hh.2.2 hle
 have hat:At1 (H.set (here H0.length as) l') cur' (here H0.length as) (from1 H0.length as) H.length:=⟨l',List.getElem?_set_self hlt,hl.to (Eqv.set (Or.inl hh.2.2))⟩
 refine ⟨by rw [List.length_set];exact h.len,h.old.trans (Eqv.set (Or.inr hA)),?_,?_⟩
 ·rw [List.getElem?_set_ne (by rcases hh.2.1 with q | q<;>lia)];exact h.pile
 ·rw [List.length_set]
  have hlv:=h.lv
  cases ctx with
  | nil=>obtain ⟨rfl,_⟩:=hlv;exact ⟨rfl,hat⟩
  | cons x ctx =>
   obtain ⟨a,as',rfl,h2,h4,h5⟩:=hlv
   exact ⟨a,as',rfl,h2,hat,h5.to (List.getElem?_set_ne (by show a≠H0.length;lia)) (Eqv.set (Or.inr (Nat.le_refl _)))⟩
theorem BSt.grow {H0 as cur ctx H G}(h:BSt H0 as cur ctx H) (g:Grow H G):BSt H0 as cur ctx G :=
 ⟨Nat.le_trans h.len g.len,h.old.trans (g.old.sub (Nat.le_refl _) (Nat.le_trans (Nat.le_add_right _ _) h.len)),g.get h.pile,(h.lv.to (g.old _ (Nat.zero_le _) (by have:=h.len;lia)) (g.old.sub (Nat.zero_le _) (Nat.le_refl _))).up g.len⟩
theorem BSt.push {H0 as cur ctx H}{kd:Option Nat}(h:BSt H0 as cur ctx H):BSt H0 (H.length::as) [] ((kd,cur)::ctx) ((H++[[]]).set (H0.length+1) (pileV H0.length as ctx++[ent (mkV kd) H.length])):=by
 have hlen:=h.len
 have e1:Eqv H (H++[[]]) 0 H.length:=Eqv.one (Nat.le_refl _)
 refine ⟨by rw [List.length_set,len1];lia,(h.old.trans (e1.sub (Nat.le_refl _) (by lia))).trans (Eqv.set (Or.inr (Nat.le_succ _))),List.getElem?_set_self (by rw [len1];lia),?_⟩
 rw [List.length_set,len1]
 refine ⟨H.length,as,rfl,hlen,⟨[],?_,.nil (Nat.le_refl _)⟩,h.lv.to ?_ ((e1.sub (Nat.zero_le _) (Nat.le_refl _)).trans (Eqv.set (Or.inl (Nat.lt_succ_self _))))⟩
 ·rw [List.getElem?_set_ne (by lia)];exact g_last
 ·rw [List.getElem?_set_ne (by lia)];exact e1 _ (Nat.zero_le _) (by lia)
theorem BSt.pop {H0 a as cur kd p ctx H}(h:BSt H0 (a::as) cur ((kd,p)::ctx) H) :
  BSt H0 as p ctx (H.set (H0.length+1) (pileV H0.length as ctx))/\BL (H.set (H0.length+1) (pileV H0.length as ctx)) H0.length a as p ctx/\At1 (H.set (H0.length+1) (pileV H0.length as ctx)) cur a (a+1) (H.set (H0.length+1) (pileV H0.length as ctx)).length:=by
 obtain ⟨_,_,e,h2,h4,h5⟩:=h.lv
 cases e
 have hle:=h4.le
 have ev:∀ {hi:Nat},Eqv H (H.set (H0.length+1) (pileV H0.length as ctx)) (H0.length+2) hi:=Eqv.set (Or.inl (Nat.lt_succ_self _))
 have hlv:=h5.to (List.getElem?_set_ne (Nat.ne_of_gt (Nat.lt_succ_self _))) ev
 refine ⟨⟨by rw [List.length_set];exact h.len,h.old.trans (Eqv.set (Or.inr (Nat.le_succ _))),List.getElem?_set_self h.len,by rw [List.length_set];exact hlv.up (Nat.le_of_lt hle)⟩,hlv,?_⟩
 rw [List.length_set];exact h4.to (List.getElem?_set_ne (by lia)) (ev.sub (by lia) (Nat.le_refl _))
theorem BSt.shut {H0 a as cur kd p ctx H}(h:BSt H0 (a::as) cur ((kd,p)::ctx) H) {t:T}{v:V}
  (ht:∀ G,At1 G cur a (a+1) G.length->Rep G (enc t) a G.length v):∃ l,(H.set (H0.length+1) (pileV H0.length as ctx))[here H0.length as]? = some l/\l.length=p.length/\BSt H0 as (p++[t]) ctx ((H.set (H0.length+1) (pileV H0.length as ctx)).set (here H0.length as) (l++[v])):=by
 obtain ⟨h1,h2,h3⟩:=h.pop
 obtain ⟨l,g1,g2⟩:=h2.head.1
 exact ⟨l,g1,by rw [g2.len,encs_len],h1.upd (g2.addT (Nat.le_of_lt h3.le) (ht _ h3))⟩
noncomputable def signs:List Nat:=[32,33,34,35,36,38,39,40,41,42,43,44,45,46,47,48,49,50,51,52,53,54,55,56,57,58,59,60,61,62,63,64,65,66,67,68,69,70,71,72,73,74,75,76,77,78,79,80,81,82,83,84,85,86,87,88,89,90,91,92,93,94,95,96,97,98,99,100,101,102,103,104,105,106,107,108,109,110,111,112,113,114,115,116,117,118,119,120,121,122,123,124,125,126]
theorem signs_sg:∀ c∈signs,sgB c=true:=by decide
theorem signs_ok {n:Nat}{H:Heap}(Q:PostV) (h:Q (.str signs) H):callN P (n+1) "_law_signs" [] Q H:=in_law_signs (s_assign (fun _ h=>h) (s_ret (v_bin (fun _ h=>h) (fun _ h=>h) (o_addS (by decide))) h))
noncomputable def sg (i:Int):Nat:=(signs[i.toNat]?).getD 32
theorem sg_sg (i:Int):sgB (sg i)=true:=by
 unfold sg
 cases h:signs[i.toNat]? with
 | none=>rfl
 | some c=>exact signs_sg c (List.mem_of_getElem? h)
theorem in94 (x:Int):0<=x % 94/\x % 94<94:=⟨Int.emod_nonneg _ (by decide),Int.emod_lt_of_pos _ (by decide)⟩
theorem i_sg {i:Int}(h:0<=i/\i<94) {H:Heap}:idxV (.str signs) (.int i) H=some (.str [sg i]):=by
 have e:i=(i.toNat:Int):=(Int.toNat_of_nonneg h.1).symm
 have hl:i.toNat<signs.length:=(Int.toNat_lt h.1).mpr h.2
 have hg:signs[i.toNat]? = some (sg i):=by unfold sg;rw [List.getElem?_eq_getElem hl];rfl
 have:=i_str (H:=H) hg
 rw [<- e] at this
 exact this
noncomputable def sizeN (n:Int):Int:=if n % 3=1 then n / 3 % 49 else n / 3 % 7
theorem sizeN_in (n:Int):0<=sizeN n/\sizeN n<49:=by
 unfold sizeN;split
 ·exact ⟨Int.emod_nonneg _ (by decide),Int.emod_lt_of_pos _ (by decide)⟩
 ·exact ⟨Int.emod_nonneg _ (by decide),Int.lt_trans (Int.emod_lt_of_pos _ (by decide)) (by decide)⟩
theorem size_ok {n:Nat}{k:Int}{H:Heap}(Q:PostV) (h:Q (.int (sizeN k)) H):callN P (n+1) "_law_size" [.int k] Q H:=by
 refine in_law_size ?_
 unfold sizeN at h
 by_cases hk:k % 3=1
 ·rw [if_pos hk] at h
  exact s_iteT (v_b (v_cmp (v_bin (fun _ h=>h) (fun _ h=>h) (o_mod (by decide))) (fun _ h=>h) rfl) (by rw [hk];rfl)) (s_ret (v_bin (v_bin (fun _ h=>h) (fun _ h=>h) (o_fdiv (by decide))) (fun _ h=>h) (o_mod (by decide))) h)
 ·rw [if_neg hk] at h
  exact s_skip (v_b (v_cmp (v_bin (fun _ h=>h) (fun _ h=>h) (o_mod (by decide))) (fun _ h=>h) rfl) (beq_eq_false_iff_ne.mpr hk)) (s_ret (v_bin (v_bin (fun _ h=>h) (fun _ h=>h) (o_fdiv (by decide))) (fun _ h=>h) (o_mod (by decide))) h)
theorem pick_ok {n:Nat}{ρ:Env}{H:Heap}{o x:E}{z i m:Int}(hm:0<m) (hi:0<=i/\i<1000) (ho:Ev (callN P (n+1)) ρ H o (.int z)) (hx:Ev (callN P (n+1)) ρ H x (.int i)) :
  Ev (callN P (n+1)) ρ H (.idx (.call "_law_signs" []) (.bin .mod (.bin .add o (.bin .mul x (.bin .add (.int 1) (.bin .mod (.bin .fdiv o (.int 94)) (.int m))))) (.int 94))) (.str [sg ((z+i * (1+z / 94 % m)) % 94)]) :=
 v_idx (v_call (fun _ h=>h) signs_ok) (v_bin (v_bin ho (v_bin hx (v_bin v_int (v_bin (v_bin ho v_int (o_fdiv (by decide))) v_int (o_mod hm)) o_addI) (o_mulI (Or.inl (by lia)))) o_addI) v_int (o_mod (by decide))) (i_sg (in94 _))
structure WZ where
 w:List Nat
 e:Option V
theorem Sg.app {a b:List Nat}(h:Sg a) (k:Sg b):Sg (a++b):=fun c hc=>by
 rcases List.mem_append.mp hc with q | q
 ·exact h c q
 ·exact k c q
theorem Sg.one {c:Nat}(h:sgB c=true):Sg [c]:=fun d hd=>by rw [List.mem_singleton.mp hd];exact h
noncomputable def wordsF (k m:Int) (x:Nat):List Nat:=replace1 ((List.range m.toNat).map fun i:Nat=>sg ((k+(i:Int) * (1+k / 94 % 5)) % 94)) x 120
theorem wordsF_ok {k m:Int}{x:Nat}(hx:x≠120) (hm:0<=m/\m<49):Sg (wordsF k m x)/\(∀ c∈wordsF k m x,c≠x)/\(wordsF k m x).length<=50:=by
 unfold wordsF replace1
 refine ⟨fun c q=>?_,fun c q=>?_,by rw [List.length_map,List.length_map,List.length_range];exact Nat.le_trans (Int.toNat_le.mpr (Int.le_of_lt hm.2)) (by decide)⟩
 ·obtain ⟨y,hy,rfl⟩:=List.mem_map.mp q
  by_cases hyx:y=x
  ·rw [if_pos hyx];rfl
  ·rw [if_neg hyx]
   obtain ⟨i,_,rfl⟩:=List.mem_map.mp hy
   exact sg_sg _
 ·obtain ⟨y,hy,rfl⟩:=List.mem_map.mp q
  by_cases hyx:y=x
  ·rw [if_pos hyx];exact Ne.symm hx
  ·rw [if_neg hyx];exact hyx
theorem words_ok {n x:Nat}{k m:Int}{H:Heap}(hx:x≠120) (hm:0<=m/\m<49) (Q:PostV) (h:Q (.str (wordsF k m x)) H):callN P (n+2) "_law_words" [.int k,.int m,.str [x]] Q H:=by
 have hlim:lim=16777216:=rfl
 obtain ⟨sz,rfl⟩:=Int.eq_ofNat_of_zero_le hm.1
 have hsz:sz<=49:=Nat.le_of_lt (Int.ofNat_lt.mp hm.2)
 refine in_law_words (s_assign (fun _ h=>h) (ss_cons (l_forR (σ:=WZ) (fun z=>[some (.int k),some (.int (sz:Int)),some (.str [x]),some (.str z.w),z.e]) (fun i z G=>G=H/\z.w=(List.range i).map fun i:Nat=>sg ((k+(i:Int) * (1+k / 94 % 5)) % 94)) (n:=sz) (Nat.lt_of_le_of_lt hsz (by decide)) (fun i z G hi hI K hK=>?_) (fun z G hI=>?_) ⟨[],none⟩ (fun _ h=>h) ⟨rfl,rfl⟩)))
 ·obtain ⟨rfl,hw⟩:=hI
  have hwl:z.w.length=i:=by rw [hw,List.length_map,List.length_range]
  refine s_assign (v_bin (fun _ h=>h) (pick_ok (i:=(i:Int)) (by decide) ⟨Int.natCast_nonneg _,Int.ofNat_lt.mpr (Nat.lt_of_lt_of_le hi (Nat.le_trans hsz (by decide)))⟩ (by exact fun _ h=>h) (by exact fun _ h=>h)) (o_addS ?_)) (hK ⟨_,_⟩ _ ⟨rfl,?_⟩)
  ·rw [hwl];exact Nat.le_trans hi (Nat.le_trans hsz (by show 49<=16777216;decide))
  ·rw [List.range_succ,List.map_append,hw];rfl
 ·obtain ⟨rfl,hw⟩:=hI
  have hwl:z.w.length=sz:=by rw [hw,List.length_map,List.length_range]
  refine ss_ret (e_replace (e_var rfl ⟨z.w,rfl,e_var rfl (e_str ⟨hx,by rw [hwl];exact Nat.le_trans hsz (by decide),?_⟩)⟩) (monoCall _ _))
  rw [hw]
  exact h
noncomputable def lastOpen (row:List Nat):Bool:=match row.getLast? with
 | some c=>[42,95,126].contains c
 | none=>false
theorem slice_last (row:List Nat):slice row (some (-1)) none=row.drop (row.length - 1):=by
 unfold slice hiOf loOf clamp
 simp only
 rw [if_pos (by decide),List.take_length]
 congr 1;lia
theorem in_three {H:Heap}{s:List Nat}(hs:Sg s):cmpV .isin (.str s) (.tup [.str [42],.str [95],.str [126]]) H=some ([[42],[95],[126]].contains s):=by
 have e1:rd H eqDeep (.str s)=some (.str s):=if_pos (List.all_eq_true.mpr fun c hc=>decide_eq_true (sg_lt hs c hc))
 show memV _ _ H=_
 unfold memV
 rw [e1]
 show some ([D.str [42],D.str [95],D.str [126]].any fun y=>eqD y (.str s))=_
 have q:∀ a:List Nat,eqD (.str a) (.str s)=(s==a):=fun a=>by
  show (a==s)=(s==a)
  rw [Bool.eq_iff_iff,beq_iff_eq,beq_iff_eq]
  exact ⟨Eq.symm,Eq.symm⟩
 simp only [List.any_cons,List.any_nil,q,List.contains_cons,List.contains_nil]
theorem last3 (row:List Nat):[[42],[95],[126]].contains (row.drop (row.length - 1))=lastOpen row:=by
 unfold lastOpen
 rcases List.eq_nil_or_concat row with rfl | ⟨r,c,rfl⟩
 ·rfl
 ·have:(r++[c]).drop ((r++[c]).length - 1)=[c]:=by simp
  rw [List.concat_eq_append,this]
  simp
structure PB (deep:Nat) (mk:List Nat) (bar:Bool) (s:List Nat):Prop where
 sg:Sg s
 all:∀ c∈s,c≠92/\c≠96/\(mk.length=2->c≠41)/\(mk=[91]->c≠93)/\(deep<12->c≠91)
 pair:deep<12->∀ a b c,s=a++c::40::b->[42,95,126].contains c=false
 bar:bar=true->s.take 1≠[40]
theorem PB.nil {deep mk bar}:PB deep mk bar []:=⟨fun c h=>(nomatch h),fun c h=>(nomatch h),fun _ a b c h=>absurd h (by simp),fun _=>by simp⟩
theorem PB.add {deep mk bar}{s:List Nat}{c:Nat}(h:PB deep mk bar s) (h0:sgB c=true) (h1:c≠92/\c≠96/\(mk.length=2->c≠41)/\(mk=[91]->c≠93)/\(deep<12->c≠91)) (h2:deep<12->c=40->lastOpen s=false) (h3:bar=true->s=[]->c≠40):PB deep mk bar (s++[c]):=by
 refine ⟨h.sg.app (.one h0),fun x hx=>?_,fun hd a b x e=>?_,fun hb=>?_⟩
 ·rcases List.mem_append.mp hx with q | q
  ·exact h.all x q
  ·rw [List.mem_singleton.mp q];exact h1
 ·rcases List.eq_nil_or_concat b with rfl | ⟨b',y,rfl⟩
  ·have e':s++[c]=(a++[x])++[40]:=by rw [e];simp
   obtain ⟨e1,e2⟩:=List.append_inj' e' rfl
   have:=h2 hd (List.cons.inj e2).1
   subst e1
   unfold lastOpen at this
   simpa using this
  ·have e':s++[c]=(a++x::40::b')++[y]:=by rw [e];simp
   obtain ⟨e1,_⟩:=List.append_inj' e' rfl
   exact h.pair hd a b' x e1
 ·cases s with
  | nil=>simpa using h3 hb rfl
  | cons y s=>exact h.bar hb
theorem s_pick {C:Calls}{ρ:Env}{H:Heap}{R:PostS}{ss:List S}{e:E}{x c d:Nat}{b:Bool}(he:Ev C ρ H e (.bool b)) (hx:ρ.set x (some (.str [c]))=ρ) (k:wpSs C ss (ρ.set x (some (.str [bif b then d else c]))) R H):wpSs C (.ite e [.assign x (.str [d])] []::ss) ρ R H:=by
 cases b with
 | true=>exact s_iteT he (s_assign (fun _ h=>h) k)
 | false=>rw [show (bif false then d else c)=c from rfl,hx] at k;exact s_skip he k
structure QZ where
 w:List Nat
 e6:Option V
 e7:Option V
noncomputable def bad1 (mk:List Nat) (c:Nat):Bool:=[92,96].contains c||((mk==[91]&&[c]==[93])||((mk.length:Int)==2&&[c]==[41]))
noncomputable def bad2 (deep:Nat) (w:List Nat) (c:Nat):Bool:=decide ((deep:Int)<12)&&([c]==[91]||([c]==[40]&&lastOpen w))
noncomputable def bad3 (bar:Bool) (i c:Nat):Bool:=bar&&((i:Int)==0&&[c]==[40])
noncomputable def turn (deep:Nat) (mk:List Nat) (bar:Bool) (w:List Nat) (i c:Nat):Nat :=
 let c1:=bif bad1 mk c then 109 else c
 let c2:=bif bad2 deep w c1 then 110 else c1
 bif bad3 bar i c2 then 111 else c2
theorem turn_ok {deep:Nat}{mk:List Nat}{bar:Bool}{w:List Nat}{c:Nat}(h:PB deep mk bar w) (hc:sgB c=true):PB deep mk bar (w++[turn deep mk bar w w.length c]):=by
 have a1:∀ c1:Nat,c1=(bif bad1 mk c then 109 else c)->sgB c1=true/\c1≠92/\c1≠96/\(mk.length=2->c1≠41)/\(mk=[91]->c1≠93):=fun c1 e=>by
  cases hb:bad1 mk c with
  | true=>rw [hb] at e;replace e:c1=109:=e;subst e;exact ⟨rfl,by decide,by decide,fun _=>by decide,fun _=>by decide⟩
  | false =>
   rw [hb] at e;subst e
   unfold bad1 at hb
   simp only [Bool.or_eq_false_iff] at hb
   refine ⟨hc,?_,?_,fun hm q=>?_,fun hm q=>?_⟩
   ·intro q;subst q;simp at hb
   ·intro q;subst q;simp at hb
   ·subst q
    have:=hb.2.2
    rw [hm] at this
    simp at this
   ·subst q
    have:=hb.2.1
    rw [hm] at this
    simp at this
 have a2:∀ c1 c2:Nat,(sgB c1=true/\c1≠92/\c1≠96/\(mk.length=2->c1≠41)/\(mk=[91]->c1≠93))->c2=(bif bad2 deep w c1 then 110 else c1)->(sgB c2=true/\c2≠92/\c2≠96/\(mk.length=2->c2≠41)/\(mk=[91]->c2≠93)/\(deep<12->c2≠91))/\(deep<12->c2=40->lastOpen w=false):=fun c1 c2 h1 e=>by
  cases hb:bad2 deep w c1 with
  | true=>rw [hb] at e;replace e:c2=110:=e;subst e;exact ⟨⟨rfl,by decide,by decide,fun _=>by decide,fun _=>by decide,fun _=>by decide⟩,fun _ q=>by cases q⟩
  | false =>
   rw [hb] at e;subst e
   unfold bad2 at hb
   refine ⟨⟨h1.1,h1.2.1,h1.2.2.1,h1.2.2.2.1,h1.2.2.2.2,fun hd q=>?_⟩,fun hd q=>?_⟩
   ·subst q
    rw [decide_eq_true (show (deep:Int)<12 by lia)] at hb
    simp at hb
   ·subst q
    rw [decide_eq_true (show (deep:Int)<12 by lia)] at hb
    simpa using hb
 unfold turn
 generalize e1:(bif bad1 mk c then 109 else c)=c1
 dsimp only
 generalize e2:(bif bad2 deep w c1 then 110 else c1)=c2
 obtain ⟨h2,h3⟩:=a2 c1 c2 (a1 c1 e1.symm) e2.symm
 cases hb:bad3 bar w.length c2 with
 | true=>show PB deep mk bar (w++[111]);exact h.add rfl ⟨by decide,by decide,fun _=>by decide,fun _=>by decide,fun _=>by decide⟩ (fun _ q=>by cases q) fun _ _=>by decide
 | false =>
  refine h.add h2.1 h2.2 h3 fun hbar hw q=>?_
  unfold bad3 at hb
  subst q
  subst hw
  rw [hbar] at hb
  simp at hb
noncomputable def plainP (k:Int) (deep:Nat) (mk:List Nat) (bar:Bool):Nat->List Nat
 | 0=>[]
 | i+1=>plainP k deep mk bar i++[turn deep mk bar (plainP k deep mk bar i) i (sg ((k+(i:Int) * (1+k / 94 % 7)) % 94))]
noncomputable def plainF (k:Int) (sz deep:Nat) (mk:List Nat) (bar:Bool):List Nat:=bif (deep:Int)==12&&k % 2==0 then plainP k deep mk bar sz++[42,40,91,95,40,126,40] else plainP k deep mk bar sz
theorem plain_made {n:Nat}{k:Int}{sz deep:Nat}{mk:List Nat}{bar:Bool}{H:Heap}(hsz:1<=sz/\sz<=50) (hd:deep<=12) (Q:PostV) (h:∀ t,t=plainF k sz deep mk bar->PB deep mk bar t->t≠[]->t.length<=60->Q (.str t) H) :
  callN P (n+2) "_law_plain" [.int k,.int (sz:Int),.str mk,.int (deep:Nat),.bool bar] Q H:=by
 have hlim:lim=16777216:=rfl
 refine in_law_plain (s_assign (fun _ h=>h) (ss_cons (l_forR (σ:=QZ) (fun z=>[some (.int k),some (.int (sz:Int)),some (.str mk),some (.int (deep:Nat)),some (.bool bar),some (.str z.w),z.e6,z.e7]) (fun i z G=>G=H/\z.w.length=i/\PB deep mk bar z.w/\z.w=plainP k deep mk bar i) (n:=sz) (Nat.lt_of_le_of_lt hsz.2 (by decide)) (fun i z G hi hI K hK=>?_) (fun z G hI=>?_) ⟨[],none,none⟩ (fun _ h=>h) ⟨rfl,rfl,.nil,rfl⟩)))
 ·obtain ⟨rfl,hw,hpb,hz⟩:=hI
  refine s_assign (pick_ok (i:=(i:Int)) (by decide) ⟨Int.natCast_nonneg _,Int.ofNat_lt.mpr (Nat.lt_of_lt_of_le hi (Nat.le_trans hsz.2 (by decide)))⟩ (by exact fun _ h=>h) (by exact fun _ h=>h)) ?_
  have hc:=sg_sg ((k+(i:Int) * (1+k / 94 % 7)) % 94)
  have hpp:plainP k deep mk bar (i+1)=z.w++[turn deep mk bar z.w i (sg ((k+(i:Int) * (1+k / 94 % 7)) % 94))]:=by rw [hz];rfl
  generalize sg ((k+(i:Int) * (1+k / 94 % 7)) % 94)=c at hc hpp
  have hwl:Sg (z.w.drop (z.w.length - 1)):=hpb.sg.drop
  have ht:=turn_ok hpb hc
  rw [hw] at ht
  refine s_pick (c:=c) (b:=bad1 mk c) (v_or2 (v_cmp (fun _ h=>h) (fun _ h=>h) o_inS) fun _=>v_or2 (v_and2 (v_cmp (fun _ h=>h) (fun _ h=>h) o_eqS) fun _=>v_and1 (v_cmp (fun _ h=>h) (fun _ h=>h) o_eqS)) fun _=>v_or1 (v_and2 (v_cmp (fun _ h=>h) (fun _ h=>h) o_eqI) fun _=>v_and1 (v_cmp (fun _ h=>h) (fun _ h=>h) o_eqS))) rfl ?_
  refine s_pick (c:=bif bad1 mk c then 109 else c) (b:=bad2 deep z.w (bif bad1 mk c then 109 else c)) (v_and2 (v_cmp (fun _ h=>h) (fun _ h=>h) o_lt) fun _=>v_and1 (v_or2 (v_cmp (fun _ h=>h) (fun _ h=>h) o_eqS) fun _=>v_or1 (v_and2 (v_cmp (fun _ h=>h) (fun _ h=>h) o_eqS) fun _=>v_and1 (v_b (v_cmp (v_e (fun _ h=>h) (congrArg V.str (slice_last z.w))) (fun _ h=>h) (in_three hwl)) (last3 z.w))))) rfl ?_
  refine s_pick (c:=bif bad2 deep z.w (bif bad1 mk c then 109 else c) then 110 else (bif bad1 mk c then 109 else c)) (b:=bad3 bar i (bif bad2 deep z.w (bif bad1 mk c then 109 else c) then 110 else (bif bad1 mk c then 109 else c))) (v_and2 (fun _ h=>h) fun _=>v_and2 (v_cmp (fun _ h=>h) (fun _ h=>h) o_eqI) fun _=>v_and1 (v_cmp (fun _ h=>h) (fun _ h=>h) o_eqS)) rfl ?_
  refine s_assign (v_bin (fun _ h=>h) (fun _ h=>h) (o_addS ?_)) (hK ⟨_,_,_⟩ _ ⟨rfl,?_,ht,hpp.symm⟩)
  ·rw [hw];exact Nat.le_trans hi (Nat.le_trans hsz.2 (by show 50<=16777216;decide))
  ·rw [List.length_append,hw];rfl
 ·obtain ⟨rfl,hw,hpb,hz⟩:=hI
  have hne:z.w≠[]:=fun q=>by rw [q] at hw;exact absurd hw (Nat.ne_of_lt hsz.1)
  have ev:∀ {C:Calls},Ev C [some (.int k),some (.int (sz:Int)),some (.str mk),some (.int (deep:Nat)),some (.bool bar),some (.str z.w),z.e6,z.e7] G (.and [.cmp .eq (.var 3) (.int 12),.cmp .eq (.bin .mod (.var 0) (.int 2)) (.int 0)]) (.bool ((deep:Int)==12&&k % 2==0)):=v_and2 (v_cmp (fun _ h=>h) (fun _ h=>h) o_eqI) fun _=>v_and1 (v_cmp (v_bin (fun _ h=>h) (fun _ h=>h) (o_mod (by decide))) (fun _ h=>h) o_eqI)
  cases hb:((deep:Int)==12&&k % 2==0) with
  | false=>rw [hb] at ev;exact s_skip ev (s_ret (fun _ h=>h) (h _ (by unfold plainF;rw [hb,hz];rfl) hpb hne (by rw [hw];exact Nat.le_trans hsz.2 (by decide))))
  | true =>
   rw [hb] at ev
   have h12:¬ deep<12:=fun q=>by
    have:=beq_iff_eq.mp (Bool.and_eq_true_iff.mp hb).1
    lia
   refine s_iteT ev (s_assign (v_bin (fun _ h=>h) (fun _ h=>h) (o_addS (by rw [hw];exact Nat.le_trans (Nat.add_le_add_right hsz.2 7) (by show 50+7<=16777216;decide)))) (s_ret (ss:=[]) (fun _ h=>h) (h _ (by unfold plainF;rw [hb,hz];rfl) ⟨hpb.sg.app (by unfold Sg;decide),fun c q=>?_,fun hd=>absurd hd h12,fun q=>?_⟩ (fun q=>?_) (by rw [List.length_append,hw];exact Nat.le_trans (Nat.add_le_add_right hsz.2 7) (by decide)))))
   ·rcases List.mem_append.mp q with q | q
    ·exact hpb.all c q
    ·have:∀ c∈[42,40,91,95,40,126,40],c≠92/\c≠96/\c≠41/\c≠93:=by decide
     have:=this c q
     exact ⟨this.1,this.2.1,fun _=>this.2.2.1,fun _=>this.2.2.2,fun hd=>absurd hd h12⟩
   ·have:=hpb.bar q
    cases hy:z.w with
    | nil=>exact absurd hy hne
    | cons y r=>rw [hy] at this;exact this
   ·exact hne (List.append_eq_nil_iff.mp q).1
noncomputable def kdO:Option Nat->Kd
 | some _=>.sp
 | none=>.lb
noncomputable def GX:List T->Ctx->Prop
 | cur,[]=>Good 0 .top cur
 | cur,(kd,p)::ctx=>(Good (ctx.length+1) (kdO kd) cur/\ctx.length<12/\∀ c,kd=some c->[42,95,126].contains c=true)/\GX p ctx
theorem GX.good {cur:List T}:∀ {ctx:Ctx},GX cur ctx->Good ctx.length (kdOf ctx) cur
 | [],h=>h
 | (some _,p)::ctx,h=>h.1.1
 | (none,p)::ctx,h=>h.1.1
theorem GX.set {cur cur':List T}:∀ {ctx:Ctx},GX cur ctx->Good ctx.length (kdOf ctx) cur'->GX cur' ctx
 | [],_,h=>h
 | (some _,p)::ctx,h,k=>⟨⟨k,h.1.2⟩,h.2⟩
 | (none,p)::ctx,h,k=>⟨⟨k,h.1.2⟩,h.2⟩
theorem GX.deep {cur:List T}:∀ {ctx:Ctx},GX cur ctx->ctx.length<=12
 | [],_=>Nat.zero_le _
 | x::ctx,h=>h.1.2.1
theorem Good.len {deep:Nat}{kd:Kd}{ts:List T}(h:Good deep kd ts):ts.length<=(rowTs ts).length:=by
 have add:∀ {ts:List T}{t:T},ts.length<=(rowTs ts).length->1<=(rowT t).length->(ts++[t]).length<=(rowTs (ts++[t])).length:=fun {ts t} h1 h2=>by
  rw [rowTs_app,rowTs_one,List.length_append,List.length_append]
  exact Nat.add_le_add h1 h2
 induction h with
 | nil=>exact Nat.le_refl _
 | txt _ _ hp _ ih=>exact add ih (List.length_pos_iff.mpr hp.ne)
 | kept _ ih=>exact add ih (Nat.succ_le_succ (Nat.zero_le _))
 | code _ _ ih=>exact add ih (Nat.succ_le_succ (Nat.zero_le _))
 | span _ _ _ _ ih _=>exact add ih (Nat.succ_le_succ (Nat.zero_le _))
 | @link _ _ _ _ g _ _ _ _ ih _=>exact add ih (by cases g<;>exact Nat.succ_le_succ (Nat.zero_le _))
noncomputable def endF (kd:Option Nat) (ts:List T) (k:Int) (b:Bool):T:=match kd with
 | some c=>.span c ts b
 | none=>bif b&&decide (0<k % 3) then .link ts (some (wordsF (k / 3) (sizeN (k / 300)) 41)) true else .link ts none b
structure EndT (kd:Option Nat) (ts:List T) (k:Int) (b:Bool) (t:T) (tail:List Nat):Prop where
 eq:t=endF kd ts k b
 row:rowT t=openR kd++rowTs ts++tail
 sg:Sg tail
 len:tail.length<=54
 form:(∃ c,kd=some c/\t=.span c ts b)∨(kd=none/\(t=.link ts none b∨(b=true/\∃ g,(∀ c∈g,c≠41)/\t=.link ts (some g) true)))
noncomputable def mkC:Ctx->List Nat
 | []=>[]
 | (kd,_)::_=>mkV kd
theorem pile_last {A0:Nat}:∀ {as:List Nat}{ctx:Ctx},as.length=ctx.length->∃ r,pileV A0 as ctx=r++[ent (mkC ctx) (here A0 as)]
 | [],[],_=>⟨[],rfl⟩
 | a::as,(kd,p)::ctx,h=>⟨pileV A0 as ctx,rfl⟩
theorem at1_span {G:Heap}{cur:List T}{a c:Nat}{b:Bool}(h:At1 G cur a (a+1) G.length):Rep G (enc (.span c cur b)) a G.length (spanV c a b):=by
 have hle:=h.le
 obtain ⟨l,h1,h2⟩:=h
 exact rep_span ⟨Nat.le_refl _,hle,Nat.le_succ _,Nat.le_refl _⟩ h1 h2
theorem at1_link {G:Heap}{cur:List T}{a:Nat}{g:Option (List Nat)}{b:Bool}(h:At1 G cur a (a+1) G.length):Rep G (enc (.link cur g b)) a G.length (linkV a g b):=by
 have hle:=h.le
 obtain ⟨l,h1,h2⟩:=h
 exact rep_link ⟨Nat.le_refl _,hle,Nat.le_succ _,Nat.le_refl _⟩ h1 h2
theorem s_appendE {C:Calls}{ρ:Env}{H:Heap}{R:PostS}{ss:List S}{o e:E}{a:Nat}(ho:Ev C ρ H o (.ref a)) (k:wpE C e ρ (fun v H₁=>hea (appendV (.ref a) v H₁) (fun _ H₂=>wpSs C ss ρ R H₂)) H):wpSs C (.expr (.append o e)::ss) ρ R H:=ho _ k
theorem end_ok {n a:Nat}{as:List Nat}{kd:Option Nat}{cur p:List T}{ctx:Ctx}{k:Int}{b:Bool}{Q:PostV}{H0 H:Heap}(h:BSt H0 (a::as) cur ((kd,p)::ctx) H) (hl:p.length<=1000000)
  (hQ:∀ t tail G,EndT kd cur k b t tail->BSt H0 as (p++[t]) ctx G->Q .none G):callN P (n+3) "_law_end" [.ref (H0.length+1),.int k,.bool b] Q H:=by
 have hlim:lim=16777216:=rfl
 obtain ⟨h1,h2,h3⟩:=h.pop
 obtain ⟨r,hr⟩:=pile_last (A0:=H0.length) h1.lv.lens
 have hp1:=h1.pile.trans (congrArg some hr)
 refine in_law_end (s_pop (fun _ h=>h) h.pile (s_assign (v_idx (v_idx (fun _ h=>h) (fun _ h=>h) (i_last hp1)) (fun _ h=>h) (c:=.ref (here H0.length as)) rfl) ?_))
 have fin:∀ {t:T}{v:V}{tail:List Nat}{R:PostS}{ρ:Env},(∀ G,Q .none G->R .next ρ G)->EndT kd cur k b t tail->(∀ G,At1 G cur a (a+1) G.length->Rep G (enc t) a G.length v)->∃ l,(H.set (H0.length+1) (pileV H0.length as ctx))[here H0.length as]? = some l/\l.length<lim/\R .next ρ ((H.set (H0.length+1) (pileV H0.length as ctx)).set (here H0.length as) (l++[v])):=fun {t v tail R ρ} hR ht hv=>by
  obtain ⟨l,g1,g2,g3⟩:=h.shut hv
  exact ⟨l,g1,by lia,hR _ (hQ t tail _ ht g3)⟩
 cases kd with
 | some c =>
  obtain ⟨l,g1,g2,g3⟩:=fin (tail:=if b then [41] else []) (R:=andThen (callN P (n+2)) [] (callQ Q)) (ρ:=[some (.ref (H0.length+1)),some (.int k),some (.bool b),some (ent [c,40] a),some (.ref (here H0.length as))]) (fun G q=>q) (t:=.span c cur b) (v:=spanV c a b) ⟨rfl,rfl,by cases b<;>(unfold Sg;decide),by cases b<;>decide,Or.inl ⟨c,rfl,rfl⟩⟩ fun G h=>at1_span h
  exact s_iteT (v_b (v_cmp (fun _ h=>h) (fun _ h=>h) o_neS) (by show (![c,40]==[91])=true;simp)) (s_append (fun _ h=>h) (fun _ h=>h) g1 g2 g3)
 | none =>
  refine s_iteF (fun _ h=>h) ?_
  have ev:∀ {C:Calls}{x4:Option V}{G:Heap},Ev C [some (.ref (H0.length+1)),some (.int k),some (.bool b),some (ent [91] a),x4] G (.and [.var 2,.cmp .gt (.bin .mod (.var 1) (.int 3)) (.int 0)]) (.bool (b&&decide (0<k % 3))):=v_and2 (fun _ h=>h) fun _=>v_and1 (v_cmp (v_bin (fun _ h=>h) (fun _ h=>h) (o_mod (by decide))) (fun _ h=>h) o_gt)
  cases hb:(b&&decide (0<k % 3)) with
  | true =>
   rw [hb] at ev
   have hbt:b=true:=(Bool.and_eq_true_iff.mp hb).1
   subst hbt
   refine s_iteT ev (s_appendE (a:=here H0.length as) (fun _ h=>h) (e_tup (es_ev (v:=.str [108,105,110,107]) (by exact fun _ h=>h) (es_ev (v:=.ref a) (by exact fun _ h=>h) (es_call (v_cons (v_bin (fun _ h=>h) (fun _ h=>h) (o_fdiv (by decide))) (v_cons (v_call (v_cons (v_bin (fun _ h=>h) (fun _ h=>h) (o_fdiv (by decide))) v_nil) size_ok) (v_cons (by exact fun _ h=>h) v_nil))) (words_ok (n:=n) (by decide) (sizeN_in _) _ (es_ev (v:=.bool true) (by exact fun _ h=>h) (es_nil ?_))))))))
   obtain ⟨hg1,hg2,hg3⟩:=wordsF_ok (k:=k / 3) (m:=sizeN (k / 300)) (x:=41) (by decide) (sizeN_in _)
   have heq:T.link cur (some (wordsF (k / 3) (sizeN (k / 300)) 41)) true=endF none cur k true:=by unfold endF;dsimp only;rw [hb];rfl
   generalize wordsF (k / 3) (sizeN (k / 300)) 41=g at hg1 hg2 hg3 heq
   obtain ⟨l,g1,g2,g3⟩:=fin (tail:=[93,40]++g++[41]) (R:=andThen (callN P (n+2)) [] (andThen (callN P (n+2)) [] (callQ Q))) (ρ:=[some (.ref (H0.length+1)),some (.int k),some (.bool true),some (ent [91] a),some (.ref (here H0.length as))]) (fun G q=>q) (t:=.link cur (some g) true) (v:=linkV a (some g) true) ⟨heq,by show [91]++rowTs cur++[93,40]++g++[41]=[91]++rowTs cur++([93,40]++g++[41]);simp only [List.append_assoc],(Sg.app (Sg.app (by unfold Sg;decide) hg1) (by unfold Sg;decide)),by rw [List.length_append,List.length_append];show 2+g.length+1<=54;lia,Or.inr ⟨rfl,Or.inr ⟨rfl,g,hg2,rfl⟩⟩⟩ fun G h=>at1_link h
   exact h_append g1 g2 g3
  | false =>
   rw [hb] at ev
   obtain ⟨l,g1,g2,g3⟩:=fin (tail:=if b then [93] else []) (R:=andThen (callN P (n+2)) [] (andThen (callN P (n+2)) [] (callQ Q))) (ρ:=[some (.ref (H0.length+1)),some (.int k),some (.bool b),some (ent [91] a),some (.ref (here H0.length as))]) (fun G q=>q) (t:=.link cur none b) (v:=linkV a none b) ⟨by unfold endF;dsimp only;rw [hb];rfl,rfl,by cases b<;>(unfold Sg;decide),by cases b<;>decide,Or.inr ⟨rfl,Or.inl rfl⟩⟩ fun G h=>at1_link h
   exact s_iteF ev (s_append (fun _ h=>h) (fun _ h=>h) g1 g2 g3)
noncomputable def barT:T->Bool
 | .link _ g _=>g.isNone
 | _=>false
noncomputable def barB (ts:List T):Bool:=match ts.getLast? with
 | some t=>barT t
 | none=>false
theorem barB_snoc {us:List T}{t:T}:barB (us++[t])=barT t:=by
 unfold barB;rw [List.getLast?_append];rfl
theorem barB_of {ts:List T}(h:Barred ts):barB ts=true:=by
 obtain ⟨us,vs,rfl⟩:=h;exact barB_snoc
noncomputable def txT:T->Bool
 | .txt _=>true
 | _=>false
noncomputable def isTx (ts:List T):Bool:=match ts.getLast? with
 | some t=>txT t
 | none=>false
theorem isTx_snoc {us:List T}{t:T}:isTx (us++[t])=txT t:=by
 unfold isTx;rw [List.getLast?_append];rfl
theorem noTx {ts:List T}(h:isTx ts=false):NoTxt ts:=by
 rintro us s rfl
 rw [isTx_snoc] at h
 cases h
theorem snoc_or {α:Type}(l:List α):l=[]∨∃ r x,l=r++[x]:=by
 rcases List.eq_nil_or_concat l with h | ⟨r,x,h⟩
 ·exact Or.inl h
 ·exact Or.inr ⟨r,x,by rw [h,List.concat_eq_append]⟩
theorem last_rep {H:Heap}{us:List T}{t:T}{lo hi:Nat}{l:List V}(h:Reps H (encs (us++[t])) lo hi l):∃ r v p,l=r++[v]/\Reps H (encs us) lo p r/\p<=hi/\Rep H (enc t) p hi v:=by
 rw [encs_app] at h
 obtain ⟨r,b,m,rfl,h1,h2⟩:=h.cut
 obtain ⟨v,b',m',rfl,h3,h4,h5,rfl⟩:=h2
 exact ⟨r,v,m,rfl,h1,Nat.le_trans h3 h5,h4.wide (Nat.le_refl _) h5⟩
theorem gt0 {C:Calls}{ρ:Env}{H:Heap}{e:E}{a:Nat}{r:List V}{v:V}(he:Ev C ρ H e (.ref a)) (ha:H[a]? = some (r++[v])):Ev C ρ H (.cmp .gt (.len e) (.int 0)) (.bool true) :=
 v_b (v_cmp (v_len he (o_lenR ha)) v_int o_gt) (decide_eq_true (by rw [List.length_append];show (0:Int)<((r.length+1:Nat):Int);lia))
theorem gt0n {C:Calls}{ρ:Env}{H:Heap}{e:E}{a:Nat}(he:Ev C ρ H e (.ref a)) (ha:H[a]? = some []):Ev C ρ H (.cmp .gt (.len e) (.int 0)) (.bool false) :=
 v_cmp (v_len he (o_lenR ha)) v_int o_gt
theorem v_andF {C:Calls}{ρ:Env}{H:Heap}{e f:E}{es:List E}(h1:Ev C ρ H e (.bool false)):Ev C ρ H (.and (e::f::es)) (.bool false):=v_and2 (b2:=true) h1 fun q=>nomatch q
theorem v_andT {C:Calls}{ρ:Env}{H:Heap}{e f:E}{es:List E}{b:Bool}(h1:Ev C ρ H e (.bool true)) (h2:Ev C ρ H (.and (f::es)) (.bool b)):Ev C ρ H (.and (e::f::es)) (.bool b):=v_and2 h1 fun _=>h2
theorem barred_ok {n a lo hi:Nat}{ts:List T}{l:List V}{H:Heap}(ha:H[a]? = some l) (hr:Reps H (encs ts) lo hi l) (hn:NoTxt ts) (Q:PostV) (h:Q (.bool (barB ts)) H):callN P (n+1) "_law_barred" [.ref a] Q H:=by
 refine in_law_barred ?_
 rcases snoc_or ts with rfl | ⟨us,t,rfl⟩
 ·obtain ⟨_,rfl⟩:=hr
  exact s_ret (v_andF (gt0n (fun _ h=>h) ha)) h
 ·obtain ⟨r,v,p,rfl,h1,h2,h3⟩:=last_rep hr
  rw [barB_snoc] at h
  have hl:∀ {C:Calls},Ev C [some (.ref a)] H (.idx (.var 0) (.neg 1)) v:=v_idx (fun _ h=>h) (fun _ h=>h) (i_last ha)
  have no:∀ {s:List Nat}{w:List V},v=.tup (.str s::w)->(s==[108,105,110,107])=false->Ev (callN P n) [some (.ref a)] H (.and [.cmp .gt (.len (.var 0)) (.int 0),.cmp .eq (.idx (.idx (.var 0) (.neg 1)) (.int 0)) (.str [108,105,110,107]),.is (.idx (.idx (.var 0) (.neg 1)) (.int 2)) .none]) (.bool false):=fun hv hs =>
   v_andT (gt0 (fun _ h=>h) ha) (v_andF (v_b (v_cmp (v_idx (v_e hl hv) v_int i_tup0) v_str o_eqS) hs))
  cases t with
  | txt s=>exact absurd rfl (hn us s)
  | kept s=>exact s_ret (no (un_kept h3) rfl) h
  | code s b=>exact s_ret (no (un_code h3) rfl) h
  | span c vs b=>obtain ⟨b',e,_⟩:=un_span h3;exact s_ret (no e rfl) h
  | link vs g b =>
   obtain ⟨b',e,_⟩:=un_link h3
   subst e
   have h2':idxV (linkV b' g b) (.int 2) H=some (aV (gA g)):=by rfl
   refine s_ret (v_andT (gt0 (fun _ h=>h) ha) (v_andT (v_cmp (v_idx hl v_int i_tup0) v_str o_eqS) (v_and1 (v_b (v_is (v_idx hl v_int h2')) ?_)))) h
   cases g<;>rfl
theorem tx_ok {C:Calls}{a lo hi:Nat}{ts:List T}{l:List V}{H:Heap}{ρ:Env}{e:E}(he:Ev C ρ H e (.ref a)) (ha:H[a]? = some l) (hr:Reps H (encs ts) lo hi l) :
  Ev C ρ H (.and [.cmp .gt (.len e) (.int 0),.isinst (.idx e (.neg 1)) .str]) (.bool (isTx ts)):=by
 rcases snoc_or ts with rfl | ⟨us,t,rfl⟩
 ·obtain ⟨_,rfl⟩:=hr
  exact v_andF (gt0n he ha)
 ·obtain ⟨r,v,p,rfl,h1,h2,h3⟩:=last_rep hr
  rw [isTx_snoc]
  refine v_andT (gt0 he ha) (v_and1 (v_b (v_inst (v_idx he v_neg (i_last ha))) ?_))
  cases t with
  | txt s=>obtain rfl:v=.str s:=h3;rfl
  | kept s=>rw [un_kept h3];rfl
  | code s b=>rw [un_code h3];rfl
  | span c vs b=>obtain ⟨b',e,_⟩:=un_span h3;rw [e];rfl
  | link vs g b=>obtain ⟨b',e,_⟩:=un_link h3;rw [e];rfl
structure BG (H0:Heap) (as:List Nat) (cur:List T) (ctx:Ctx) (H:Heap) (N:Nat):Prop where
 st:BSt H0 as cur ctx H
 gx:GX cur ctx
 sg:Sg (rowC ctx cur)
 len:(rowC ctx cur).length<=N
theorem rowC_le:∀ (ctx:Ctx) (cur:List T),(rowTs cur).length<=(rowC ctx cur).length
 | [],cur=>Nat.le_refl _
 | (kd,p)::ctx,cur=>by
  show _<=(rowC ctx p++openR kd++rowTs cur).length
  rw [List.length_append];exact Nat.le_add_left _ _
theorem BG.many {H0 as cur ctx H N}(h:BG H0 as cur ctx H N):cur.length<=N:=Nat.le_trans h.gx.good.len (Nat.le_trans (rowC_le _ _) h.len)
theorem BG.add {H0 as cur ctx H N}{t:T}{G:Heap}(h:BG H0 as cur ctx H N) (hs:BSt H0 as (cur++[t]) ctx G) (hg:Good ctx.length (kdOf ctx) (cur++[t])) (h1:Sg (rowT t)) (h2:(rowT t).length<=70):BG H0 as (cur++[t]) ctx G (N+80):=by
 refine ⟨hs,h.gx.set hg,?_,?_⟩
 ·rw [rowC_app,rowTs_one];exact h.sg.app h1
 ·rw [rowC_app,rowTs_one,List.length_append];have:=h.len;lia
theorem openR_sg {kd:Option Nat}(h:∀ c,kd=some c->[42,95,126].contains c=true):Sg (openR kd)/\(openR kd).length<=2:=by
 cases kd with
 | none=>exact ⟨by unfold Sg;decide,by decide⟩
 | some c =>
  have hc:=h c rfl
  refine ⟨fun d hd=>?_,Nat.le_refl _⟩
  have q:∀ c:Nat,[42,95,126].contains c=true->sgB c=true:=fun c hc=>by
   have:∀ c∈[42,95,126],sgB c=true:=by decide
   exact this c (List.contains_iff_mem.mp hc)
  rcases List.mem_cons.mp hd with rfl | hd
  ·exact q _ hc
  ·rw [List.mem_singleton.mp hd];rfl
theorem BG.open {H0 as cur ctx H N}{kd:Option Nat}{G:Heap}(h:BG H0 as cur ctx H N) (hs:BSt H0 (H.length::as) [] ((kd,cur)::ctx) G) (hd:ctx.length<12) (hk:∀ c,kd=some c->[42,95,126].contains c=true):BG H0 (H.length::as) [] ((kd,cur)::ctx) G (N+80):=by
 have ho:=openR_sg hk
 refine ⟨hs,⟨⟨.nil,hd,hk⟩,h.gx⟩,?_,?_⟩
 ·show Sg (rowC ctx cur++openR kd++[])
  rw [List.append_nil];exact h.sg.app ho.1
 ·show (rowC ctx cur++openR kd++[]).length<=_
  rw [List.append_nil,List.length_append];have:=h.len;lia
theorem end_good {deep:Nat}{k:Kd}{kd:Option Nat}{ts us:List T}{t:T}{tail:List Nat}{z:Int}(h:EndT kd us z true t tail) (hd:deep<12) (hk:∀ c,kd=some c->[42,95,126].contains c=true) (hg:Good deep k ts) (hu:Good (deep+1) (kdO kd) us):Good deep k (ts++[t]):=by
 rcases h.form with ⟨c,rfl,rfl⟩ | ⟨rfl,rfl | ⟨_,g,hg',rfl⟩⟩
 ·exact .span hg hd (hk c rfl) hu
 ·exact .link hg hd (fun s q=>nomatch q) hu
 ·exact .link hg hd (fun s q=>by cases q;exact hg') hu
theorem BG.shut {H0 a as cur kd p ctx H N}{t:T}{tail:List Nat}{z:Int}{G:Heap}(h:BG H0 (a::as) cur ((kd,p)::ctx) H N) (he:EndT kd cur z true t tail) (hs:BSt H0 as (p++[t]) ctx G):BG H0 as (p++[t]) ctx G (N+80):=by
 obtain ⟨h1,h2⟩:=h.gx
 have e:rowC ctx (p++[t])=rowC ((kd,p)::ctx) cur++tail:=by
  rw [rowC_app,rowTs_one,he.row]
  show _=rowC ctx p++openR kd++rowTs cur++tail
  simp only [List.append_assoc]
 refine ⟨hs,h2.set (end_good he h1.2.1 h1.2.2 h2.good h1.1),?_,?_⟩
 ·rw [e];exact h.sg.app he.sg
 ·rw [e,List.length_append];have:=h.len;have:=he.len;lia
theorem plain_in {ctx:Ctx}{t:List Nat}{b:Bool}(h:PB ctx.length (mkC ctx) b t) (hne:t≠[]):PlainIn ctx.length (kdOf ctx) t:=by
 have k1:(kdOf ctx=.sp->(mkC ctx).length=2)/\(kdOf ctx=.lb->mkC ctx=[91]):=by
  cases ctx with
  | nil=>exact ⟨fun q=>(nomatch q),fun q=>(nomatch q)⟩
  | cons x ctx =>
   obtain ⟨kd,p⟩:=x
   cases kd with
   | none=>exact ⟨fun q=>(nomatch q),fun _=>rfl⟩
   | some c=>exact ⟨fun _=>rfl,fun q=>(nomatch q)⟩
 exact ⟨hne,fun c hc=>⟨(h.all c hc).1,(h.all c hc).2.1,fun q=>(h.all c hc).2.2.1 (k1.1 q),fun q=>(h.all c hc).2.2.2.1 (k1.2 q),(h.all c hc).2.2.2.2⟩,h.pair⟩
theorem marks3 (z:Int):∃ c,slice (slice [42,40,95,40,126,40] (some (z % 3 * 2)) none) none (some 2)=[c,40]/\[42,95,126].contains c=true:=by
 have h:z % 3=0∨z % 3=1∨z % 3=2:=by lia
 rcases h with h | h | h<;>rw [h]
 ·exact ⟨42,by decide,rfl⟩
 ·exact ⟨95,by decide,rfl⟩
 ·exact ⟨126,by decide,rfl⟩
noncomputable def markF (k:Int):Nat:=((slice (slice [42,40,95,40,126,40] (some (k % 3 * 2)) none) none (some 2)).head?).getD 42
noncomputable def putG (cur:List T) (ctx:Ctx) (m9 k:Int):List T×Ctx :=
 bif decide (m9<3)&&!isTx cur then (cur++[.txt (plainF k (1+sizeN (k / 700)).toNat ctx.length (mkC ctx) (barB cur))],ctx)
 else bif m9==4 then (cur++[.code (wordsF k (sizeN (k / 500)) 96) true],ctx)
 else bif m9==5&&decide ((ctx.length:Int)<12) then ([],(some (markF k),cur)::ctx)
 else bif (m9==6||m9==7)&&decide ((ctx.length:Int)<12) then ([],(none,cur)::ctx)
 else bif m9==8&&decide (0<(ctx.length:Int)) then (match ctx with
  | (kd,p)::ctx'=>(p++[endF kd cur k true],ctx')
  | []=>(cur,[]))
 else (cur++[.kept [sg (k % 94)]],ctx)
noncomputable def putF (s:List T×Ctx) (c:Int):List T×Ctx:=putG s.1 s.2 (c * 48271 % 2147483647 % 9) (c * 48271 % 2147483647 / 9)
theorem lput_ok {n N:Nat}{as:List Nat}{cur:List T}{ctx:Ctx}{c:Int}{Q:PostV}{H0 H:Heap}(h:BG H0 as cur ctx H N) (hN:N<=100000)
  (hQ:∀ as' cur' ctx' G,putF (cur,ctx) c=(cur',ctx')->BG H0 as' cur' ctx' G (N+80)->Q .none G):callN P (n+4) "_law_put" [.ref (H0.length+1),.int c] Q H:=by
 have h1l:(100000:Nat)<lim:=by show 100000<16777216;decide
 obtain ⟨r,hr⟩:=pile_last (A0:=H0.length) h.st.lv.lens
 have hp:=h.st.pile.trans (congrArg some hr)
 have hel:(r++[ent (mkC ctx) (here H0.length as)]).length=ctx.length+1:=hr▸pile_len h.st.lv.lens
 obtain ⟨⟨l,g1,g2⟩,_,_⟩:=h.st.lv.head
 have hll:l.length<lim:=by rw [g2.len,encs_len];exact Nat.lt_of_le_of_lt (Nat.le_trans h.many hN) h1l
 have hd12:=h.gx.deep
 have hpf:putF (cur,ctx) c=putG cur ctx (c * 48271 % 2147483647 % 9) (c * 48271 % 2147483647 / 9):=rfl
 have cat:∀ {t:T}{v:V},putF (cur,ctx) c=(cur++[t],ctx)->Rep H (enc t) H.length H.length v->Good ctx.length (kdOf ctx) (cur++[t])->Sg (rowT t)->(rowT t).length<=70->Q .none (H.set (here H0.length as) (l++[v])):=fun he hv hg h1 h2 =>
  hQ _ _ _ _ he (h.add (h.st.upd (g2.addT (Nat.le_refl _) hv)) hg h1 h2)
 have hgd:=h.gx.good
 refine in_law_put (s_assign (v_bin (v_bin (fun _ h=>h) v_int (o_mulI (Or.inr (by decide)))) v_int (o_mod (by decide))) ?_)
 generalize c * 48271 % 2147483647=m at hpf
 refine s_assign (v_bin (fun _ h=>h) v_int (o_mod (by decide))) (s_assign (v_bin (fun _ h=>h) v_int (o_fdiv (by decide))) (s_assign (v_e (v_bin (v_len (fun _ h=>h) (o_lenR hp)) v_int o_subI) (v':=.int (ctx.length:Nat)) (congrArg V.int (by rw [hel];exact Int.add_sub_cancel (ctx.length:Int) 1))) (s_assign (v_idx (v_idx (fun _ h=>h) (fun _ h=>h) (i_last hp)) (fun _ h=>h) (c:=.ref (here H0.length as)) rfl) ?_)))
 generalize m % 9=m9 at hpf
 generalize m / 9=k at hpf
 refine s_ite (b:=decide (m9<3)&&!isTx cur) (v_and2 (v_cmp (fun _ h=>h) v_int o_lt) fun _=>v_and1 (v_not (tx_ok (fun _ h=>h) g1 g2))) (fun ht=>?_) (fun f1=>?_)
 ·have hn:NoTxt cur:=noTx (by have:=(Bool.and_eq_true_iff.mp ht).2;revert this;cases isTx cur<;>decide)
  obtain ⟨sz,hsz,hsz3⟩:∃ sz:Nat,(1+sizeN (k / 700)=(sz:Int)/\1<=sz/\sz<=50)/\(1+sizeN (k / 700)).toNat=sz:=⟨(1+sizeN (k / 700)).toNat,by have:=sizeN_in (k / 700);lia,rfl⟩
  refine s_assign (v_e (v_bin v_int (v_call (v_cons (v_bin (fun _ h=>h) v_int (o_fdiv (by decide))) v_nil) size_ok) o_addI) (congrArg V.int hsz.1)) (c_append (a:=here H0.length as) (by exact fun _ h=>h) (v_cons (by exact fun _ h=>h) (v_cons (by exact fun _ h=>h) (v_cons (v:=.str (mkC ctx)) (v_idx (v_idx (by exact fun _ h=>h) (by exact fun _ h=>h) (i_last hp)) v_int i_tup0) (v_cons (by exact fun _ h=>h) (v_cons (v_call (v_cons (by exact fun _ h=>h) v_nil) (barred_ok g1 g2 hn)) v_nil))))) (plain_made (n:=n+1) hsz.2 hd12 _ fun t het hpb hne hlen=>h_append g1 hll (cat (t:=.txt t) (by rw [hpf];unfold putG;rw [ht,hsz3,<- het];rfl) rfl (.txt hgd hn (plain_in hpb hne) fun hb=>hpb.bar (barB_of hb)) hpb.sg (Nat.le_trans hlen (by decide)))))
 refine s_ite (b:=m9==4) (v_cmp (fun _ h=>h) v_int o_eqI) (fun t2=>?_) (fun f2=>?_)
 ·refine s_appendE (a:=here H0.length as) (by exact fun _ h=>h) (e_tup (es_ev (v:=.str [99,111,100,101]) (by exact fun _ h=>h) (es_call (v_cons (by exact fun _ h=>h) (v_cons (v_call (v_cons (v_bin (fun _ h=>h) v_int (o_fdiv (by decide))) v_nil) size_ok) (v_cons (by exact fun _ h=>h) v_nil))) (words_ok (n:=n+1) (by decide) (sizeN_in _) _ (es_ev (v:=.bool true) (by exact fun _ h=>h) (es_nil ?_))))))
  obtain ⟨hg1,hg2,hg3⟩:=wordsF_ok (k:=k) (m:=sizeN (k / 500)) (x:=96) (by decide) (sizeN_in _)
  have heq:putF (cur,ctx) c=(cur++[.code (wordsF k (sizeN (k / 500)) 96) true],ctx):=by rw [hpf];unfold putG;rw [f1,t2];rfl
  generalize wordsF k (sizeN (k / 500)) 96=g at hg1 hg2 hg3 heq
  refine h_append g1 hll (cat (t:=.code g true) heq (rep_code (Nat.le_refl _)) (.code hgd hg2) (Sg.app (Sg.app (a:=[96]) (by unfold Sg;decide) hg1) (by unfold Sg;decide)) ?_)
  show ([96]++g++[96]).length<=70
  rw [List.length_append,List.length_append];exact Nat.le_trans (Nat.succ_le_succ (Nat.add_le_add_left hg3 1)) (by decide)
 have deep:∀ {b:Bool},(b&&decide ((ctx.length:Int)<12))=true->ctx.length<12:=fun q=>by
  exact Int.ofNat_lt.mp (of_decide_eq_true (Bool.and_eq_true_iff.mp q).2)
 have hp2:∀ x,(H++[x])[H0.length+1]? = some (pileV H0.length as ctx):=fun x=>by
  rw [List.getElem?_append_left h.st.len];exact h.st.pile
 have hpl:(pileV H0.length as ctx).length<lim:=by rw [pile_len h.st.lv.lens];exact Nat.lt_of_le_of_lt (Nat.le_trans (Nat.succ_le_succ hd12) (by decide)) h1l
 refine s_ite (b:=m9==5&&decide ((ctx.length:Int)<12)) (v_and2 (v_cmp (fun _ h=>h) v_int o_eqI) fun _=>v_and1 (v_cmp (fun _ h=>h) v_int o_lt)) (fun ht=>?_) (fun f3=>?_)
 ·obtain ⟨c',hc1,hc2⟩:=marks3 k
  have hmk:markF k=c':=by unfold markF;rw [hc1];rfl
  exact s_appendE (a:=H0.length+1) (by exact fun _ h=>h) (e_tup (es_ev (v:=.str [c',40]) (v_slcH (v_slcL v_str (v_bin (v_bin (by exact fun _ h=>h) v_int (o_mod (by decide))) v_int (o_mulI (Or.inr (by decide)))) o_slcS) v_int (congrArg (fun x=>some (V.str x,H)) hc1)) (es_list0 (h_append (hp2 _) hpl (hQ _ _ _ _ (by rw [hpf];unfold putG;rw [f1,f2,ht,hmk];rfl) (h.open (kd:=some c') h.st.push (deep ht) fun c q=>Option.some.inj q▸hc2))))))
 refine s_ite (b:=(m9==6||m9==7)&&decide ((ctx.length:Int)<12)) (v_and2 (v_or2 (v_cmp (fun _ h=>h) v_int o_eqI) fun _=>v_or1 (v_cmp (fun _ h=>h) v_int o_eqI)) fun _=>v_and1 (v_cmp (fun _ h=>h) v_int o_lt)) (fun ht=>?_) (fun f4=>?_)
 ·exact s_appendE (a:=H0.length+1) (by exact fun _ h=>h) (e_tup (es_ev (v:=.str [91]) v_str (es_list0 (h_append (hp2 _) hpl (hQ _ _ _ _ (by rw [hpf];unfold putG;rw [f1,f2,f3,ht];rfl) (h.open (kd:=none) h.st.push (deep ht) fun c q=>nomatch q))))))
 refine s_ite (b:=m9==8&&decide (0<(ctx.length:Int))) (v_and2 (v_cmp (fun _ h=>h) v_int o_eqI) fun _=>v_and1 (v_cmp (fun _ h=>h) v_int o_gt)) (fun ht=>?_) (fun f5=>?_)
 ·have h0:0<ctx.length:=by
   exact Int.ofNat_lt.mp (of_decide_eq_true (Bool.and_eq_true_iff.mp ht).2)
  clear deep hp2 hpl cat
  obtain ⟨⟨kd,p⟩,ctx',rfl⟩:∃ x ctx',ctx=x::ctx':=by
   cases ctx with
   | nil=>exact absurd h0 (Nat.lt_irrefl _)
   | cons x ctx'=>exact ⟨x,ctx',rfl⟩
  obtain ⟨a,as',rfl,_⟩:=h.st.lv
  have hpl:p.length<=1000000:=by
   have h1:=h.gx.2.good.len
   have h2:=rowC_le ctx' p
   have h3:=h.len
   replace h3:(rowC ctx' p++openR kd++rowTs cur).length<=N:=h3
   rw [List.length_append,List.length_append] at h3
   exact Nat.le_trans (Nat.le_trans h1 (Nat.le_trans h2 (Nat.le_trans (Nat.le_add_right _ _) (Nat.le_trans (Nat.le_add_right _ _) h3)))) (Nat.le_trans hN (by decide))
  exact c_expr (v_cons (by exact fun _ h=>h) (v_cons (by exact fun _ h=>h) (v_cons (by exact fun _ h=>h) v_nil))) (end_ok (n:=n) h.st hpl fun t tail G he hs=>hQ _ _ _ _ (by rw [hpf,he.eq];unfold putG;rw [f1,f2,f3,f4,ht];rfl) (h.shut he hs))
 ·exact s_append (v:=keptV [sg (k % 94)]) (by exact fun _ h=>h) (v_tup (v_cons (by exact fun _ h=>h) (v_cons (v_idx (v_call (fun _ h=>h) signs_ok) (v_bin (fun _ h=>h) v_int (o_mod (by decide))) (i_sg (in94 _))) v_nil))) g1 hll (cat (t:=.kept [sg (k % 94)]) (by rw [hpf];unfold putG;rw [f1,f2,f3,f4,f5];rfl) (rep_kept (Nat.le_refl _)) (.kept hgd) (Sg.app (a:=[92]) (by unfold Sg;decide) (.one (sg_sg _))) (by show 2<=70;decide))
noncomputable def exA:A->E
 | .n=>.none
 | .b t=>.bool t
 | .i z=>.int z
 | .s w=>.str w
mutual
noncomputable def exX:X->E
 | .at a=>exA a
 | .tup xs=>.tup (exXs xs)
 | .lst xs=>.list (exXs xs)
noncomputable def exXs:List X->List E
 | []=>[]
 | x::xs=>exX x::exXs xs
end
theorem exA_ok {C:Calls}{ρ:Env}{a:A}{H:Heap}:Ev C ρ H (exA a) (aV a):=by cases a<;>exact fun _ h=>h
mutual
theorem exX_ok {C:Calls}{ρ:Env}:∀ (x:X) (Q:PostV) (H:Heap),(∀ v G,Grow H G->Rep G x H.length G.length v->Q v G)->wpE C (exX x) ρ Q H
 | .at a,Q,H,h=>exA_ok _ (h _ _ .refl .atom)
 | .tup xs,Q,H,h=>e_tup (exXs_ok xs _ _ fun l G g r=>h _ _ g ⟨l,rfl,r⟩)
 | .lst xs,Q,H,h=>e_list (exXs_ok xs _ _ fun l G g r=>h _ _ (g.trans .one) (rep_lst ⟨g.len,by rw [len1];exact Nat.lt_succ_self _,Nat.le_refl _,by rw [len1];exact Nat.le_succ _⟩ g_last (r.to (Eqv.one (Nat.le_refl _)))))
theorem exXs_ok {C:Calls}{ρ:Env}:∀ (xs:List X) (Q:List V->Heap->Prop) (H:Heap),(∀ l G,Grow H G->Reps G xs H.length G.length l->Q l G)->wpEs C (exXs xs) ρ Q H
 | [],Q,H,h=>es_nil (h _ _ .refl (.nil (Nat.le_refl _)))
 | x::xs,Q,H,h=>es_cons (exX_ok x _ _ fun v G g r=>exXs_ok xs _ _ fun l G' g' r'=>h _ _ (g.trans g') (.cons g.len (r.to (g'.old.sub (Nat.zero_le _) (Nat.le_refl _))) r'))
end
theorem getX {H:Heap}:∀ {xs:List X}{lo hi:Nat}{l:List V}{i:Nat}{v:V},Reps H xs lo hi l->l[i]? = some v->∃ x,xs[i]? = some x/\Rep H x lo hi v
 | [],_,_,_,i,v,h,hv=>by rw [h.2] at hv;cases hv
 | x::xs,_,_,_,i,v,h,hv=>by
  obtain ⟨u,r,m,rfl,q1,h1,h2⟩:=h
  cases i with
  | zero=>cases hv;exact ⟨x,rfl,h1.wide (Nat.le_refl _) h2.le⟩
  | succ i =>
   obtain ⟨y,e,hy⟩:=getX (xs:=xs) (i:=i) h2 hv
   exact ⟨y,e,hy.wide q1 (Nat.le_refl _)⟩
theorem lit_more {C:Calls}{ρ:Env}{H:Heap}{e:E}{a lo:Nat}{l:List V}{xs:List X}(ys:List X) {Q:PostV}(he:Ev C ρ H e (.ref a)) (ha:H[a]? = some l) (hr:Reps H xs lo H.length l) (hn:xs.length+ys.length<=100)
  (k:∀ a' l' G,Grow H G->G[a']? = some l'->Reps G (xs++ys) lo G.length l'->Q (.ref a') G):wpE C (.bin .add e (.list (exXs ys))) ρ Q H:=by
 have hlim:lim=16777216:=rfl
 refine e_bin (he _ (e_list (exXs_ok ys _ _ fun m G g r=>?_)))
 refine r_addR (g_skip ((g.old a (Nat.zero_le _) (List.getElem?_eq_some_iff.mp ha).1).trans ha)) g_last (by rw [hr.len,r.len];lia) ?_
 refine k _ _ _ (g.trans grow2) g_last ?_
 have e2:=lenH2 (H:=G) (l:=m) (l':=l++m)
 have ge:Eqv G (G++[m]++[l++m]) 0 G.length:=grow2.old
 exact Reps.app ((r.to (ge.sub (Nat.zero_le _) (Nat.le_refl _))).wide (Nat.le_refl _) (by rw [e2];exact Nat.le_add_right _ _)) (hr.to ((g.old.sub (Nat.zero_le _) (Nat.le_refl _)).trans (ge.sub (Nat.zero_le _) g.len)))
noncomputable def noPair:List Nat->Bool
 | c::d::r=>!([42,95,126].contains c&&d==40)&&noPair (d::r)
 | _=>true
theorem noPair_ok:∀ {s:List Nat},noPair s=true->∀ a b c,s=a++c::40::b->[42,95,126].contains c=false
 | [],_,a,b,c,e=>absurd e (by simp)
 | [x],_,a,b,c,e=>absurd e (by intro q;have:=congrArg List.length q;simp at this;lia)
 | x::y::r,h,a,b,c,e=>by
  replace h:(!([42,95,126].contains x&&y==40)&&noPair (y::r))=true:=h
  obtain ⟨h1,h2⟩:=Bool.and_eq_true_iff.mp h
  cases a with
  | nil =>
   have e1:x=c:=(List.cons.inj e).1
   have e2:y=40:=(List.cons.inj (List.cons.inj e).2).1
   subst e1;subst e2
   simpa using h1
  | cons z a=>exact noPair_ok h2 a b c (List.cons.inj e).2
noncomputable def pc (s:List Nat):Bool:=s != []&&s.all (fun c=>c != 92&&c != 96&&c != 41&&c != 93&&c != 91)&&noPair s
theorem plainC {deep:Nat}{kd:Kd}{s:List Nat}(h:pc s=true):PlainIn deep kd s:=by
 obtain ⟨h,h3⟩:=Bool.and_eq_true_iff.mp h
 obtain ⟨h1,h2⟩:=Bool.and_eq_true_iff.mp h
 refine ⟨by simpa using h1,fun c hc=>?_,fun _=>noPair_ok h3⟩
 have:=List.all_eq_true.mp h2 c hc
 simp at this
 exact ⟨this.1.1.1.1,this.1.1.1.2,fun _=>this.1.1.2,fun _=>this.1.2,fun _=>this.2⟩
theorem notBar {ts:List T}(h:barB ts=false):¬ Barred ts:=fun q=>by rw [barB_of q] at h;cases h
theorem goodS {deep:Nat}{kd:Kd}{ts:List T}{s:List Nat}(hg:Good deep kd ts) (h:pc s=true) (h1:isTx ts=false) (h2:barB ts=false):Good deep kd (ts++[.txt s]) :=
 .txt hg (noTx h1) (plainC h) fun q=>absurd q (notBar h2)
theorem good1 {deep:Nat}{kd:Kd}{s:List Nat}(h:pc s=true):Good deep kd [.txt s]:=goodS (ts:=[]) .nil h rfl rfl
noncomputable def labels:List (List T):=[[.txt [108,97,98,101,108]],[],[.txt [97],.kept [93],.txt [98,42]],[.span 95 [.txt [99],.code [93] true] true],
 [.txt [115,101,101,32],.link [.txt [100]] (some [101]) true,.txt [40,102]],[.link [.span 42 [.txt [103]] true] none true],
 [.kept [120],.span 126 [.link [.txt [104]] (some [105]) true] true,.txt [106]],[.link [.link [.txt [107]] (some [108]) true,.txt [109]] (some [110]) true]]
noncomputable def lbX (us:List T):X:=.lst (encs us)
theorem labels_good {d:Nat}(hd:d<=8):∀ us∈labels,Good d .lb us:=by
 have no:∀ x y:Nat,y≠x->∀ s,some [y]=some s->∀ c∈s,c≠x:=fun x y h s q c hc=>by cases q;rw [List.mem_singleton.mp hc];exact h
 have l1:d<12:=by lia
 have l2:d+1<12:=by lia
 intro us hu
 simp only [labels,List.mem_cons,List.not_mem_nil,_root_.or_false] at hu
 rcases hu with rfl | rfl | rfl | rfl | rfl | rfl | rfl | rfl
 ·exact good1 rfl
 ·exact .nil
 ·exact goodS (ts:=[.txt [97],.kept [93]]) (.kept (ts:=[.txt [97]]) (good1 rfl)) rfl rfl rfl
 ·exact .span (ts:=[]) .nil l1 rfl (.code (ts:=[.txt [99]]) (good1 rfl) (by decide))
 ·exact goodS (ts:=[.txt [115,101,101,32],.link [.txt [100]] (some [101]) true]) (.link (ts:=[.txt [115,101,101,32]]) (good1 rfl) l1 (no 41 101 (by decide)) (good1 rfl)) rfl rfl rfl
 ·exact .link (ts:=[]) .nil l1 (fun s q=>nomatch q) (.span (ts:=[]) .nil l2 rfl (good1 rfl))
 ·exact goodS (ts:=[.kept [120],.span 126 [.link [.txt [104]] (some [105]) true] true]) (.span (ts:=[.kept [120]]) (.kept (ts:=[]) .nil) l1 rfl (.link (ts:=[]) .nil l2 (no 41 105 (by decide)) (good1 rfl))) rfl rfl rfl
 ·exact .link (ts:=[]) .nil l1 (no 41 110 (by decide)) (goodS (ts:=[.link [.txt [107]] (some [108]) true]) (.link (ts:=[]) .nil l2 (no 41 108 (by decide)) (good1 rfl)) rfl rfl rfl)
noncomputable def sgAll (s:List Nat):Bool:=s.all sgB&&decide (s.length<=60)
theorem sgAll_ok {s:List Nat}(h:sgAll s=true):Sg s/\s.length<=60:=⟨fun c hc=>List.all_eq_true.mp (Bool.and_eq_true_iff.mp h).1 c hc,of_decide_eq_true (Bool.and_eq_true_iff.mp h).2⟩
theorem labels_all:(labels.all fun us=>sgAll (rowTs us))=true:=by rfl
structure LbT (d:Nat) (us:List T):Prop where
 good:Good d .lb us
 sg:Sg (rowTs us)
 len:(rowTs us).length<=60
theorem labels_ok {d:Nat}(hd:d<=8) {us:List T}(h:us∈labels):LbT d us :=
 ⟨labels_good hd us h,(sgAll_ok (List.all_eq_true.mp labels_all us h)).1,(sgAll_ok (List.all_eq_true.mp labels_all us h)).2⟩
noncomputable def labelF (k:Int) (d:Nat):List T:=bif decide (8<(d:Int)) then [.txt [108,97,98,101,108]] else (labels[(k % 8).toNat]?).getD []
theorem label_ok {n:Nat}{k:Int}{d:Nat}{Q:PostV}{H:Heap}(h:∀ us v G,us=labelF k d->LbT d us->Grow H G->Rep G (.lst (encs us)) H.length G.length v->Q v G):callN P (n+1) "_law_label" [.int k,.int (d:Nat)] Q H:=by
 refine in_law_label (s_ite (v_cmp (by exact fun _ h=>h) v_int o_gt) (fun hd=>?_) (fun hd=>?_))
 ·exact ss_ret (exX_ok (lbX [.txt [108,97,98,101,108]]) _ _ fun v G g r=>h _ v G (by unfold labelF;rw [hd];rfl) ⟨good1 rfl,(sgAll_ok rfl).1,(sgAll_ok rfl).2⟩ g r)
 have hd8:d<=8:=by
  have:=of_decide_eq_false hd
  lia
 refine ss_nil (at_next (ss_assign (exX_ok (.lst [lbX [.txt [108,97,98,101,108]],lbX [],lbX [.txt [97],.kept [93],.txt [98,42]],lbX [.span 95 [.txt [99],.code [93] true] true]]) _ _ fun v G g r=>?_)))
 obtain ⟨a,l,p,q,rfl,hb,ha,hr⟩:=r
 refine ss_assign (lit_more [lbX [.txt [115,101,101,32],.link [.txt [100]] (some [101]) true,.txt [40,102]],lbX [.link [.span 42 [.txt [103]] true] none true]] (by exact fun _ h=>h) ha (hr.wide hb.lp hb.qh) (by decide) fun a1 l1 G1 g1 ha1 hr1=>?_)
 refine ss_assign (lit_more [lbX [.kept [120],.span 126 [.link [.txt [104]] (some [105]) true] true,.txt [106]]] (by exact fun _ h=>h) ha1 hr1 (by decide) fun a2 l2 G2 g2 ha2 hr2=>?_)
 refine ss_ret (e_idx (lit_more [lbX [.link [.link [.txt [107]] (some [108]) true,.txt [109]] (some [110]) true]] (by exact fun _ h=>h) ha2 hr2 (by decide) fun a3 l3 G3 g3 ha3 hr3=>?_))
 have hl3:l3.length=8:=hr3.len
 obtain ⟨j,hj⟩:∃ j:Nat,k % 8=(j:Int):=⟨(k % 8).toNat,by lia⟩
 have hj8:j<l3.length:=by rw [hl3];lia
 have hv:l3[j]? = some l3[j]:=List.getElem?_eq_getElem hj8
 refine v_e (v_bin (by exact fun _ h=>h) v_int (o_mod (by decide))) (congrArg V.int hj) _ ?_
 obtain ⟨x,hx,hrx⟩:=getX hr3 hv
 have hx':(labels.map lbX)[j]? = some x:=hx
 rw [List.getElem?_map] at hx'
 obtain ⟨us,hu,rfl⟩:=Option.map_eq_some_iff.mp hx'
 refine v_idxR ha3 hv ?_
 exact h us _ G3 (by unfold labelF;rw [hd,hj,Int.toNat_natCast,hu];rfl) (labels_ok hd8 (List.mem_of_getElem? hu)) (((g.trans g1).trans g2).trans g3) hrx
noncomputable def UX:Ctx->Prop
 | []=>True
 | (kd,p)::ctx=>ctx.length<12/\(∀ c,kd=some c->[42,95,126].contains c=true)/\GX p ctx
theorem GX.ux {cur:List T}:∀ {ctx:Ctx},GX cur ctx->UX ctx
 | [],_=>trivial
 | (kd,p)::ctx,h=>⟨h.1.2.1,h.1.2.2,h.2⟩
theorem kd_cons {kd:Option Nat}{p:List T}{ctx:Ctx}:kdOf ((kd,p)::ctx)=kdO kd:=by cases kd<;>rfl
structure BO (H0:Heap) (as:List Nat) (cur:List T) (ctx:Ctx) (clo:Bool) (N:Nat) (H:Heap):Prop where
 st:BSt H0 as cur ctx H
 op:Opn ctx.length (kdOf ctx) cur
 gd:clo=true->Good ctx.length (kdOf ctx) cur
 up:UX ctx
 sg:Sg (rowC ctx cur)
 len:(rowC ctx cur).length<=N
theorem BG.last {H0 as cur ctx H N}{t:T}{G:Heap}(h:BG H0 as cur ctx H N) (hs:BSt H0 as (cur++[t]) ctx G) (hg:Opn ctx.length (kdOf ctx) (cur++[t])) (h1:Sg (rowT t)) (h2:(rowT t).length<=130):BO H0 as (cur++[t]) ctx false (N+130) G:=by
 refine ⟨hs,hg,(fun q=>nomatch q),h.gx.ux,?_,?_⟩
 ·rw [rowC_app,rowTs_one];exact h.sg.app h1
 ·rw [rowC_app,rowTs_one,List.length_append];have:=h.len;lia
theorem end_open {deep:Nat}{k:Kd}{kd:Option Nat}{ts us:List T}{t:T}{tail:List Nat}{z:Int}(h:EndT kd us z false t tail) (hd:deep<12) (hk:∀ c,kd=some c->[42,95,126].contains c=true) (hg:Good deep k ts) (hu:Opn (deep+1) (kdO kd) us):Opn deep k (ts++[t]):=by
 rcases h.form with ⟨c,rfl,rfl⟩ | ⟨rfl,rfl | ⟨q,_⟩⟩
 ·exact .span hg hd (hk c rfl) hu
 ·exact .bare hg hd hu
 ·cases q
theorem BO.shut {H0 a as cur kd p ctx clo clo' N H}{t:T}{tail:List Nat}{z:Int}{G:Heap}(h:BO H0 (a::as) cur ((kd,p)::ctx) clo N H) (hc:clo'=true->clo=true) (he:EndT kd cur z clo' t tail) (hs:BSt H0 as (p++[t]) ctx G):BO H0 as (p++[t]) ctx clo' (N+54) G:=by
 obtain ⟨h1,h2,h3⟩:=h.up
 have e:rowC ctx (p++[t])=rowC ((kd,p)::ctx) cur++tail:=by
  rw [rowC_app,rowTs_one,he.row]
  show _=rowC ctx p++openR kd++rowTs cur++tail
  simp only [List.append_assoc]
 have hop:=h.op
 rw [kd_cons] at hop
 have hgd:=h.gd
 rw [kd_cons] at hgd
 have gd:clo'=true->Good ctx.length (kdOf ctx) (p++[t]):=fun q=>by
  subst q
  exact end_good he h1 h2 h3.good (hgd (hc rfl))
 refine ⟨hs,?_,gd,h3.ux,?_,?_⟩
 ·cases clo' with
  | true=>exact .good (gd rfl)
  | false=>exact end_open he h1 h2 h3.good hop
 ·rw [e];exact h.sg.app he.sg
 ·rw [e,List.length_append];have:=h.len;have:=he.len;lia
structure PD (H0:Heap) (ts:List T) (G:Heap):Prop where
 op:Opn 0 .top ts
 sg:Sg (rowTs ts)
 len:(rowTs ts).length<=6000
 gr:Grow H0 G
 rep:Rep G (.lst (encs ts)) H0.length G.length (.ref H0.length)
theorem BO.done {H0 as cur clo N H}(h:BO H0 as cur [] clo N H) (hN:N<=6000):PD H0 cur H:=by
 obtain ⟨l,h1,h2⟩:=h.st.lv.2
 have hle:=h2.le
 exact ⟨h.op,h.sg,Nat.le_trans h.len hN,⟨by lia,h.st.old⟩,rep_lst ⟨Nat.le_refl _,by lia,Nat.le_add_right _ _,Nat.le_refl _⟩ h1 h2⟩
noncomputable def closeF (k:Int) (clo:Bool) (cur:List T):Ctx->List T
 | []=>cur
 | (kd,p)::ctx=>closeF (k / 4) (bif k % 4==0 then false else clo) (p++[endF kd cur (k / 4) (bif k % 4==0 then false else clo)]) ctx
noncomputable def tailF (last:Int) (cur:List T) (ctx:Ctx):List T :=
 bif last % 7==0 then cur++[.kept []]
 else bif last % 7==1 then cur++[.code (wordsF (last / 7) (sizeN (last / 7)) 96) false]
 else bif last % 7==2&&decide (((ctx.length+1:Nat):Int)<13) then cur++[.link (labelF (last / 21) (ctx.length+1)) (some (wordsF (last / 7) (sizeN (last / 7)) 41)) false]
 else cur
noncomputable def partsF (cells:List Int) (last:Int):List T :=
 closeF (last / 7) (decide (2<last % 7)) (tailF last (cells.foldl putF ([],[])).1 (cells.foldl putF ([],[])).2) (cells.foldl putF ([],[])).2
structure CZ where
 k:Int
 clo:Bool
 as:List Nat
 cur:List T
 ctx:Ctx
theorem close_loop {n N:Nat}{x0 x3 x5 x6 x7:Option V}{k:Int}{clo:Bool}{as:List Nat}{cur:List T}{ctx:Ctx}{Q:PostV}{H0 H:Heap}(h:BO H0 as cur ctx clo N H) (hN:N+54 * ctx.length<=6000) (hQ:∀ G,PD H0 (closeF k clo cur ctx) G->Q (.ref H0.length) G) :
  wpSs (callN P (n+4)) (b_law_parts.drop 9) [x0,some (.int k),some (.ref (H0.length+1)),x3,some (.bool clo),x5,x6,x7] (callQ Q) H:=by
 refine ss_cons (l_whl (σ:=CZ) (fun z=>[x0,some (.int z.k),some (.ref (H0.length+1)),x3,some (.bool z.clo),x5,x6,x7]) (fun z G=>∃ N,BO H0 z.as z.cur z.ctx z.clo N G/\N+54 * z.ctx.length<=6000/\closeF z.k z.clo z.cur z.ctx=closeF k clo cur ctx) (fun z=>z.ctx.length) (fun z G hI K hK=>?_) ⟨k,clo,as,cur,ctx⟩ ⟨N,h,hN,rfl⟩)
 clear h hN
 generalize closeF k clo cur ctx=R at hQ hI hK
 clear k clo as cur ctx
 obtain ⟨k,clo,as,cur,ctx⟩:=z
 obtain ⟨N,h,hN,hR⟩:=hI
 replace hR:closeF k clo cur ctx=R:=hR
 obtain ⟨r,hr⟩:=pile_last (A0:=H0.length) h.st.lv.lens
 have hpl:=pile_len (A0:=H0.length) h.st.lv.lens
 have ev:∀ {C:Calls}{x:Option V}{k':Option V},Ev C [x0,k',some (.ref (H0.length+1)),x3,x,x5,x6,x7] G (.cmp .gt (.len (.var 2)) (.int 1)) (.bool (decide ((1:Int)<((ctx.length+1:Nat):Int)))):=v_b (v_cmp (v_len (fun _ h=>h) (o_lenR h.st.pile)) v_int o_gt) (by rw [hpl])
 cases ctx with
 | nil =>
  refine .stop (ev) ?_
  exact s_ret (v_idx (v_idx (fun _ h=>h) v_int (i_ref (i:=0) (c:=ent [] H0.length) (h.st.pile.trans (by obtain ⟨e,_⟩:=h.st.lv;rw [show as=[] from e])) rfl)) v_int (c:=.ref H0.length) rfl) (hQ _ (hR▸h.done (by lia)))
 | cons x ctx =>
  obtain ⟨kd,p⟩:=x
  refine .go (v_b ev (decide_eq_true (by show (1:Int)<((ctx.length+1+1:Nat):Int);lia))) ?_
  obtain ⟨a,as',e,_⟩:=h.st.lv
  replace e:as=a::as':=e
  subst e
  have hpp:p.length<=1000000:=by
   have h1:=h.up.2.2.good.len
   have h2:=rowC_le ctx p
   have h3:=h.len
   replace h3:(rowC ctx p++openR kd++rowTs cur).length<=N:=h3
   rw [List.length_append,List.length_append] at h3
   exact Nat.le_trans (Nat.le_trans h1 (Nat.le_trans h2 (Nat.le_trans (Nat.le_add_right _ _) (Nat.le_trans (Nat.le_add_right _ _) h3)))) (Nat.le_trans (Nat.le_trans (Nat.le_add_right _ _) hN) (by decide))
  have fin:∀ clo',(bif k % 4==0 then false else clo)=clo'->(clo'=true->clo=true)->wpSs (callN P (n+4)) [.expr (.call "_law_end" [.var 2,.bin .fdiv (.var 1) (.int 4),.var 4]),.assign 1 (.bin .fdiv (.var 1) (.int 4))] [x0,some (.int k),some (.ref (H0.length+1)),x3,some (.bool clo'),x5,x6,x7] (loopQ (andThen (callN P (n+4)) [.ret (.idx (.idx (.var 2) (.int 0)) (.int 1))] (callQ Q)) K) G:=fun clo' hcl hc=>by
   refine c_expr (v_cons (by exact fun _ h=>h) (v_cons (v_bin (by exact fun _ h=>h) v_int (o_fdiv (by decide))) (v_cons (by exact fun _ h=>h) v_nil))) (end_ok (n:=n+1) h.st hpp fun t tail G' he hs=>s_assign (v_bin (by exact fun _ h=>h) v_int (o_fdiv (by decide))) (hK ⟨k / 4,clo',as',p++[t],ctx⟩ G' (Nat.lt_succ_self _) ⟨N+54,h.shut hc he hs,?_,?_⟩))
   rotate_left
   ·rw [<- hR]
    show closeF (k / 4) clo' (p++[t]) ctx=closeF (k / 4) (bif k % 4==0 then false else clo) (p++[endF kd cur (k / 4) (bif k % 4==0 then false else clo)]) ctx
    rw [hcl,he.eq]
   replace hN:N+54 * (ctx.length+1)<=6000:=hN
   show N+54+54 * ctx.length<=6000
   lia
  refine s_ite (v_cmp (v_bin (by exact fun _ h=>h) v_int (o_mod (by decide))) v_int o_eqI) (fun hq=>?_) (fun hq=>?_)
  ·exact s_assign (by exact fun _ h=>h) (fin false (by rw [hq];rfl) fun q=>nomatch q)
  ·exact fin clo (by rw [hq];rfl) id
theorem parts_tail {n N:Nat}{last:Int}{as:List Nat}{cur:List T}{ctx:Ctx}{Q:PostV}{H0 H:Heap}{x0 x3:Option V}(h:BG H0 as cur ctx H N) (hN:N<=5060) (hQ:∀ G,PD H0 (closeF (last / 7) (decide (2<last % 7)) (tailF last cur ctx) ctx) G->Q (.ref H0.length) G) :
  wpSs (callN P (n+4)) (b_law_parts.drop 2) [x0,some (.int last),some (.ref (H0.length+1)),x3,none,none,none,none] (callQ Q) H:=by
 obtain ⟨r,hr⟩:=pile_last (A0:=H0.length) h.st.lv.lens
 have hp:=h.st.pile.trans (congrArg some hr)
 have hpl:=pile_len (A0:=H0.length) h.st.lv.lens
 obtain ⟨⟨l,g1,g2⟩,_,_⟩:=h.st.lv.head
 have hll:l.length<lim:=by rw [g2.len,encs_len];exact Nat.lt_of_le_of_lt (Nat.le_trans h.many hN) (by show 5060<16777216;decide)
 have h12:=h.gx.deep
 have rest:∀ {cur' clo G x5 x6 x7},tailF last cur ctx=cur'->decide (2<last % 7)=clo->BO H0 as cur' ctx clo (N+130) G->wpSs (callN P (n+4)) (b_law_parts.drop 8) [x0,some (.int last),some (.ref (H0.length+1)),x3,some (.bool clo),x5,x6,x7] (callQ Q) G:=fun e1 e2 h1 =>
  s_assign (v_bin (by exact fun _ h=>h) v_int (o_fdiv (by decide))) (close_loop (n:=n) h1 (Nat.le_trans (Nat.add_le_add (Nat.add_le_add_right hN 130) (Nat.mul_le_mul_left 54 h12)) (by decide)) fun G' hG=>hQ G' (by rw [e1,e2];exact hG))
 have rest0:∀ {clo x5 x6 x7},tailF last cur ctx=cur->decide (2<last % 7)=clo->wpSs (callN P (n+4)) (b_law_parts.drop 8) [x0,some (.int last),some (.ref (H0.length+1)),x3,some (.bool clo),x5,x6,x7] (callQ Q) H:=fun e1 e2=>rest e1 e2 ⟨h.st,.good h.gx.good,fun _=>h.gx.good,h.gx.ux,h.sg,Nat.le_trans h.len (Nat.le_add_right _ _)⟩
 have cat:∀ {t:T}{v:V}{G:Heap}{x5 x6 x7},tailF last cur ctx=cur++[t]->decide (2<last % 7)=false->Grow H G->Rep G (enc t) H.length G.length v->Opn ctx.length (kdOf ctx) (cur++[t])->Sg (rowT t)->(rowT t).length<=130->wpSs (callN P (n+4)) (b_law_parts.drop 8) [x0,some (.int last),some (.ref (H0.length+1)),x3,some (.bool false),x5,x6,x7] (callQ Q) (G.set (here H0.length as) (l++[v])):=fun {t v G x5 x6 x7} e1 e2 g hv ho k1 k2 =>
  rest e1 e2 (h.last ((h.st.grow g).upd ((g2.to (g.old.sub (Nat.zero_le _) (Nat.le_refl _))).addT g.len hv)) ho k1 k2)
 refine s_assign (v_cmp (v_bin (by exact fun _ h=>h) v_int (o_mod (by decide))) v_int o_gt) (s_assign (v_idx (v_idx (fun _ h=>h) (fun _ h=>h) (i_last hp)) (fun _ h=>h) (c:=.ref (here H0.length as)) rfl) (s_assign (v_call (v_cons (v_bin (by exact fun _ h=>h) v_int (o_fdiv (by decide))) v_nil) size_ok) ?_))
 have ev:∀ {C:Calls}{x4 x5 x6 x7:Option V}{z:Int}{G:Heap},Ev C [x0,some (.int last),some (.ref (H0.length+1)),x3,x4,x5,x6,x7] G (.cmp .eq (.bin .mod (.var 1) (.int 7)) (.int z)) (.bool (last % 7==z)):=v_cmp (v_bin (by exact fun _ h=>h) v_int (o_mod (by decide))) v_int o_eqI
 have cs:last % 7=0∨last % 7=1∨last % 7=2∨2<last % 7:=by lia
 rcases cs with e | e | e | e
 ·rw [e] at ev ⊢
  refine s_iteT ev (s_append (v:=keptV []) (by exact fun _ h=>h) (by exact fun _ h=>h) g1 hll ?_)
  exact s_skip ev (s_skip (v_andF ev) (cat (by unfold tailF;rw [e];rfl) (by rw [e];rfl) .refl (rep_kept (Nat.le_refl _)) (.kept h.gx.good) (by unfold Sg;decide) (by decide)))
 ·rw [e] at ev ⊢
  refine s_skip ev (s_iteT ev (s_appendE (a:=here H0.length as) (by exact fun _ h=>h) (e_tup (es_ev (v:=.str [99,111,100,101]) (by exact fun _ h=>h) (es_call (v_cons (v_bin (by exact fun _ h=>h) v_int (o_fdiv (by decide))) (v_cons (by exact fun _ h=>h) (v_cons (by exact fun _ h=>h) v_nil))) (words_ok (n:=n+2) (by decide) (sizeN_in _) _ (es_ev (v:=.bool false) (by exact fun _ h=>h) (es_nil ?_))))))))
  obtain ⟨hg1,hg2,hg3⟩:=wordsF_ok (k:=last / 7) (m:=sizeN (last / 7)) (x:=96) (by decide) (sizeN_in _)
  have heq:tailF last cur ctx=cur++[.code (wordsF (last / 7) (sizeN (last / 7)) 96) false]:=by unfold tailF;rw [e];rfl
  generalize wordsF (last / 7) (sizeN (last / 7)) 96=g at hg1 hg2 hg3 heq
  refine h_append g1 hll (s_skip (v_andF ev) (cat (t:=.code g false) heq (by rw [e];rfl) .refl (rep_code (Nat.le_refl _)) (.code h.gx.good hg2) (Sg.app (Sg.app (a:=[96]) (by unfold Sg;decide) hg1) (b:=[]) fun c q=>nomatch q) ?_))
  show ([96]++g++[]).length<=130
  rw [List.append_nil,List.length_append];exact Nat.le_trans (Nat.add_le_add_left hg3 1) (by decide)
 ·rw [e] at ev ⊢
  have ev2:∀ {C:Calls}{x4 x5 x6 x7:Option V},Ev C [x0,some (.int last),some (.ref (H0.length+1)),x3,x4,x5,x6,x7] H (.len (.var 2)) (.int ((ctx.length+1:Nat):Int)):=v_e (v_len (by exact fun _ h=>h) (o_lenR h.st.pile)) (congrArg (fun x:Nat=>V.int x) hpl)
  refine s_skip ev (s_skip ev (s_ite (v_andT ev (v_and1 (v_cmp ev2 v_int o_lt))) (fun hq=>?_) (fun hq=>rest0 (by unfold tailF;rw [e,hq];rfl) (congrArg (fun x:Int=>decide (2<x)) e))))
  have hd:ctx.length<12:=by
   exact Nat.lt_of_succ_lt_succ (Int.ofNat_lt.mp (of_decide_eq_true hq))
  refine c_assign (v_cons (v_bin (by exact fun _ h=>h) v_int (o_fdiv (by decide))) (v_cons ev2 v_nil)) (label_ok (n:=n+3) fun us v G hus hl g hv=>?_)
  obtain ⟨b,lb,p,q,rfl,hb,hlb,hrb⟩:=hv
  refine s_appendE (a:=here H0.length as) (by exact fun _ h=>h) (e_tup (es_ev (v:=.str [108,105,110,107]) (by exact fun _ h=>h) (es_ev (v:=.ref b) (by exact fun _ h=>h) (es_call (v_cons (v_bin (by exact fun _ h=>h) v_int (o_fdiv (by decide))) (v_cons (by exact fun _ h=>h) (v_cons (by exact fun _ h=>h) v_nil))) (words_ok (n:=n+2) (by decide) (sizeN_in _) _ (es_ev (v:=.bool false) (by exact fun _ h=>h) (es_nil ?_)))))))
  obtain ⟨hg1,hg2,hg3⟩:=wordsF_ok (k:=last / 7) (m:=sizeN (last / 7)) (x:=41) (by decide) (sizeN_in _)
  have heq:tailF last cur ctx=cur++[.link us (some (wordsF (last / 7) (sizeN (last / 7)) 41)) false]:=by unfold tailF;rw [e,hq,hus];rfl
  generalize wordsF (last / 7) (sizeN (last / 7)) 41=w at hg1 hg2 hg3 heq
  refine h_append (g.get g1) hll (cat (t:=.link us (some w) false) heq (by rw [e];rfl) g (rep_link hb hlb hrb) (.link h.gx.good hd hg2 hl.good) ?_ ?_)
  ·show Sg ([91]++rowTs us++[93,40]++w++[])
   exact (((Sg.app (a:=[91]) (by unfold Sg;decide) hl.sg).app (by unfold Sg;decide)).app hg1).app fun c q=>nomatch q
  ·show ([91]++rowTs us++[93,40]++w++[]).length<=130
   rw [List.append_nil,List.length_append,List.length_append,List.length_append]
   exact Nat.le_trans (Nat.add_le_add (Nat.add_le_add_right (Nat.add_le_add_left hl.len 1) 2) hg3) (by decide)
 ·have f0:(last % 7==0)=false:=beq_eq_false_iff_ne.mpr fun q=>by rw [q] at e;exact absurd e (by decide)
  have f1:(last % 7==1)=false:=beq_eq_false_iff_ne.mpr fun q=>by rw [q] at e;exact absurd e (by decide)
  have f2:(last % 7==2)=false:=beq_eq_false_iff_ne.mpr fun q=>by rw [q] at e;exact absurd e (by decide)
  exact s_skip (v_b ev f0) (s_skip (v_b ev f1) (s_skip (v_andF (v_b ev f2)) (rest0 (by unfold tailF;rw [f0,f1,f2];rfl) rfl)))
structure PQ1 where
 as:List Nat
 cur:List T
 ctx:Ctx
 x:Option V
theorem BSt.start {H:Heap}:BSt H [] [] [] (H++[[]]++[[ent [] H.length]]):=by
 have e2:=lenH2 (H:=H) (l:=[]) (l':=[ent [] H.length])
 refine ⟨Nat.le_of_eq e2.symm,grow2.old,?_,rfl,[],g_skip g_last,.nil (Nat.le_of_eq e2.symm)⟩
 have:(H++[[]]).length=H.length+1:=len1
 rw [<- this];exact g_last
theorem lparts_made {n c:Nat}{last:Int}{cells:List Int}{l:List V}{Q:PostV}{H:Heap}(hc:H[c]? = some l) (hl:l.length<=63) (hi:l=cells.map V.int) (hQ:∀ G,PD H (partsF cells last) G->Q (.ref H.length) G):callN P (n+5) "_law_parts" [.ref c,.int last] Q H:=by
 have hcl:c<H.length:=(List.getElem?_eq_some_iff.mp hc).1
 refine in_law_parts (s_assignG (v:=.ref (H.length+1)) (H1:=H++[[]]++[[ent [] H.length]]) (fun Q q=>?_) (ss_cons (l_for (σ:=PQ1) (fun z=>[some (.ref c),some (.int last),some (.ref (H.length+1)),z.x,none,none,none,none]) (fun i z G=>BG H z.as z.cur z.ctx G (80 * i)/\(z.cur,z.ctx)=(cells.take i).foldl putF ([],[])) (a:=c) (l:=l) (fun i z G h=>(h.1.st.old c (Nat.zero_le _) hcl).trans hc) (fun i z G v hv hI K hK=>?_) (fun z G hI=>?_) ⟨[],[],[],none⟩ (by exact fun _ h=>h) ?_)))
 ·have e1:(H++[[]]).length=H.length+1:=len1
  rw [<- e1] at q
  exact q
 ·obtain ⟨hI,hE⟩:=hI
  have hv0:=hv
  rw [hi,List.getElem?_map] at hv0
  obtain ⟨z',hz',rfl⟩:=Option.map_eq_some_iff.mp hv0
  have hi40:i<l.length:=(List.getElem?_eq_some_iff.mp hv).1
  exact c_expr (v_cons (by exact fun _ h=>h) (v_cons (by exact fun _ h=>h) v_nil)) (lput_ok (n:=n) hI (by lia) fun as' cur' ctx' G' he h'=>hK ⟨as',cur',ctx',_⟩ G' ⟨⟨h'.st,h'.gx,h'.sg,Nat.le_trans h'.len (by lia)⟩,by rw [List.take_add_one,hz',List.foldl_append,<- hE];exact he.symm⟩)
 ·obtain ⟨hI,hE⟩:=hI
  have hl2:l.length=cells.length:=by rw [hi,List.length_map]
  rw [hl2,List.take_length] at hE
  refine parts_tail (n:=n) hI (by lia) fun G' hG=>hQ G' ?_
  unfold partsF
  rw [<- hE]
  exact hG
 ·exact ⟨⟨.start,.nil,(fun c q=>nomatch q),Nat.zero_le _⟩,rfl⟩
inductive En where
 | leaf (x:X) (v:V) (p q:Nat)
 | sub (xs:List X) (vs:List V) (p q a:Nat) (es:List En)
mutual
noncomputable def enX:En->X
 | .leaf x _ _ _=>x
 | .sub xs _ _ _ _ es=>.tup (xs++[.lst (enXs es)])
noncomputable def enXs:List En->List X
 | []=>[]
 | e::es=>enX e::enXs es
end
noncomputable def enV:En->V
 | .leaf _ v _ _=>v
 | .sub _ vs _ _ a _=>.tup (vs++[.ref a])
mutual
noncomputable def fpr:En->Nat->Prop
 | .leaf _ _ p q,i=>p<=i/\i<q
 | .sub _ _ p q a es,i=>(p<=i/\i<q)∨i=a∨fprs es i
noncomputable def fprs:List En->Nat->Prop
 | [],_=>False
 | e::es,i=>fpr e i∨fprs es i
end
mutual
noncomputable def Ok (H:Heap):En->Nat->Nat->Prop
 | .leaf x v p q,lo,hi=>(lo<=p/\p<=q/\q<=hi)/\Rep H x p q v
 | .sub xs vs p q a es,lo,hi=>(lo<=p/\Reps H xs p q vs)/\(q<=a/\a<hi/\¬ fprs es a/\H[a]? = some (es.map enV))/\OkL H es q hi
noncomputable def OkL (H:Heap):List En->Nat->Nat->Prop
 | [],lo,hi=>lo<=hi
 | e::es,lo,hi=>∃ m,Ok H e lo m/\OkL H es m hi
end
noncomputable def Nd (H:Heap) (q hi a:Nat) (es:List En):Prop:=(q<=a/\a<hi/\¬ fprs es a/\H[a]? = some (es.map enV))/\OkL H es q hi
mutual
theorem Ok.le {H:Heap}:∀ {e:En}{lo hi:Nat},Ok H e lo hi->lo<=hi
 | .leaf _ _ _ _,_,_,h=>Nat.le_trans h.1.1 (Nat.le_trans h.1.2.1 h.1.2.2)
 | .sub _ _ _ _ _ _,_,_,h=>Nat.le_trans h.1.1 (Nat.le_trans h.1.2.le (Nat.le_trans h.2.1.1 (Nat.le_of_lt h.2.1.2.1)))
theorem OkL.le {H:Heap}:∀ {es:List En}{lo hi:Nat},OkL H es lo hi->lo<=hi
 | [],_,_,h=>h
 | e::es,_,_,h=>by
  obtain ⟨m,h1,h2⟩:=h
  exact Nat.le_trans (Ok.le h1) (OkL.le (es:=es) h2)
end
mutual
theorem Ok.mono {H G:Heap}:∀ {e:En}{lo hi lo' hi':Nat},Ok H e lo hi->(∀ i,fpr e i->G[i]? = H[i]?)->lo'<=lo->hi<=hi'->Ok G e lo' hi'
 | .leaf _ _ _ _,_,_,_,_,h,k,h1,h2=>⟨⟨Nat.le_trans h1 h.1.1,h.1.2.1,Nat.le_trans h.1.2.2 h2⟩,h.2.to fun x a b=>k x ⟨a,b⟩⟩
 | .sub _ _ _ _ a es,_,_,_,_,h,k,h1,h2=>⟨⟨Nat.le_trans h1 h.1.1,h.1.2.to fun x a b=>k x (Or.inl ⟨a,b⟩)⟩,⟨h.2.1.1,Nat.lt_of_lt_of_le h.2.1.2.1 h2,h.2.1.2.2.1,(k a (Or.inr (Or.inl rfl))).trans h.2.1.2.2.2⟩,OkL.mono (es:=es) h.2.2 (fun i q=>k i (Or.inr (Or.inr q))) (Nat.le_refl _) h2⟩
theorem OkL.mono {H G:Heap}:∀ {es:List En}{lo hi lo' hi':Nat},OkL H es lo hi->(∀ i,fprs es i->G[i]? = H[i]?)->lo'<=lo->hi<=hi'->OkL G es lo' hi'
 | [],_,_,_,_,h,_,h1,h2=>Nat.le_trans h1 (Nat.le_trans h h2)
 | e::es,_,_,_,_,h,k,h1,h2=>by
  obtain ⟨m,q1,q2⟩:=h
  exact ⟨m,Ok.mono q1 (fun i q=>k i (Or.inl q)) h1 (Nat.le_refl _),OkL.mono (es:=es) q2 (fun i q=>k i (Or.inr q)) (Nat.le_refl _) h2⟩
end
mutual
theorem Ok.foot {H:Heap}:∀ {e:En}{lo hi i:Nat},Ok H e lo hi->fpr e i->lo<=i/\i<hi
 | .leaf _ _ _ _,_,_,_,h,k=>⟨Nat.le_trans h.1.1 k.1,Nat.lt_of_lt_of_le k.2 h.1.2.2⟩
 | .sub _ _ p q a es,lo,hi,i,h,k=>by
  have h1:lo<=q:=Nat.le_trans h.1.1 h.1.2.le
  have h3:=h.2.1.2.1
  rcases k with k | k | k
  ·exact ⟨Nat.le_trans h.1.1 k.1,Nat.lt_trans (Nat.lt_of_lt_of_le k.2 h.2.1.1) h3⟩
  ·rw [k];exact ⟨Nat.le_trans h1 h.2.1.1,h3⟩
  ·have:=OkL.foot (es:=es) h.2.2 k
   exact ⟨Nat.le_trans h1 this.1,this.2⟩
theorem OkL.foot {H:Heap}:∀ {es:List En}{lo hi i:Nat},OkL H es lo hi->fprs es i->lo<=i/\i<hi
 | [],_,_,_,_,k=>k.elim
 | e::es,_,_,_,h,k=>by
  obtain ⟨m,q1,q2⟩:=h
  rcases k with k | k
  ·have:=Ok.foot q1 k
   exact ⟨this.1,Nat.lt_of_lt_of_le this.2 (OkL.le q2)⟩
  ·have:=OkL.foot (es:=es) q2 k
   exact ⟨Nat.le_trans (Ok.le q1) this.1,this.2⟩
end
theorem OkL.app {H:Heap}{fs:List En}{m hi:Nat}(k:OkL H fs m hi):∀ {es:List En}{lo:Nat},OkL H es lo m->OkL H (es++fs) lo hi
 | [],lo,h=>k.mono (fun _ _=>rfl) h (Nat.le_refl _)
 | e::es,lo,h=>by
  obtain ⟨m',q1,q2⟩:=h
  exact ⟨m',q1,OkL.app k q2⟩
theorem OkL.one {H:Heap}{e:En}{lo hi:Nat}(h:Ok H e lo hi):OkL H [e] lo hi:=⟨hi,h,Nat.le_refl _⟩
theorem OkL.cut {H:Heap}{e:En}{hi:Nat}:∀ {es:List En}{lo:Nat},OkL H (es++[e]) lo hi->∃ m,OkL H es lo m/\Ok H e m hi
 | [],lo,h=>by
  obtain ⟨m,q1,q2⟩:=h
  exact ⟨lo,Nat.le_refl _,q1.mono (fun _ _=>rfl) (Nat.le_refl _) q2⟩
 | x::es,lo,h=>by
  obtain ⟨m,q1,q2⟩:=h
  obtain ⟨m',q3,q4⟩:=OkL.cut (es:=es) q2
  exact ⟨m',⟨m,q1,q3⟩,q4⟩
theorem fprs_app {fs:List En}{i:Nat}:∀ {es:List En},fprs (es++fs) i↔fprs es i∨fprs fs i
 | []=>⟨Or.inr,fun h=>h.elim (fun q=>q.elim) id⟩
 | e::es=>by
  show fpr e i∨fprs (es++fs) i↔(fpr e i∨fprs es i)∨fprs fs i
  rw [fprs_app (es:=es),or_assoc]
theorem fprs_one {e:En}{i:Nat}:fprs [e] i↔fpr e i:=⟨fun h=>h.elim id fun q=>q.elim,Or.inl⟩
inductive Pth:Nat->List En->Nat->Nat->List En->Prop
 | here {a:Nat}{es:List En}:Pth a es 0 a es
 | down {a d b p q a':Nat}{es fs es':List En}{xs:List X}{vs:List V}:Pth a' es' d b fs->Pth a (es++[.sub xs vs p q a' es']) (d+1) b fs
noncomputable def insE:Nat->List En->En->List En
 | 0,es,e=>es++[e]
 | d+1,es,e=>match es.getLast? with
  | some (.sub xs vs p q a es')=>es.dropLast++[.sub xs vs p q a (insE d es' e)]
  | _=>es
theorem insE_last {d p q a:Nat}{es es':List En}{xs:List X}{vs:List V}{e:En}(h:es.getLast? = some (.sub xs vs p q a es')):insE (d+1) es e=es.dropLast++[.sub xs vs p q a (insE d es' e)]:=by
 show (match es.getLast? with | some (.sub xs vs p q a es')=>es.dropLast++[En.sub xs vs p q a (insE d es' e)] | _=>es)=_
 rw [h]
theorem insE_down {d p q a:Nat}{es es':List En}{xs:List X}{vs:List V}{e:En}:insE (d+1) (es++[.sub xs vs p q a es']) e=es++[.sub xs vs p q a (insE d es' e)]:=by
 rw [insE_last (by rw [List.getLast?_append];rfl),List.dropLast_concat]
structure InsD (H:Heap) (q hi hi' a d b:Nat) (es fs:List En) (e:En):Prop where
 here:H[b]? = some (fs.map enV)
 mem:b=a∨fprs es b
 nd:Nd (H.set b (fs.map enV++[enV e])) q hi' a (insE d es e)
 ft:∀ i,fprs (insE d es e) i->fprs es i∨fpr e i
theorem put_in {H:Heap}{e:En}{hi hi':Nat}(he:Ok H e hi hi'):∀ {a d b:Nat}{es fs:List En},Pth a es d b fs->∀ {q:Nat},Nd H q hi a es->InsD H q hi hi' a d b es fs e:=by
 intro a d b es fs h
 have hle:=he.le
 induction h with
 | @here a es =>
  intro q h
  obtain ⟨⟨h1,h2,h3,h4⟩,h5⟩:=h
  refine ⟨h4,Or.inl rfl,⟨⟨h1,Nat.lt_of_lt_of_le h2 hle,fun k=>?_,?_⟩,?_⟩,fun i k=>?_⟩
  ·rcases fprs_app.mp k with k | k
   ·exact h3 k
   ·exact absurd (he.foot (fprs_one.mp k)).1 (Nat.not_le_of_lt h2)
  ·show _=some ((es++[e]).map enV)
   rw [List.map_append]
   exact List.getElem?_set_self (List.getElem?_eq_some_iff.mp h4).1
  ·refine OkL.app (OkL.one (he.mono (fun i k=>List.getElem?_set_ne ?_) (Nat.le_refl _) (Nat.le_refl _))) (h5.mono (fun i k=>List.getElem?_set_ne ?_) (Nat.le_refl _) (Nat.le_refl _))
   ·exact Nat.ne_of_lt (Nat.lt_of_lt_of_le h2 (he.foot k).1)
   ·intro q;subst q;exact h3 k
  ·rcases fprs_app.mp k with k | k
   ·exact Or.inl k
   ·exact Or.inr (fprs_one.mp k)
 | @down a d b p r a' es fs es' xs vs _ ih =>
  intro q h
  obtain ⟨⟨h1,h2,h3,h4⟩,h5⟩:=h
  obtain ⟨m,k1,k2⟩:=h5.cut
  have k3:=k2
  obtain ⟨j1,j2⟩:=k2
  have hI:=ih (q:=r) j2
  have hb:fpr (.sub xs vs p r a' es') b:=Or.inr (hI.mem.imp id id)
  have hbm:=k3.foot hb
  have hpr:=j1.2.le
  have hbr:r<=b:=by
   rcases hI.mem with k | k
   ·rw [k];exact j2.1.1
   ·exact (j2.2.foot k).1
  have hba:b≠a:=fun k=>h3 (k▸fprs_app.mpr (Or.inr (fprs_one.mpr hb)))
  have hft:∀ i,fpr (.sub xs vs p r a' (insE d es' e)) i->fpr (.sub xs vs p r a' es') i∨fpr e i:=fun i k=>by
   rcases k with k | k | k
   ·exact Or.inl (Or.inl k)
   ·exact Or.inl (Or.inr (Or.inl k))
   ·exact (hI.ft i k).imp (fun k=>Or.inr (Or.inr k)) id
  refine ⟨hI.here,Or.inr (fprs_app.mpr (Or.inr (fprs_one.mpr hb))),?_,?_⟩
  ·rw [insE_down]
   refine ⟨⟨h1,Nat.lt_of_lt_of_le h2 hle,fun k=>?_,?_⟩,?_⟩
   ·rcases fprs_app.mp k with k | k
    ·exact h3 (fprs_app.mpr (Or.inl k))
    ·rcases hft a (fprs_one.mp k) with k | k
     ·exact h3 (fprs_app.mpr (Or.inr (fprs_one.mpr k)))
     ·exact absurd (he.foot k).1 (Nat.not_le_of_lt h2)
   ·rw [List.getElem?_set_ne hba,h4,List.map_append,List.map_append];rfl
   ·have ok1:Ok (H.set b (fs.map enV++[enV e])) (.sub xs vs p r a' (insE d es' e)) m hi':=⟨⟨j1.1,j1.2.to (Eqv.set (Or.inr hbr))⟩,hI.nd⟩
    refine OkL.app (OkL.one ok1) (k1.mono (fun i k=>List.getElem?_set_ne ?_) (Nat.le_refl _) (Nat.le_refl _))
    exact Nat.ne_of_gt (Nat.lt_of_lt_of_le (k1.foot k).2 hbm.1)
  ·intro i k
   rw [insE_down] at k
   rcases fprs_app.mp k with k | k
   ·exact Or.inl (fprs_app.mpr (Or.inl k))
   ·exact (hft i (fprs_one.mp k)).imp (fun k=>fprs_app.mpr (Or.inr (fprs_one.mpr k))) id
theorem Pth.more {a d b:Nat}{es fs:List En}(h:Pth a es d b fs):∀ {d' c:Nat}{gs:List En},Pth b fs d' c gs->Pth a es (d+d') c gs:=by
 induction h with
 | here=>intro d' c gs k;rw [Nat.zero_add];exact k
 | down _ ih=>intro d' c gs k;rw [Nat.add_right_comm];exact .down (ih k)
mutual
theorem Ok.rep {H:Heap}:∀ {e:En}{lo hi:Nat},Ok H e lo hi->Rep H (enX e) lo hi (enV e)
 | .leaf _ _ _ _,_,_,h=>h.2.wide h.1.1 h.1.2.2
 | .sub xs vs p q a es,lo,hi,h=>⟨_,rfl,Reps.app (.one (Nat.le_trans h.2.1.1 (Nat.le_of_lt h.2.1.2.1)) (rep_lst ⟨h.2.1.1,h.2.1.2.1,Nat.le_refl _,Nat.le_refl _⟩ h.2.1.2.2.2 (OkL.reps (es:=es) h.2.2))) (h.1.2.wide h.1.1 (Nat.le_refl _))⟩
theorem OkL.reps {H:Heap}:∀ {es:List En}{lo hi:Nat},OkL H es lo hi->Reps H (enXs es) lo hi (es.map enV)
 | [],_,_,h=>.nil h
 | e::es,_,_,h=>by
  obtain ⟨m,q1,q2⟩:=h
  exact .cons q1.le (Ok.rep q1) (OkL.reps (es:=es) q2)
end
theorem Nd.rep {H:Heap}{q hi a:Nat}{es:List En}(h:Nd H q hi a es):Rep H (.lst (enXs es)) q hi (.ref a):=rep_lst ⟨h.1.1,h.1.2.1,Nat.le_refl _,Nat.le_refl _⟩ h.1.2.2.2 h.2.reps
theorem Nd.mono {H G:Heap}{q hi hi' a:Nat}{es:List En}(h:Nd H q hi a es) (k:∀ i,i=a∨fprs es i->G[i]? = H[i]?) (h2:hi<=hi'):Nd G q hi' a es :=
 ⟨⟨h.1.1,Nat.lt_of_lt_of_le h.1.2.1 h2,h.1.2.2.1,(k a (Or.inl rfl)).trans h.1.2.2.2⟩,h.2.mono (fun i q=>k i (Or.inr q)) (Nat.le_refl _) h2⟩
noncomputable def itN (n:Nat) (ts:List T) (v:V) (p q a:Nat) (es:List En):En:=.sub [.at (.i (n:Nat)),.lst (encs ts)] [.int (n:Nat),v] p q a es
noncomputable def two (w:List Nat) (p a:Nat) (es:List En):En:=.sub [.at (.s w)] [.str w] p p a es
noncomputable def nQ:List Nat:=[113,117,111,116,101]
noncomputable def nL:List Nat:=[108,105,115,116]
noncomputable def nP:List Nat:=[112,97,114,97]
mutual
noncomputable def RIt:It->En->Prop
 | .it n ts sub,e=>∃ v p q a es,e=itN n ts v p q a es/\RIts sub es
noncomputable def RIts:List It->List En->Prop
 | [],es=>es=[]
 | i::is,es=>∃ e fs,es=e::fs/\RIt i e/\RIts is fs
end
noncomputable def RPas:List (List T)->List En->Prop
 | [],es=>es=[]
 | ts::rs,es=>∃ v p q fs,es=.leaf (.lst (encs ts)) v p q::fs/\RPas rs fs
mutual
noncomputable def RBk:Bk->En->Prop
 | .gap n,e=>∃ v p q,e=.leaf (bkE (.gap n)) v p q
 | .head n ts,e=>∃ v p q,e=.leaf (bkE (.head n ts)) v p q
 | .list is,e=>∃ p a es,e=two nL p a es/\RIts is es
 | .para rs,e=>∃ p a es,e=two nP p a es/\RPas rs es
 | .quote bs,e=>∃ p a es,e=two nQ p a es/\RBks bs es
noncomputable def RBks:List Bk->List En->Prop
 | [],es=>es=[]
 | b::bs,es=>∃ e fs,es=e::fs/\RBk b e/\RBks bs fs
end
mutual
theorem RIt.x:∀ {i:It}{e:En},RIt i e->enX e=itE i
 | .it n ts sub,e,h=>by
  obtain ⟨v,p,q,a,es,rfl,h⟩:=h
  show X.tup [.at (.i (n:Nat)),.lst (encs ts),.lst (enXs es)]=.tup [.at (.i (n:Nat)),.lst (encs ts),.lst (itEs sub)]
  rw [RIts.x (is:=sub) h]
theorem RIts.x:∀ {is:List It}{es:List En},RIts is es->enXs es=itEs is
 | [],es,h=>by rw [show es=[] from h];rfl
 | i::is,es,h=>by
  obtain ⟨e,fs,rfl,h1,h2⟩:=h
  show enX e::enXs fs=itE i::itEs is
  rw [RIt.x (i:=i) h1,RIts.x (is:=is) h2]
end
theorem RPas.x:∀ {rs:List (List T)}{es:List En},RPas rs es->enXs es=paE rs
 | [],es,h=>by rw [show es=[] from h];rfl
 | ts::rs,es,h=>by
  obtain ⟨v,p,q,fs,rfl,h⟩:=h
  show X.lst (encs ts)::enXs fs=X.lst (encs ts)::paE rs
  rw [RPas.x (rs:=rs) h]
mutual
theorem RBk.x:∀ {b:Bk}{e:En},RBk b e->enX e=bkE b
 | .gap n,e,h=>by obtain ⟨v,p,q,rfl⟩:=h;rfl
 | .head n ts,e,h=>by obtain ⟨v,p,q,rfl⟩:=h;rfl
 | .list is,e,h=>by
  obtain ⟨p,a,es,rfl,h⟩:=h
  show X.tup [.at (.s nL),.lst (enXs es)]=_
  rw [h.x];rfl
 | .para rs,e,h=>by
  obtain ⟨p,a,es,rfl,h⟩:=h
  show X.tup [.at (.s nP),.lst (enXs es)]=_
  rw [h.x];rfl
 | .quote bs,e,h=>by
  obtain ⟨p,a,es,rfl,h⟩:=h
  show X.tup [.at (.s nQ),.lst (enXs es)]=_
  rw [RBks.x (bs:=bs) h];rfl
theorem RBks.x:∀ {bs:List Bk}{es:List En},RBks bs es->enXs es=bkEs bs
 | [],es,h=>by rw [show es=[] from h];rfl
 | b::bs,es,h=>by
  obtain ⟨e,fs,rfl,h1,h2⟩:=h
  show enX e::enXs fs=bkE b::bkEs bs
  rw [RBk.x (b:=b) h1,RBks.x (bs:=bs) h2]
end
theorem RIts.add {i:It}{e:En}(k:RIt i e):∀ {is:List It}{es:List En},RIts is es->RIts (is++[i]) (es++[e])
 | [],es,h=>by rw [show es=[] from h];exact ⟨e,[],rfl,k,rfl⟩
 | j::is,es,h=>by
  obtain ⟨e',fs,rfl,h1,h2⟩:=h
  exact ⟨e',_,rfl,h1,RIts.add k h2⟩
theorem RIts.cut {i:It}:∀ {is:List It}{es:List En},RIts (is++[i]) es->∃ fs e,es=fs++[e]/\RIts is fs/\RIt i e
 | [],es,h=>by
  obtain ⟨e,fs,rfl,h1,h2⟩:=h
  rw [show fs=[] from h2]
  exact ⟨[],e,rfl,rfl,h1⟩
 | j::is,es,h=>by
  obtain ⟨e',fs,rfl,h1,h2⟩:=h
  obtain ⟨gs,e,rfl,h3,h4⟩:=RIts.cut (is:=is) h2
  exact ⟨e'::gs,e,rfl,⟨e',gs,rfl,h1,h3⟩,h4⟩
theorem RPas.add {ts:List T}{v:V}{p q:Nat}:∀ {rs:List (List T)}{es:List En},RPas rs es->RPas (rs++[ts]) (es++[.leaf (.lst (encs ts)) v p q])
 | [],es,h=>by rw [show es=[] from h];exact ⟨v,p,q,[],rfl,rfl⟩
 | j::is,es,h=>by
  obtain ⟨v',p',q',fs,rfl,h2⟩:=h
  exact ⟨v',p',q',_,rfl,RPas.add h2⟩
theorem RBks.add {i:Bk}{e:En}(k:RBk i e):∀ {is:List Bk}{es:List En},RBks is es->RBks (is++[i]) (es++[e])
 | [],es,h=>by rw [show es=[] from h];exact ⟨e,[],rfl,k,rfl⟩
 | j::is,es,h=>by
  obtain ⟨e',fs,rfl,h1,h2⟩:=h
  exact ⟨e',_,rfl,h1,RBks.add k h2⟩
theorem RBks.cut {i:Bk}:∀ {is:List Bk}{es:List En},RBks (is++[i]) es->∃ fs e,es=fs++[e]/\RBks is fs/\RBk i e
 | [],es,h=>by
  obtain ⟨e,fs,rfl,h1,h2⟩:=h
  rw [show fs=[] from h2]
  exact ⟨[],e,rfl,rfl,h1⟩
 | j::is,es,h=>by
  obtain ⟨e',fs,rfl,h1,h2⟩:=h
  obtain ⟨gs,e,rfl,h3,h4⟩:=RBks.cut (is:=is) h2
  exact ⟨e'::gs,e,rfl,⟨e',gs,rfl,h1,h3⟩,h4⟩
inductive Pti (N:Nat):Nat->List It->List En->Nat->Nat->List It->List En->Prop
 | here {a:Nat}{is:List It}{es:List En}:RIts is es->Pti N a is es 0 a is es
 | down {a d b n p q a':Nat}{is sub js:List It}{es fs es':List En}{ts:List T}{v:V}:n<N->RIts is es->Pti N a' sub es' d b js fs->Pti N a (is++[.it n ts sub]) (es++[itN n ts v p q a' es']) (d+1) b js fs
theorem Pti.pth {N a d b:Nat}{is js:List It}{es fs:List En}(h:Pti N a is es d b js fs):Pth a es d b fs:=by
 induction h with
 | here=>exact .here
 | down _ _ _ ih=>exact .down ih
theorem Pti.cur {N a d b:Nat}{is js:List It}{es fs:List En}(h:Pti N a is es d b js fs):RIts js fs:=by
 induction h with
 | here h=>exact h
 | down _ _ _ ih=>exact ih
theorem Pti.ext {N a d b:Nat}{is js:List It}{es fs:List En}(h:Pti N a is es d b js fs):∀ {js':List It}{n:Nat}{ts:List T}{sub:List It},js=js'++[.it n ts sub]->n<N->∃ gs v p q a' es',fs=gs++[itN n ts v p q a' es']/\Pti N a is es (d+1) a' sub es':=by
 induction h with
 | here h =>
  intro js' n ts sub e hn
  subst e
  obtain ⟨gs,e,rfl,h1,v,p,q,a',es',rfl,h2⟩:=h.cut
  exact ⟨gs,v,p,q,a',es',rfl,.down hn h1 (.here h2)⟩
 | down h1 h2 _ ih =>
  intro js' n ts sub e hn
  obtain ⟨gs,v,p,q,a',es',e',k⟩:=ih e hn
  exact ⟨gs,v,p,q,a',es',e',.down h1 h2 k⟩
theorem Pti.ins {N a d b:Nat}{is js:List It}{es fs:List En}{x:It}{e:En}(h:Pti N a is es d b js fs) (k:RIt x e):RIts (insAt d is x) (insE d es e):=by
 induction h with
 | here h=>exact h.add k
 | @down a d b n p q a' is sub js es fs es' ts v h1 h2 _ ih =>
  have k1:RIt (.it n ts (insAt d sub x)) (itN n ts v p q a' (insE d es' e)):=⟨_,_,_,_,_,rfl,ih⟩
  have k2:insE (d+1) (es++[itN n ts v p q a' es']) e=es++[itN n ts v p q a' (insE d es' e)]:=insE_down
  rw [insAt_succ,k2]
  exact h2.add k1
theorem IOs.snoc {above most:Nat}{i:It}:∀ {is:List It},IOs above most (is++[i])↔IOs above most is/\IO1 above (match is.getLast? with | some j=>dsh j | none=>most) i
 | []=>⟨fun h=>⟨trivial,h.1⟩,fun h=>⟨h.2,trivial⟩⟩
 | j::is=>by
  show IO1 above most j/\IOs above (dsh j) (is++[i])↔(IO1 above most j/\IOs above (dsh j) is)/\_
  rw [IOs.snoc (is:=is),and_assoc]
  cases is with
  | nil=>exact Iff.rfl
  | cons k is=>exact Iff.rfl
theorem Pti.order {N a d b:Nat}{is js:List It}{es fs:List En}{ts:List T}(h:Pti N a is es d b js fs) (hN:1<=N/\N<=9) (hc:Ct ts) (hl:∀ i,js.getLast? = some i->N<=dsh i):∀ {above:Nat},above<N->IOs above 9 is->IOs above 9 (insAt d is (.it N ts [])):=by
 induction h with
 | @here a is es _ =>
  intro above ha ho
  refine IOs.snoc.mpr ⟨ho,⟨hN.1,?_,ha⟩,hc,trivial⟩
  cases hq:is.getLast? with
  | none=>exact hN.2
  | some j=>exact hl j hq
 | down h1 h2 _ ih =>
  intro above ha ho
  rw [insAt_succ]
  obtain ⟨k1,k2,k3,k4⟩:=IOs.snoc.mp ho
  exact IOs.snoc.mpr ⟨k1,k2,k3,ih hl h1 k4⟩
mutual
theorem IO1.deep:∀ {above most:Nat}{i:It},IO1 above most i->most<=9->dI i+above<=9
 | above,most,.it n ts sub,h,hm=>by
  have h1:=h.1
  have h2:=IOs.deep (is:=sub) h.2.2 (Nat.le_refl 9)
  show dIs sub+1+above<=9
  lia
theorem IOs.deep:∀ {above most:Nat}{is:List It},IOs above most is->most<=9->dIs is<=9 - above
 | _,_,[],_,_=>Nat.zero_le _
 | above,most,i::is,h,hm=>by
  have h1:=IO1.deep (i:=i) h.1 hm
  have hd:dsh i<=9:=by
   cases i with
   | it n ts sub=>exact Nat.le_trans h.1.1.2.1 hm
  have h2:=IOs.deep (is:=is) h.2 hd
  show max (dI i) (dIs is)<=9 - above
  exact Nat.max_le.mpr ⟨by lia,h2⟩
end
noncomputable def plug:List (List Bk)->List Bk->List Bk
 | [],cur=>cur
 | p::ctx,cur=>p++[.quote (plug ctx cur)]
inductive Zp:Nat->List Bk->List En->List (List Bk)->List Nat->Nat->List Bk->List En->Prop
 | here {a:Nat}{bs:List Bk}{es:List En}:RBks bs es->Zp a bs es [] [a] a bs es
 | down {a a' b pp:Nat}{p bs cur:List Bk}{pe es fs:List En}{ctx:List (List Bk)}{as:List Nat}:RBks p pe->Zp a' bs es ctx as b cur fs->Zp a (p++[.quote bs]) (pe++[two nQ pp a' es]) (p::ctx) (a::as) b cur fs
theorem rb_quote {p a:Nat}{bs:List Bk}{es:List En}(h:RBks bs es):RBk (.quote bs) (two nQ p a es):=⟨p,a,es,rfl,h⟩
section
variable {a b:Nat}{bs cur:List Bk}{es fs:List En}{ctx:List (List Bk)}{as:List Nat}
theorem Zp.root (h:Zp a bs es ctx as b cur fs):RBks bs es:=by
 induction h with
 | here h=>exact h
 | down h1 _ ih=>exact h1.add (rb_quote ih)
theorem Zp.pth (h:Zp a bs es ctx as b cur fs):Pth a es ctx.length b fs:=by
 induction h with
 | here h=>exact .here
 | down h1 _ ih=>exact .down ih
theorem Zp.typ (h:Zp a bs es ctx as b cur fs):RBks cur fs:=by
 induction h with
 | here h=>exact h
 | down h1 _ ih=>exact ih
theorem Zp.whole (h:Zp a bs es ctx as b cur fs):bs=plug ctx cur:=by
 induction h with
 | here h=>rfl
 | down h1 _ ih=>rw [ih];rfl
theorem Zp.lens (h:Zp a bs es ctx as b cur fs):as.length=ctx.length+1:=by
 induction h with
 | here h=>rfl
 | down h1 _ ih=>exact congrArg (· + 1) ih
theorem Zp.last (h:Zp a bs es ctx as b cur fs):∃ r,as=r++[b]:=by
 induction h with
 | here h=>exact ⟨[],rfl⟩
 | down h1 _ ih=>obtain ⟨r,rfl⟩:=ih;exact ⟨_::r,rfl⟩
theorem Zp.first (h:Zp a bs es ctx as b cur fs):∃ r,as=a::r:=by
 cases h with
 | here h=>exact ⟨[],rfl⟩
 | down h1 _=>exact ⟨_,rfl⟩
theorem Zp.ins {d:Nat}{e:En}{cur':List Bk}(h:Zp a bs es ctx as b cur fs) (k:RBks cur' (insE d fs e)):∃ bs',Zp a bs' (insE (ctx.length+d) es e) ctx as b cur' (insE d fs e):=by
 induction h with
 | here h=>exact ⟨cur',by show Zp _ _ (insE (0+d) _ e) _ _ _ _ _;rw [Nat.zero_add];exact .here k⟩
 | @down a a' b pp p bs cur pe es fs ctx as h1 _ ih =>
  obtain ⟨bs',z⟩:=ih k
  have k2:insE (ctx.length+d+1) (pe++[two nQ pp a' es]) e=pe++[two nQ pp a' (insE (ctx.length+d) es e)]:=insE_down
  refine ⟨p++[.quote bs'],?_⟩
  show Zp a _ (insE (ctx.length+1+d) _ e) _ _ _ _ _
  rw [Nat.add_right_comm,k2]
  exact .down h1 z
theorem Zp.push {p c:List Bk}(h:Zp a bs es ctx as b cur fs) (e:cur=p++[.quote c]):∃ gs pp a' es',fs=gs++[two nQ pp a' es']/\Zp a bs es (ctx++[p]) (as++[a']) a' c es':=by
 induction h with
 | here h =>
  subst e
  obtain ⟨gs,e,rfl,h1,pp,a',es',rfl,h2⟩:=h.cut
  exact ⟨gs,pp,a',es',rfl,.down h1 (.here h2)⟩
 | down h1 _ ih =>
  obtain ⟨gs,pp,a',es',e',z⟩:=ih e
  exact ⟨gs,pp,a',es',e',.down h1 z⟩
theorem Zp.pop {p:List Bk}(h:Zp a bs es ctx as b cur fs):∀ {ctx':List (List Bk)},ctx=ctx'++[p]->∃ as' b' fs',as=as'++[b]/\Zp a bs es ctx' as' b' (p++[.quote cur]) fs':=by
 induction h with
 | here h=>intro ctx' e;exact absurd e (by simp)
 | @down a a' b pp p' bs cur pe es fs ctx as h1 h2 ih =>
  intro ctx' e
  cases ctx' with
  | nil =>
   obtain ⟨e1,e2⟩:=List.cons.inj e
   subst e1;subst e2
   cases h2 with
   | here h=>exact ⟨[a],a,_,rfl,.here (h1.add (rb_quote h))⟩
  | cons x ctx' =>
   obtain ⟨e1,e2⟩:=List.cons.inj e
   subst e1
   obtain ⟨as',b',fs',e3,z⟩:=ih e2
   exact ⟨a::as',b',fs',by rw [e3];rfl,.down h1 z⟩
end
structure TS (H0:Heap) (ctx:List (List Bk)) (cur:List Bk) (as:List Nat) (b:Nat) (bs:List Bk) (rt fs:List En) (H:Heap):Prop where
 len:H0.length+2<=H.length
 old:Eqv H0 H 0 H0.length
 pile:H[H0.length+1]? = some (as.map V.ref)
 zp:Zp H0.length bs rt ctx as b cur fs
 nd:Nd H H0.length H.length H0.length rt
 ft:∀ i,fprs rt i->H0.length+2<=i
section
variable {H0 H G:Heap}{ctx:List (List Bk)}{cur:List Bk}{as:List Nat}{b:Nat}{bs:List Bk}{rt fs:List En}
theorem TS.up (h:TS H0 ctx cur as b bs rt fs H) (g:Grow H G):Nd G H0.length H.length H0.length rt :=
 h.nd.mono (fun i k=>g.old i (Nat.zero_le _) (by
  rcases k with k | k
  ·have:=h.len;lia
  ·exact (h.nd.2.foot k).2)) (Nat.le_refl _)
theorem TS.grow (h:TS H0 ctx cur as b bs rt fs H) (g:Grow H G):TS H0 ctx cur as b bs rt fs G :=
 ⟨Nat.le_trans h.len g.len,h.old.trans (g.old.sub (Nat.le_refl _) (Nat.le_trans (Nat.le_add_right _ _) h.len)),g.get h.pile,h.zp,(h.up g).mono (fun _ _=>rfl) g.len,h.ft⟩
theorem TS.put {d c:Nat}{e:En}{gs:List En}{cur':List Bk}(h:TS H0 ctx cur as b bs rt fs H) (g:Grow H G) (he:Ok G e H.length G.length) (hp:Pth b fs d c gs) (k:RBks cur' (insE d fs e)) :
  G[c]? = some (gs.map enV)/\∃ bs' rt',TS H0 ctx cur' as b bs' rt' (insE d fs e) (G.set c (gs.map enV++[enV e])):=by
 have hI:=put_in he (h.zp.pth.more hp) (h.up g)
 obtain ⟨bs',z⟩:=h.zp.ins k
 have hc:c=H0.length∨H0.length+2<=c:=hI.mem.imp id (h.ft c)
 have hg:=h.grow g
 refine ⟨hI.here,bs',_,by rw [List.length_set];exact hg.len,hg.old.trans (Eqv.set (Or.inr (by lia))),?_,z,by rw [List.length_set];exact hI.nd,fun i k=>?_⟩
 ·rw [List.getElem?_set_ne (by lia)];exact hg.pile
 ·rcases hI.ft i k with k | k
  ·exact h.ft i k
  ·exact Nat.le_trans h.len (he.foot k).1
theorem TS.repile {ctx':List (List Bk)}{cur':List Bk}{as':List Nat}{b':Nat}{fs':List En}(h:TS H0 ctx cur as b bs rt fs H) (z:Zp H0.length bs rt ctx' as' b' cur' fs'):TS H0 ctx' cur' as' b' bs rt fs' (H.set (H0.length+1) (as'.map V.ref)):=by
 refine ⟨by rw [List.length_set];exact h.len,h.old.trans (Eqv.set (Or.inr (Nat.le_succ _))),List.getElem?_set_self h.len,z,?_,h.ft⟩
 rw [List.length_set]
 refine h.nd.mono (fun i k=>List.getElem?_set_ne ?_) (Nat.le_refl _)
 rcases k with k | k
 ·lia
 ·have:=h.ft i k;lia
theorem TS.here (h:TS H0 ctx cur as b bs rt fs H):H[b]? = some (fs.map enV)/\Rep H (.lst (bkEs cur)) H0.length H.length (.ref b):=by
 have key:∀ {a d b:Nat}{es fs:List En},Pth a es d b fs->∀ {q:Nat},H0.length<=q->Nd H q H.length a es->∃ r,H0.length<=r/\Nd H r H.length b fs:=by
  intro a d b es fs h
  induction h with
  | here=>intro q hq h;exact ⟨q,hq,h⟩
  | @down a d b p r a' es fs es' xs vs _ ih =>
   intro q hq h
   obtain ⟨m,k1,k2⟩:=h.2.cut
   have:=k2.1.2.le
   exact ih (q:=r) (Nat.le_trans hq (Nat.le_trans k1.le (Nat.le_trans k2.1.1 this))) k2.2
 obtain ⟨r,hr,hn⟩:=key h.zp.pth (Nat.le_refl _) h.nd
 refine ⟨hn.1.2.2.2,?_⟩
 have:=hn.rep
 rw [h.zp.typ.x] at this
 exact this.wide hr (Nat.le_refl _)
end
noncomputable def lastN (last:List Nat) (bs:List Bk):List Nat:=match bs.getLast? with
 | some b=>nmB b
 | none=>last
theorem lastN_snoc {last:List Nat}{bs:List Bk}{b:Bk}:lastN last (bs++[b])=nmB b:=by
 unfold lastN;rw [List.getLast?_append];rfl
theorem BOs.snoc {deep:Nat}{b:Bk}:∀ {bs:List Bk}{last:List Nat},BOs deep last (bs++[b])↔BOs deep last bs/\BO1 deep b/\(nmB b≠lastN last bs∨lastN last bs=[104,101,97,100,105,110,103])
 | [],last=>⟨fun h=>⟨trivial,h.1,h.2.1⟩,fun h=>⟨h.2.1,h.2.2,trivial⟩⟩
 | c::bs,last=>by
  show BO1 deep c/\_/\BOs deep (nmB c) (bs++[b])↔(BO1 deep c/\_/\BOs deep (nmB c) bs)/\_
  rw [BOs.snoc (bs:=bs),and_assoc,and_assoc]
  have:lastN last (c::bs)=lastN (nmB c) bs:=by
   cases bs with
   | nil=>rfl
   | cons d bs=>rfl
  rw [this]
mutual
noncomputable def szI:It->Nat
 | .it _ ts sub=>(rowTs ts).length+1+szIs sub
noncomputable def szIs:List It->Nat
 | []=>0
 | i::is=>szI i+szIs is
end
theorem szIs_app:∀ is js:List It,szIs (is++js)=szIs is+szIs js
 | [],js=>(Nat.zero_add _).symm
 | i::is,js=>by show szI i+szIs (is++js)=szI i+szIs is+szIs js;rw [szIs_app is js,Nat.add_assoc]
theorem szIs_ins:∀ (j:Nat) (is:List It) (x:It),szIs (insAt j is x)=szIs is+szI x
 | 0,is,x=>by show szIs (is++[x])=_;rw [szIs_app];rfl
 | j+1,is,x=>by
  rcases snoc_or is with rfl | ⟨is',i,rfl⟩
  ·show szI x+0=0+szI x;rw [Nat.zero_add];rfl
  ·obtain ⟨m,ts,sub⟩:=i
   rw [insAt_succ,szIs_app,szIs_app]
   show szIs is'+((rowTs ts).length+1+szIs (insAt j sub x)+0)=szIs is'+((rowTs ts).length+1+szIs sub+0)+szI x
   rw [szIs_ins j sub x]
   lia
mutual
theorem cnt_sz:∀ i:It,cnt i<=szI i
 | .it n ts sub=>by
  have:=cnts_sz sub
  show cnts sub+1<=(rowTs ts).length+1+szIs sub
  lia
theorem cnts_sz:∀ is:List It,cnts is<=szIs is
 | []=>Nat.le_refl _
 | i::is=>Nat.add_le_add (cnt_sz i) (cnts_sz is)
end
noncomputable def szR:List (List T)->Nat
 | []=>0
 | ts::rs=>(rowTs ts).length+1+szR rs
theorem szR_app:∀ rs qs:List (List T),szR (rs++qs)=szR rs+szR qs
 | [],qs=>(Nat.zero_add _).symm
 | ts::rs,qs=>by show (rowTs ts).length+1+szR (rs++qs)=(rowTs ts).length+1+szR rs+szR qs;rw [szR_app rs qs];lia
theorem len_szR:∀ rs:List (List T),rs.length<=szR rs
 | []=>Nat.le_refl _
 | ts::rs=>by
  have:=len_szR rs
  show rs.length+1<=(rowTs ts).length+1+szR rs
  lia
mutual
noncomputable def szB:Bk->Nat
 | .gap _=>1
 | .head _ ts=>(rowTs ts).length+1
 | .list is=>szIs is+1
 | .para rs=>szR rs+1
 | .quote bs=>szBs bs+1
noncomputable def szBs:List Bk->Nat
 | []=>0
 | b::bs=>szB b+szBs bs
end
theorem szBs_app:∀ as bs:List Bk,szBs (as++bs)=szBs as+szBs bs
 | [],bs=>(Nat.zero_add _).symm
 | a::as,bs=>by show szB a+szBs (as++bs)=szB a+szBs as+szBs bs;rw [szBs_app as bs,Nat.add_assoc]
theorem szBs_one (b:Bk):szBs [b]=szB b:=rfl
theorem len_sz:∀ bs:List Bk,bs.length<=szBs bs
 | []=>Nat.le_refl _
 | b::bs=>by
  have:=len_sz bs
  have:1<=szB b:=by cases b<;>exact Nat.succ_le_succ (Nat.zero_le _)
  show bs.length+1<=szB b+szBs bs
  lia
mutual
theorem PI_of:∀ {above most:Nat}{i:It},IO1 above most i->PI i
 | _,_,.it n ts sub,h=>⟨h.2.1.fit,PIs_of h.2.2⟩
theorem PIs_of:∀ {above most:Nat}{is:List It},IOs above most is->PIs is
 | _,_,[],_=>trivial
 | _,_,i::is,h=>⟨PI_of h.1,PIs_of h.2⟩
end
mutual
theorem fit_B:∀ {deep:Nat}{b:Bk},deep<=9->BO1 deep b->szB b<=W->Fit W (2 * (9 - deep)+46) (bkE b)
 | deep,.gap n,_,h,_=>(fit2 (m:=1) (Fit.at (a:=.i (n:Nat)))).up (Nat.le_refl _) (by lia)
 | deep,.head n ts,_,h,_=>by
  refine (Fit.tup (m:=26) (xs:=[.at (.s [104,101,97,100,105,110,103]),.at (.i (n:Nat)),.lst (encs ts)]) (Nat.le_trans (by decide:(3:Nat)<=4) W4) fun y hy=>?_).up (Nat.le_refl _) (by lia)
  rcases List.mem_cons.mp hy with rfl | hy
  ·exact Fit.at
  ·rcases List.mem_cons.mp hy with rfl | hy
   ·exact Fit.at
   ·rw [List.mem_singleton.mp hy];exact h.2.fit
 | deep,.list is,_,h,hs=>by
  have hc:cnts is<=W:=Nat.le_trans (cnts_sz is) (Nat.le_of_succ_le hs)
  exact (fit2 (Fit.lst (m:=2 * 9+26) (by rw [itEs_len];exact Nat.le_trans (len_cnts is) hc) (fit_its h.2.2 hc (PIs_of h.2.1)))).up (Nat.le_refl _) (by lia)
 | deep,.para rs,_,h,hs=>by
  refine (fit2 (Fit.lst (m:=26) (by rw [paE_len];exact Nat.le_trans (len_szR rs) (Nat.le_of_succ_le hs)) fun y hy=>?_)).up (Nat.le_refl _) (by lia)
  obtain ⟨ts,ht,rfl⟩:=mem_paE hy
  exact (h.2 ts ht).1.fit
 | deep,.quote bs,hd,h,hs=>by
  have hc:szBs bs<=W:=Nat.le_of_succ_le hs
  refine (fit2 (Fit.lst (m:=2 * (9 - (deep+1))+46) (by rw [bkEs_len];exact Nat.le_trans (len_sz bs) hc) (fit_Bs (bs:=bs) h.1 h.2.2 hc))).up (Nat.le_refl _) (by have:=h.1;lia)
theorem fit_Bs:∀ {deep:Nat}{last:List Nat}{bs:List Bk},deep<=9->BOs deep last bs->szBs bs<=W->∀ y∈bkEs bs,Fit W (2 * (9 - deep)+46) y
 | _,_,[],_,_,_=>fun y hy=>nomatch hy
 | deep,last,b::bs,hd,h,hs=>fun y hy=>by
  have hs':szB b+szBs bs<=W:=hs
  rcases List.mem_cons.mp hy with rfl | hy
  ·exact fit_B hd h.1 (Nat.le_trans (Nat.le_add_right _ _) hs')
  ·exact fit_Bs hd h.2.2 (Nat.le_trans (Nat.le_add_left _ _) hs') y hy
end
theorem fit_bs {deep:Nat}{last:List Nat}{bs:List Bk}(hd:deep<=9) (h:BOs deep last bs) (hs:szBs bs<=W):Fit W (2 * (9 - deep)+47) (.lst (bkEs bs)) :=
 Fit.lst (by rw [bkEs_len];exact Nat.le_trans (len_sz bs) hs) (fit_Bs hd h hs)
noncomputable def BC:Nat->List (List Bk)->Prop
 | _,[]=>True
 | i,p::ctx=>(BOs i [] p/\lastN [] p≠nQ/\i<9)/\BC (i+1) ctx
theorem BC.snoc {p:List Bk}:∀ {ctx:List (List Bk)}{i:Nat},BC i (ctx++[p])↔BC i ctx/\BOs (i+ctx.length) [] p/\lastN [] p≠nQ/\i+ctx.length<9
 | [],i=>⟨fun h=>⟨trivial,h.1⟩,fun h=>⟨h.2,trivial⟩⟩
 | q::ctx,i=>by
  show (_/\_/\_)/\BC (i+1) (ctx++[p])↔((_/\_/\_)/\BC (i+1) ctx)/\BOs (i+(ctx.length+1)) [] p/\_/\i+(ctx.length+1)<9
  rw [BC.snoc (ctx:=ctx),and_assoc,and_assoc,and_assoc,show i+(ctx.length+1)=i+1+ctx.length by lia]
  simp only [and_assoc]
noncomputable def szC:List (List Bk)->Nat
 | []=>0
 | p::ctx=>szBs p+1+szC ctx
theorem szC_snoc {p:List Bk}:∀ {ctx:List (List Bk)},szC (ctx++[p])=szC ctx+(szBs p+1)
 | []=>Nat.add_comm _ _
 | q::ctx=>by
  show szBs q+1+szC (ctx++[p])=szBs q+1+szC ctx+(szBs p+1)
  rw [szC_snoc (ctx:=ctx)]
  lia
structure BI (ctx:List (List Bk)) (cur:List Bk) (N:Nat):Prop where
 up:BC 0 ctx
 ok:BOs ctx.length [] cur
 sz:szC ctx+szBs cur<=N
theorem plug_ok {cur:List Bk}(hne:cur≠[]):∀ {ctx:List (List Bk)}{i:Nat},BC i ctx->BOs (i+ctx.length) [] cur->BOs i [] (plug ctx cur)/\plug ctx cur≠[]
 | [],i,_,h=>⟨h,hne⟩
 | p::ctx,i,hc,h=>by
  obtain ⟨h1,h2⟩:=plug_ok hne (ctx:=ctx) (i:=i+1) hc.2 (by rw [show i+1+ctx.length=i+(ctx.length+1) by lia];exact h)
  exact ⟨BOs.snoc.mpr ⟨hc.1.1,⟨hc.1.2.2,h2,h1⟩,Or.inl fun q=>hc.1.2.1 q.symm⟩,fun q=>nomatch (List.append_eq_nil_iff.mp q).2⟩
theorem plug_sz {cur:List Bk}:∀ {ctx:List (List Bk)},szBs (plug ctx cur)=szC ctx+szBs cur
 | []=>(Nat.zero_add _).symm
 | p::ctx=>by
  show szBs (p++[.quote (plug ctx cur)])=szBs p+1+szC ctx+szBs cur
  rw [szBs_app,szBs_one]
  show szBs p+(szBs (plug ctx cur)+1)=_
  rw [plug_sz (ctx:=ctx)]
  lia
theorem BC.deep {ctx:List (List Bk)}(h:BC 0 ctx):ctx.length<=9:=by
 rcases snoc_or ctx with rfl | ⟨c,p,rfl⟩
 ·exact Nat.zero_le _
 ·have:=(BC.snoc.mp h).2.2.2
  rw [List.length_append]
  show c.length+1<=9
  lia
structure FZ where
 w:List Nat
 e:Option V
theorem flat_take {g:T->List Nat}{ts:List T}{i:Nat}{t:T}(h:ts[i]? = some t):(ts.take (i+1)).flatMap g=(ts.take i).flatMap g++g t:=by
 rw [List.take_add_one,h,List.flatMap_append];exact congrArg _ (List.append_nil _)
theorem fold_ok {C:Calls}{B:List S}(g:T->List Nat) {ts:List T}{a lo hi:Nat}{Q:PostV}{H:Heap}(hr:Rep H (.lst (encs ts)) lo hi (.ref a)) (hl:(ts.flatMap g).length<=1000000)
  (step:∀ (i:Nat) (t:T) (v:V) (w:List Nat) (p q:Nat) (R:PostS),ts[i]? = some t->Rep H (enc t) p q v->w.length+(g t).length<=1000000->R .next [some (.ref a),some (.str (w++g t)),some v] H->wpSs C B [some (.ref a),some (.str w),some v] R H)
  (h:Q (.str (ts.flatMap g)) H):wpSs C [.assign 1 (.str []),.forIn 2 (.var 0) B,.ret (.var 1)] [some (.ref a),none,none] (callQ Q) H:=by
 obtain ⟨a',l,p,q,e,hb,ha,hrl⟩:=hr
 cases e
 refine s_assign (fun _ h=>h) (ss_cons (l_for (σ:=FZ) (fun z=>[some (.ref a),some (.str z.w),z.e]) (fun i z G=>G=H/\z.w=(ts.take i).flatMap g) (l:=l) (fun i z G hI=>hI.1▸ha) (fun i z G v hv hI K hK=>?_) (fun z G hI=>?_) ⟨[],none⟩ (fun _ h=>h) ⟨rfl,rfl⟩))
 ·obtain ⟨rfl,hw⟩:=hI
  obtain ⟨t,p',q',ht,_,_,hrt⟩:=getT hrl hv
  have e2:ts.flatMap g=(ts.take (i+1)).flatMap g++(ts.drop (i+1)).flatMap g:=by rw [<- List.flatMap_append,List.take_append_drop]
  rw [e2,flat_take ht,List.length_append,List.length_append] at hl
  refine step i t v z.w p' q' _ ht hrt (by rw [hw];lia) (hK ⟨_,_⟩ _ ⟨rfl,?_⟩)
  rw [flat_take ht,hw]
 ·obtain ⟨rfl,hw⟩:=hI
  refine s_ret (fun _ h=>h) ?_
  show Q (.str z.w) _
  rw [hw,hrl.len,encs_len,List.take_length];exact h
theorem row_flat:∀ ts:List T,rowTs ts=ts.flatMap rowT
 | []=>rfl
 | t::ts=>by show rowT t++rowTs ts=_;rw [row_flat ts];rfl
theorem mulB {c:Nat}{b:Bool}{H:Heap}:binV .mul (.str [c]) (.int (if b then 1 else 0)) H=some (.str (if b then [c] else []),H):=by
 cases b with
 | true=>exact o_mulS (n:=1) ⟨by show 1<=lim;decide,by decide,by decide⟩
 | false=>exact o_mulS (n:=0) ⟨Nat.zero_le _,by decide,by decide⟩
theorem v_cat {C:Calls}{ρ:Env}{H:Heap}{l r:E}{a b:List Nat}(hl:Ev C ρ H l (.str a)) (hr:Ev C ρ H r (.str b)) (h:(a++b).length<=1000000):Ev C ρ H (.bin .add l r) (.str (a++b)):=v_bin hl hr (o_addS (by rw [<- List.length_append];exact Nat.le_trans h lim1))
theorem row_span {c:Nat}{us:List T}{b:Bool}:(rowTs us).length+1<=(rowT (.span c us b)).length:=by
 show _<=([c,40]++rowTs us++_).length
 rw [List.length_append,List.length_append]
 exact Nat.le_trans (by rw [Nat.add_comm];exact Nat.add_le_add_right (by decide:1<=2) _) (Nat.le_add_right _ _)
theorem row_link {us:List T}{g:Option (List Nat)}{b:Bool}:(rowTs us).length+1<=(rowT (.link us g b)).length:=by
 have h:(rowTs us).length+1<=([91]++rowTs us).length:=by rw [List.length_append,Nat.add_comm];exact Nat.le_refl _
 cases g with
 | none=>show _<=([91]++rowTs us++_).length;rw [List.length_append];exact Nat.le_trans h (Nat.le_add_right _ _)
 | some g=>show _<=([91]++rowTs us++[93,40]++g++_).length;rw [List.length_append,List.length_append,List.length_append];exact Nat.le_trans h (Nat.le_trans (Nat.le_add_right _ _) (Nat.le_trans (Nat.le_add_right _ _) (Nat.le_add_right _ _)))
theorem pos_of {x m:Nat}(h:x+1<=m):∃ m',m=m'+1:=by
 cases m with
 | zero=>cases h
 | succ m=>exact ⟨m,rfl⟩
theorem pred_of {deep d:Nat}(hd:deep+d=9) (h:deep<9):∃ d',d=d'+1:=by
 cases d with
 | zero=>exact absurd hd (Nat.ne_of_lt h)
 | succ d=>exact ⟨d,rfl⟩
noncomputable def LRs (d n:Nat):Prop:=∀ (ts:List T) (a lo hi:Nat) (H:Heap) (Q:PostV),GTs d ts->Rep H (.lst (encs ts)) lo hi (.ref a)->(rowTs ts).length<=1000000->Q (.str (rowTs ts)) H->callN P n "_law_row" [.ref a] Q H
theorem lrow_body {n d:Nat}(ih:d<12->LRs (d+1) n):LRs d (n+1):=by
 intro ts a lo hi H Q hg hr hl h
 rw [row_flat] at h hl
 refine in_law_row (fold_ok rowT hr hl (fun i t v w p q R ht hrt hlen hR=>?_) h)
 have hgt:=hg.get ht
 have hT:(w++rowT t).length<=1000000:=by rw [List.length_append];exact hlen
 clear hlen
 have ih1:∀ {us:List T}{a2:Nat}{u:List Nat}{ρ:Env}{e:E},d<12->GTs (d+1) us->Rep H (.lst (encs us)) p q (.ref a2)->(u++rowTs us).length<=1000000->Ev (callN P n) ρ H e (.ref a2)->Ev (callN P n) ρ H (.call "_law_row" [e]) (.str (rowTs us)):=fun h1 h2 h3 h4 h5=>v_call (v_cons h5 v_nil) fun Q q=>ih h1 _ _ _ _ H Q h2 h3 (suf h4) q
 cases t with
 | txt s =>
  rw [show v=.str s from hrt] at hR ⊢
  exact s_iteT (fun _ h=>h) (s_assign (v_cat (fun _ h=>h) (fun _ h=>h) hT) hR)
 | kept s =>
  rw [un_kept hrt] at hR ⊢
  replace hT:(w++([92]++s)).length<=1000000:=hT
  replace hR:R .next [some (.ref a),some (.str (w++([92]++s))),some (keptV s)] H:=hR
  rw [<- List.append_assoc] at hR hT
  exact s_iteF (fun _ h=>h) (s_iteT (fun _ h=>h) (s_assign (v_cat (v_cat (fun _ h=>h) v_str (pre hT)) (fun _ h=>h) hT) hR))
 | code s b =>
  rw [un_code hrt] at hR ⊢
  replace hT:(w++([96]++s++(if b then [96] else []))).length<=1000000:=hT
  replace hR:R .next [some (.ref a),some (.str (w++([96]++s++(if b then [96] else [])))),some (codV s b)] H:=hR
  rw [<- List.append_assoc,<- List.append_assoc] at hR hT
  exact s_iteF (fun _ h=>h) (s_iteF (fun _ h=>h) (s_iteT (fun _ h=>h) (s_assign (v_cat (v_cat (v_cat (fun _ h=>h) v_str (pre (pre hT))) (fun _ h=>h) (pre hT)) (v_bin v_str (v_toInt (fun _ h=>h)) mulB) hT) hR)))
 | span c us b =>
  obtain ⟨a2,rfl,hra⟩:=un_span hrt
  replace hT:(w++([c]++([40]++rowTs us)++(if b then [41] else []))).length<=1000000:=hT
  replace hR:R .next [some (.ref a),some (.str (w++([c]++([40]++rowTs us)++(if b then [41] else [])))),some (spanV c a2 b)] H:=hR
  rw [<- List.append_assoc,<- List.append_assoc,<- List.append_assoc] at hR hT
  exact s_iteF (fun _ h=>h) (s_iteF (fun _ h=>h) (s_iteF (fun _ h=>h) (s_iteT (fun _ h=>h) (s_assign (v_cat (v_cat (v_cat (fun _ h=>h) (fun _ h=>h) (pre (pre (pre hT)))) v_str (pre (pre hT))) (ih1 hgt.1 hgt.2.2 hra (pre hT) (fun _ h=>h)) (pre hT)) (s_assign (v_cat (fun _ h=>h) (v_bin v_str (v_toInt (fun _ h=>h)) mulB) hT) hR)))))
 | link us g b =>
  obtain ⟨a2,rfl,hra⟩:=un_link hrt
  cases g with
  | none =>
   replace hT:(w++([91]++rowTs us++(if b then [93] else []))).length<=1000000:=hT
   replace hR:R .next [some (.ref a),some (.str (w++([91]++rowTs us++(if b then [93] else [])))),some (linkV a2 none b)] H:=hR
   rw [<- List.append_assoc,<- List.append_assoc] at hR hT
   exact s_iteF (fun _ h=>h) (s_iteF (fun _ h=>h) (s_iteF (fun _ h=>h) (s_iteF (fun _ h=>h) (s_iteT (fun _ h=>h) (s_assign (v_cat (v_cat (v_cat (fun _ h=>h) v_str (pre (pre hT))) (ih1 hgt.1 hgt.2.2 hra (pre hT) (fun _ h=>h)) (pre hT)) (v_bin v_str (v_toInt (fun _ h=>h)) mulB) hT) hR)))))
  | some g =>
   replace hT:(w++([91]++rowTs us++[93,40]++g++(if b then [41] else []))).length<=1000000:=hT
   replace hR:R .next [some (.ref a),some (.str (w++([91]++rowTs us++[93,40]++g++(if b then [41] else [])))),some (linkV a2 (some g) b)] H:=hR
   rw [<- List.append_assoc,<- List.append_assoc,<- List.append_assoc,<- List.append_assoc] at hR hT
   exact s_iteF (fun _ h=>h) (s_iteF (fun _ h=>h) (s_iteF (fun _ h=>h) (s_iteF (fun _ h=>h) (s_iteF (fun _ h=>h) (s_assign (v_cat (v_cat (v_cat (fun _ h=>h) v_str (pre (pre (pre (pre hT))))) (ih1 hgt.1 hgt.2.2 hra (pre (pre (pre hT))) (fun _ h=>h)) (pre (pre (pre hT)))) v_str (pre (pre hT))) (s_assign (v_cat (v_cat (fun _ h=>h) (fun _ h=>h) (pre hT)) (v_bin v_str (v_toInt (fun _ h=>h)) mulB) hT) hR))))))
theorem lrow_ok:∀ (m d n:Nat),d+m=12->LRs d (n+m+1)
 | 0,d,n,h=>lrow_body fun q=>absurd h (Nat.ne_of_lt q)
 | m+1,d,n,h=>lrow_body fun _=>lrow_ok m (d+1) n ((Nat.add_right_comm d 1 m).trans h)
theorem v_lstrip {C:Calls}{ρ:Env}{H:Heap}{o a:E}{s:List Nat}{c:Nat}(ho:Ev C ρ H o (.str s)) (ha:Ev C ρ H a (.str [c])):Ev C ρ H (.lstrip o a) (.str (s.dropWhile (· == c))):=fun _ k=>ho _ (ha _ k)
theorem run_strip (c:Nat):∀ row:List Nat,(row.length:Int) - ((row.dropWhile (· == c)).length:Int)=(runL c row:Int)
 | []=>rfl
 | x::r=>by
  have ih:=run_strip c r
  by_cases h:x=c
  ·rw [List.dropWhile_cons_of_pos (by simpa using h)]
   have e:runL c (x::r)=runL c r+1:=if_pos h
   rw [e,List.length_cons]
   lia
  ·rw [List.dropWhile_cons_of_neg (by simpa using h)]
   have e:runL c (x::r)=0:=if_neg h
   rw [e]
   lia
theorem in_six {k:Nat}{H:Heap}:cmpV .isin (.int (k:Nat)) (.tup [.int 1,.int 2,.int 3,.int 4,.int 5,.int 6]) H=some (decide (1<=k)&&decide (k<=6)):=by
 match k with
 | 0=>rfl
 | 1=>rfl
 | 2=>rfl
 | 3=>rfl
 | 4=>rfl
 | 5=>rfl
 | 6=>rfl
 | k+7=>rfl
theorem shp4 {deep:Nat}{row:List Nat}(h0:(row==[])=false) (h1:isQ deep row=false) (h2:isRun 35 6 row=false) (h3:isRun 45 9 row=false):(shp deep row).k=4:=by
 cases row with
 | nil=>cases h0
 | cons x r =>
  show (shpN deep (x::r)).k=4
  unfold shpN
  rw [h1,h2,h3];rfl
theorem shpz {deep:Nat}{r:List Nat}:(shp deep (122::r)).k=4:=shp4 rfl (by unfold isQ;cases r<;>simp) rfl rfl
noncomputable def plainB (deep:Nat) (row:List Nat):Bool :=
 bif decide (1<=runL 35 row)&&decide (runL 35 row<=6)&&((row.drop (runL 35 row)).take 1==[32]) then false
 else bif decide ((0:Int)<(runL 45 row:Int))&&decide ((runL 45 row:Int)<10)&&((row.drop (runL 45 row)).take 1==[32]) then false
 else (!(row==[])&&(!(slice row none (some 2)==[62,32])||(deep:Int)==9))
theorem plain_row_ok {n deep:Nat}{row:List Nat}{H:Heap}(hd:deep<=9) (Q:PostV) (h:∀ b,b=plainB deep row->(b=true->(shp deep row).k=4)->Q (.bool b) H):callN P (n+1) "_law_plain_row" [.str row,.int (deep:Nat)] Q H:=by
 have sp:∀ {x k:Nat}{ρ:Env}{C:Calls},ρ[0]? = some (some (.str row))->ρ[x]? = some (some (.int (k:Nat)))->Ev C ρ H (.cmp .eq (.slc (.var 0) (.var x) (.bin .add (.var x) (.int 1))) (.str [32])) (.bool ((row.drop k).take 1==[32])):=fun h0 hx=>e_sp h0 hx
 refine in_law_plain_row (s_assign (v_e (v_bin (v_len (fun _ h=>h) o_lenS) (v_len (v_lstrip (fun _ h=>h) v_str) o_lenS) o_subI) (congrArg V.int (run_strip 35 row))) (s_assign (v_e (v_bin (v_len (fun _ h=>h) o_lenS) (v_len (v_lstrip (fun _ h=>h) v_str) o_lenS) o_subI) (congrArg V.int (run_strip 45 row))) ?_))
 refine s_ite (v_and2 (v_cmp (fun _ h=>h) (fun _ h=>h) in_six) fun _=>v_and1 (sp rfl rfl)) (fun h2=>s_ret (fun _ h=>h) (h false (by unfold plainB;rw [h2];rfl) fun q=>nomatch q)) (fun h2=>?_)
 refine s_ite (v_and2 (v_cmp2 v_int (fun _ h=>h) v_int o_lt o_lt) fun _=>v_and1 (sp rfl rfl)) (fun h3=>s_ret (fun _ h=>h) (h false (by unfold plainB;rw [h2,h3];rfl) fun q=>nomatch q)) (fun h3=>?_)
 refine s_ret (ss:=[]) (v_and2 (v_cmp (fun _ h=>h) v_str o_neS) fun _=>v_and1 (v_or2 (v_cmp (v_slcH (fun _ h=>h) v_int o_slcS) v_str o_neS) fun _=>v_or1 (v_cmp (fun _ h=>h) v_int o_eqI))) (h _ (by unfold plainB;rw [h2,h3];rfl) fun q=>?_)
 obtain ⟨q1,q2⟩:=Bool.and_eq_true_iff.mp q
 refine shp4 (by simpa using q1) ?_ ?_ ?_
 ·unfold isQ
  have e:slice row none (some 2)=row.take 2:=slice_to (by decide)
  rw [e] at q2
  cases hq:(row.take 2==[62,32]) with
  | false=>exact Bool.and_false _
  | true =>
   rw [hq] at q2
   have:deep=9:=by
    have:=beq_iff_eq.mp q2
    lia
   rw [this];rfl
 ·unfold isRun;rw [Bool.and_assoc] at h2;exact h2
 ·unfold isRun
  have e1:decide ((0:Int)<(runL 45 row:Int))=decide (1<=runL 45 row):=decide_eq_decide.mpr (by lia)
  have e2:decide ((runL 45 row:Int)<10)=decide (runL 45 row<=9):=decide_eq_decide.mpr (by lia)
  rw [e1,e2,Bool.and_assoc] at h3;exact h3
noncomputable def ahead (w:List Nat):List T->List T
 | []=>[.txt w]
 | .txt s::ts=>.txt (w++s)::ts
 | t::ts=>.txt w::t::ts
theorem ahead_cons {w:List Nat}{t:T}{ts:List T}(h:txT t=false):ahead w (t::ts)=.txt w::t::ts:=by
 cases t with
 | txt s=>cases h
 | _=>rfl
theorem ahead_row {w:List Nat}{ts:List T}:rowTs (ahead w ts)=w++rowTs ts:=by
 cases ts with
 | nil=>rfl
 | cons t ts =>
  cases t with
  | txt s=>show (w++s)++rowTs ts=w++(s++rowTs ts);rw [List.append_assoc]
  | _=>rfl
theorem ahead_snoc {w:List Nat}{t:T}{ts:List T}(h:ts≠[]∨txT t=false):ahead w (ts++[t])=ahead w ts++[t]:=by
 cases ts with
 | nil =>
  rcases h with h | h
  ·exact absurd rfl h
  ·exact ahead_cons h
 | cons u ts =>
  cases u with
  | txt s=>rfl
  | _=>rfl
theorem ahead_end {w:List Nat}{ts:List T}(hn:NoTxt ts) (h:ts≠[]):NoTxt (ahead w ts)/\(Barred (ahead w ts)->Barred ts):=by
 rcases snoc_or ts with rfl | ⟨r,t,rfl⟩
 ·exact absurd rfl h
 ·have ht:txT t=false:=by
   cases t with
   | txt s=>exact absurd rfl (hn r s)
   | _=>rfl
  rw [ahead_snoc (Or.inr ht)]
  refine ⟨fun us s e=>?_,fun q=>?_⟩
  ·rw [notxt_snoc e] at ht;cases ht
  ·obtain ⟨vs,e⟩:=barred_snoc (us:=r) q
   exact ⟨r,vs,by rw [e]⟩
theorem Good.ahead {deep:Nat}{kd:Kd}{w:List Nat}{ts:List T}(h:Good deep kd ts) (h1:PlainIn deep kd w) (h2:∀ s,PlainIn deep kd s->PlainIn deep kd (w++s)):Good deep kd (ahead w ts):=by
 have n0:NoTxt []:=fun us s q=>absurd q (by simp)
 have b0:¬ Barred []:=notBar rfl
 induction h with
 | nil=>exact .txt (ts:=[]) .nil n0 h1 fun q=>absurd q b0
 | @txt deep kd ts s hg hn hp hb ih =>
  by_cases he:ts=[]
  ·subst he;exact .txt (ts:=[]) .nil n0 (h2 s hp) fun q=>absurd q b0
  ·rw [ahead_snoc (Or.inl he)]
   exact .txt (ih h1 h2) (ahead_end hn he).1 hp fun q=>hb ((ahead_end hn he).2 q)
 | kept _ ih=>rw [ahead_snoc (Or.inr rfl)];exact .kept (ih h1 h2)
 | code _ k ih=>rw [ahead_snoc (Or.inr rfl)];exact .code (ih h1 h2) k
 | span _ k1 k2 k3 ih _=>rw [ahead_snoc (Or.inr rfl)];exact .span (ih h1 h2) k1 k2 k3
 | link _ k1 k2 k3 ih _=>rw [ahead_snoc (Or.inr rfl)];exact .link (ih h1 h2) k1 k2 k3
theorem Opn.ahead {deep:Nat}{kd:Kd}{w:List Nat}{ts:List T}(h:Opn deep kd ts) (h1:PlainIn deep kd w) (h2:∀ s,PlainIn deep kd s->PlainIn deep kd (w++s)):Opn deep kd (ahead w ts):=by
 cases h with
 | good hg=>exact .good (hg.ahead h1 h2)
 | kept hg=>rw [ahead_snoc (Or.inr rfl)];exact .kept (hg.ahead h1 h2)
 | code hg k=>rw [ahead_snoc (Or.inr rfl)];exact .code (hg.ahead h1 h2) k
 | span hg k1 k2 k3=>rw [ahead_snoc (Or.inr rfl)];exact .span (hg.ahead h1 h2) k1 k2 k3
 | bare hg k1 k2=>rw [ahead_snoc (Or.inr rfl)];exact .bare (hg.ahead h1 h2) k1 k2
 | link hg k1 k2 k3=>rw [ahead_snoc (Or.inr rfl)];exact .link (hg.ahead h1 h2) k1 k2 k3
noncomputable def aw (w:List Nat):Bool:=w != []&&w.all (fun c=>sgB c&&c != 92&&c != 96&&c != 91&&c != 42&&c != 95&&c != 126)&&decide (w.length<=10)
structure AW (w:List Nat):Prop where
 ne:w≠[]
 all:∀ c∈w,sgB c=true/\c≠92/\c≠96/\c≠91/\[42,95,126].contains c=false
 len:w.length<=10
theorem aw_ok {w:List Nat}(h:aw w=true):AW w:=by
 obtain ⟨h,h3⟩:=Bool.and_eq_true_iff.mp h
 obtain ⟨h1,h2⟩:=Bool.and_eq_true_iff.mp h
 refine ⟨by simpa using h1,fun c hc=>?_,of_decide_eq_true h3⟩
 have:=List.all_eq_true.mp h2 c hc
 simp only [Bool.and_eq_true,bne_iff_ne] at this
 refine ⟨this.1.1.1.1.1.1,this.1.1.1.1.1.2,this.1.1.1.1.2,this.1.1.1.2,?_⟩
 cases hq:[42,95,126].contains c with
 | false=>rfl
 | true =>
  have hm:=List.contains_iff_mem.mp hq
  rcases List.mem_cons.mp hm with q | hm
  ·exact absurd q this.1.1.2
  ·rcases List.mem_cons.mp hm with q | hm
   ·exact absurd q this.1.2
   ·exact absurd (List.mem_singleton.mp hm) this.2
theorem AW.plain {w:List Nat}{s:List Nat}(h:AW w) (hs:∀ c∈s,c≠92/\c≠96/\(0<12->c≠91)) (hp:∀ a b c,s=a++c::40::b->[42,95,126].contains c=false):PlainIn 0 .top (w++s):=by
 refine ⟨fun q=>h.ne (List.append_eq_nil_iff.mp q).1,fun c hc=>?_,fun _ a b c e=>?_⟩
 ·rcases List.mem_append.mp hc with q | q
  ·have:=h.all c q
   exact ⟨this.2.1,this.2.2.1,(fun q=>nomatch q),(fun q=>nomatch q),fun _=>this.2.2.2.1⟩
  ·exact ⟨(hs c q).1,(hs c q).2.1,(fun q=>nomatch q),(fun q=>nomatch q),(hs c q).2.2⟩
 ·rcases List.append_eq_append_iff.mp e with ⟨r,e1,e2⟩ | ⟨r,e1,e2⟩
  ·exact hp r b c e2
  ·cases r with
   | nil=>exact hp [] b c e2.symm
   | cons x r =>
    have:x=c:=(List.cons.inj e2).1.symm
    subst this
    exact (h.all x (by rw [e1];exact List.mem_append.mpr (Or.inr (.head _)))).2.2.2.2
structure PT (ts:List T) (N:Nat):Prop where
 op:Opn 0 .top ts
 sg:Sg (rowTs ts)
 len:(rowTs ts).length<=N
theorem PT.ct {ts:List T}{N:Nat}(h:PT ts N) (hN:N<=900000):Ct ts:=⟨h.sg,pts_eq h.op.back,Nat.le_trans h.len hN⟩
theorem PT.ahead {w:List Nat}{ts:List T}{N:Nat}(h:PT ts N) (hw:AW w):PT (ahead w ts) (N+10):=by
 refine ⟨h.op.ahead ?_ ?_,?_,?_⟩
 ·have:=hw.plain (s:=[]) (fun c q=>nomatch q) (fun a b c e=>absurd e (by simp))
  rw [List.append_nil] at this
  exact this
 ·intro s hs
  exact hw.plain (fun c q=>⟨(hs.all c q).1,(hs.all c q).2.1,(hs.all c q).2.2.2.2⟩) (hs.pair (by decide))
 ·rw [ahead_row];exact Sg.app (fun c q=>(hw.all c q).1) h.sg
 ·rw [ahead_row,List.length_append];have:=h.len;have:=hw.len;lia
noncomputable def full {α:Type}:List α->Bool
 | []=>false
 | _::_=>true
theorem eq_nil {C:Calls}{ρ:Env}{H:Heap}{xs:List X}{a lo hi m:Nat}{e:E}(he:Ev C ρ H e (.ref a)) (hm:m<100) (hf:Fit W m (.lst xs)) (ho:okXs xs) (h:Rep H (.lst xs) lo hi (.ref a)) (hh:hi<=H.length):EvH C ρ H (.cmp .eq e (.list [])) (.bool (!full xs)) (fun G=>G=H++[[]]) :=
 h_cmp (h_ev he) (fun G g=>by subst g;exact h_list0) fun G g=>by
  subst g
  cases xs with
  | nil=>exact eq_X (w:=W) hm hf ho (h.grow .one hh) (rep_lst (lo:=H.length) (hi:=H.length+1) ⟨Nat.le_refl _,Nat.lt_succ_self _,Nat.le_refl _,Nat.le_succ _⟩ g_last (.nil (Nat.le_refl _)))
  | cons x xs=>exact ne_X hm hf ho (h.grow .one hh) g_last
theorem ne_nil {C:Calls}{ρ:Env}{H:Heap}{xs:List X}{a lo hi m:Nat}{e:E}(he:Ev C ρ H e (.ref a)) (hm:m<100) (hf:Fit W m (.lst xs)) (ho:okXs xs) (h:Rep H (.lst xs) lo hi (.ref a)) (hh:hi<=H.length):EvH C ρ H (.cmp .ne e (.list [])) (.bool (full xs)) (fun G=>G=H++[[]]) :=
 h_cmp (h_ev he) (fun G g=>by subst g;exact h_list0) fun G g=>by
  subst g
  have q:cmpV .eq (.ref a) (.ref H.length) (H++[[]])=some (!full xs):=by
   cases xs with
   | nil=>exact eq_X (w:=W) hm hf ho (h.grow .one hh) (rep_lst (lo:=H.length) (hi:=H.length+1) ⟨Nat.le_refl _,Nat.lt_succ_self _,Nat.le_refl _,Nat.le_succ _⟩ g_last (.nil (Nat.le_refl _)))
   | cons x xs=>exact ne_X hm hf ho (h.grow .one hh) g_last
  have q2:=congrArg (Option.map not) q
  exact q2.trans (congrArg some (Bool.not_not _))
theorem h_andF {C:Calls}{ρ:Env}{H:Heap}{Φ:Heap->Prop}{e f:E}{es:List E}(h1:EvH C ρ H e (.bool false) Φ):EvH C ρ H (.and (e::f::es)) (.bool false) Φ:=fun Q k=>h1 _ fun G g=>k G g
theorem hs_iteF {C:Calls}{ρ:Env}{H:Heap}{R:PostS}{ss:List S}{Φ:Heap->Prop}{c:E}{t f:List S}(hc:EvH C ρ H c (.bool false) Φ) (k:∀ G,Φ G->wpSs C f ρ (andThen C ss R) G):wpSs C (.ite c t f::ss) ρ R H:=hc _ fun G g=>k G g
noncomputable def AhQ (H:Heap) (ts:List T) (lo:Nat) (Q:PostV):Prop:=∀ c G,Grow H G->Rep G (.lst (encs ts)) lo G.length (.ref c)->Q (.ref c) G
theorem ahead_ok {n a lo hi N:Nat}{w:List Nat}{ts:List T}{H:Heap}{Q:PostV}(hw:w.length<=10) (hp:PT ts N) (hN:N<=10000) (hr:Rep H (.lst (encs ts)) lo hi (.ref a)) (hh:hi<=H.length) (h:AhQ H (ahead w ts) lo Q):callN P (n+1) "_law_ahead" [.str w,.ref a] Q H:=by
 have hlim:lim=16777216:=rfl
 have hct:=hp.ct (Nat.le_trans hN (by decide))
 have en:=ne_nil (C:=callN P n) (ρ:=[some (.str w),some (.ref a)]) (e:=.var 1) (by exact fun _ h=>h) (by decide:26<100) hct.fit (ok_Ts hct.good) hr hh
 obtain ⟨a',l,p,q,e,hb,ha,hrl⟩:=hr
 cases e
 have hll:l.length<=10000:=by
  have h1:=hct.fit.1
  rw [hrl.len,encs_len]
  have:ts.length<=(rowTs ts).length:=by
   cases hp.op with
   | good hg=>exact hg.len
   | kept hg=>rw [rowTs_app,List.length_append,List.length_append];exact Nat.add_le_add hg.len (by show 1<=(rowTs [_]).length;rw [rowTs_one];exact Nat.succ_le_succ (Nat.zero_le _))
   | code hg _=>rw [rowTs_app,List.length_append,List.length_append];exact Nat.add_le_add hg.len (by show 1<=(rowTs [_]).length;rw [rowTs_one];exact Nat.succ_le_succ (Nat.zero_le _))
   | span hg _ _ _=>rw [rowTs_app,List.length_append,List.length_append];exact Nat.add_le_add hg.len (by show 1<=(rowTs [_]).length;rw [rowTs_one];exact Nat.succ_le_succ (Nat.zero_le _))
   | bare hg _ _=>rw [rowTs_app,List.length_append,List.length_append];exact Nat.add_le_add hg.len (by show 1<=(rowTs [_]).length;rw [rowTs_one];exact Nat.succ_le_succ (Nat.zero_le _))
   | link hg _ _ _=>rw [rowTs_app,List.length_append,List.length_append];exact Nat.add_le_add hg.len (by show 1<=(rowTs [_]).length;rw [rowTs_one];exact Nat.succ_le_succ (Nat.zero_le _))
  exact Nat.le_trans this (Nat.le_trans hp.len hN)
 have ha1:(H++[[]])[a]? = some l:=g_skip ha
 have els:ahead w ts=.txt w::ts->wpSs (callN P n) [.ret (.bin .add (.list [.var 0]) (.var 1))] [some (.str w),some (.ref a)] (callQ Q) (H++[[]]):=fun e=>by
  refine ss_ret (e_bin (e_list (es_ev (v:=.str w) (by exact fun _ h=>h) (es_nil ?_))))
  refine e_var rfl (r_addR g_last (g_skip ha1) (Nat.le_trans (Nat.add_le_add_left hll 1) (by show 1+10000<=16777216;decide)) ?_)
  have gr:Grow H (H++[[]]++[[V.str w]]++[[V.str w]++l]):=(Grow.one.trans .one).trans .one
  refine h _ _ gr ?_
  rw [e]
  refine rep_lst ⟨?_,?_,hb.lp,?_⟩ g_last (.atom (a:=.s w) (hrl.to (gr.old.sub (Nat.zero_le _) (Nat.le_trans hb.qh hh))))
  ·rw [len1,len1];exact Nat.le_trans hb.la (Nat.le_trans (Nat.le_of_lt hb.ah) (Nat.le_trans hh (Nat.le_add_right _ 2)))
  ·rw [len1 (H:=H++[[]]++[[V.str w]])];exact Nat.lt_succ_self _
  ·exact Nat.le_trans hb.qh (Nat.le_trans hh gr.len)
 refine in_law_ahead ?_
 cases ts with
 | nil=>exact hs_skip (h_andF en) fun G g=>by subst g;exact els rfl
 | cons t ts =>
  obtain ⟨v,r,m,rfl,hm1,hv,hrr⟩:=hrl
  have e1:∀ G,G=H++[[]]->EvH (callN P n) [some (.str w),some (.ref a)] G (.and [.isinst (.idx (.var 1) (.int 0)) .str]) (.bool (isinstV v .str)) (fun G=>G=H++[[]]):=fun G g=>by
   subst g
   exact h_and1 (h_ev (v_inst (v_idx (by exact fun _ h=>h) v_int (i_ref (i:=0) ha1 rfl))))
  cases ht:txT t with
  | false =>
   have hf:isinstV v .str=false:=by
    cases t with
    | txt s=>cases ht
    | kept s=>rw [un_kept hv];rfl
    | code s b=>rw [un_code hv];rfl
    | span c us b=>obtain ⟨_,e,_⟩:=un_span hv;rw [e];rfl
    | link us g b=>obtain ⟨_,e,_⟩:=un_link hv;rw [e];rfl
   rw [hf] at e1
   exact hs_skip (h_and2 en e1) fun G g=>by subst g;exact els (ahead_cons ht)
  | true =>
   obtain ⟨s,rfl⟩:∃ s,t=.txt s:=by
    cases t with
    | txt s=>exact ⟨s,rfl⟩
    | _=>cases ht
   obtain rfl:v=.str s:=hv
   refine hs_iteT (h_and2 en e1) fun G g=>?_
   subst g
   have hs:s.length<=10000:=by
    have:=hp.len
    replace this:(s++rowTs ts).length<=N:=this
    rw [List.length_append] at this
    exact Nat.le_trans (Nat.le_add_right _ _) (Nat.le_trans this hN)
   refine ss_ret (e_bin (e_list (es_ev (v:=.str (w++s)) (v_bin (by exact fun _ h=>h) (v_idx (by exact fun _ h=>h) v_int (i_ref (i:=0) ha1 rfl)) (o_addS (Nat.le_trans (Nat.add_le_add hw hs) (by show 10+10000<=16777216;decide)))) (es_nil ?_))))
   have sl:slcV (.ref a) (some 1) none (H++[[]]++[[V.str (w++s)]])=some (.ref (H++[[]]++[[V.str (w++s)]]).length,H++[[]]++[[V.str (w++s)]]++[r]):=by
    show ((H++[[]]++[[V.str (w++s)]])[a]?).map _=_
    rw [g_skip ha1]
    show some (_,_++[slice (V.str s::r) (some 1) none])=_
    rw [slice_from (by decide)];rfl
   have e2:∀ Q:PostV,Q (.ref (H++[[]]++[[V.str (w++s)]]).length) (H++[[]]++[[V.str (w++s)]]++[r])->wpE (callN P n) (.slcL (.var 1) (.int 1)) [some (.str w),some (.ref a)] Q (H++[[]]++[[V.str (w++s)]]):=fun Q q=>by
    show res (slcV (.ref a) (some 1) none (H++[[]]++[[V.str (w++s)]])) Q
    rw [sl];exact q
   refine e2 _ (r_addR (g_skip g_last) g_last (by rw [Nat.add_comm];exact Nat.le_trans hll (by show 10000<=16777216;decide)) ?_)
   have gr:Grow H (H++[[]]++[[V.str (w++s)]]++[r]++[[V.str (w++s)]++r]):=((Grow.one.trans .one).trans .one).trans .one
   refine h _ _ gr ?_
   refine rep_lst ⟨?_,?_,Nat.le_trans hb.lp hm1,?_⟩ g_last (Reps.atom (a:=.s (w++s)) (hrr.to (gr.old.sub (Nat.zero_le _) (Nat.le_trans hb.qh hh))))
   ·rw [len1,len1,len1];exact Nat.le_trans hb.la (Nat.le_trans (Nat.le_of_lt hb.ah) (Nat.le_trans hh (Nat.le_add_right _ 3)))
   ·rw [len1 (H:=H++[[]]++[[V.str (w++s)]]++[r])];exact Nat.lt_succ_self _
   ·exact Nat.le_trans hb.qh (Nat.le_trans hh gr.len)
noncomputable def words12:List (List Nat):=[[35],[35,35,97],[45],[45,45,45],[35,35,35,35,35,35,35,35],[62,97],[62],[45,45,45,45,45,45,45,45,45,45],[45,53],[35,35,35,35,35,35,35],[62,32],[62,62]]
theorem words_all:words12.all aw=true:=by rfl
theorem words_rep {H:Heap}{lo hi j:Nat}{l:List V}{v:V}(h:Reps H (words12.map fun w=>.at (.s w)) lo hi l) (hv:l[j]? = some v):∃ w,words12[j]? = some w/\v=.str w:=by
 obtain ⟨x,hx,hr⟩:=getX h hv
 rw [List.getElem?_map] at hx
 obtain ⟨w,hw,rfl⟩:=Option.map_eq_some_iff.mp hx
 exact ⟨w,hw,hr⟩
structure PlD (H:Heap) (deep lo N:Nat) (ts:List T) (c:Nat) (G:Heap):Prop where
 pt:PT ts N
 k4:(shp deep (rowTs ts)).k=4
 gr:Grow H G
 rep:Rep G (.lst (encs ts)) lo G.length (.ref c)
noncomputable def aheadF (ts:List T) (k:Int):List T:=bif k % 3==1 then ahead ((words12[(k / 3 % 12).toNat]?).getD []) ts else ts
noncomputable def plainlyF (ts:List T) (k:Int) (deep:Nat):List T:=bif plainB deep (rowTs (aheadF ts k)) then aheadF ts k else ahead [122] (aheadF ts k)
theorem plainly_ok {n a lo hi N deep:Nat}{k:Int}{ts:List T}{H:Heap}{Q:PostV}(hd:deep<=9) (hp:PT ts N) (hN:N<=9000) (hr:Rep H (.lst (encs ts)) lo hi (.ref a)) (hh:hi<=H.length) (h:∀ ts' c G,ts'=plainlyF ts k deep->PlD H deep lo (N+20) ts' c G->Q (.ref c) G):callN P (n+14) "_law_plainly" [.ref a,.int k,.int (deep:Nat)] Q H:=by
 have rest:∀ {ts1 a hi G x3},aheadF ts k=ts1->PT ts1 (N+10)->Grow H G->Rep G (.lst (encs ts1)) lo hi (.ref a)->hi<=G.length->wpSs (callN P (n+13)) (b_law_plainly.drop 1) [some (.ref a),some (.int k),some (.int (deep:Nat)),x3] (callQ Q) G:=fun {ts1 a hi G x3} het hp g hr hh=>by
  have hct:=hp.ct (Nat.le_trans (Nat.add_le_add_right hN 10) (by decide))
  have ev:∀ Q:PostV,(∀ b,b=plainB deep (rowTs ts1)->(b=true->(shp deep (rowTs ts1)).k=4)->Q (.bool b) G)->wpE (callN P (n+13)) (.call "_law_plain_row" [.call "_law_row" [.var 0],.var 2]) [some (.ref a),some (.int k),some (.int (deep:Nat)),x3] Q G:=fun Q q =>
   e_call (es_cons (e_call (es_ev (v:=.ref a) (by exact fun _ h=>h) (es_nil (lrow_ok 12 0 n rfl ts1 a lo hi G _ hct.good hr (Nat.le_trans hct.len (by decide)) (es_ev (v:=.int (deep:Nat)) (by exact fun _ h=>h) (es_nil (plain_row_ok (n:=n+12) hd Q q))))))))
  refine ev _ fun b hbe hb=>?_
  cases b with
  | true=>exact s_ret (ss:=[]) (by exact fun _ h=>h) (h ts1 a G (by unfold plainlyF;rw [het,<- hbe];rfl) ⟨⟨hp.op,hp.sg,Nat.le_trans hp.len (Nat.add_le_add_left (by decide) N)⟩,hb rfl,g,hr.wide (Nat.le_refl _) hh⟩)
  | false =>
   refine c_ret (ss:=[]) (vs:=[.str [122],.ref a]) (by exact fun _ h=>h) (ahead_ok (n:=n+12) (by decide) hp (Nat.le_trans (Nat.add_le_add_right hN 10) (by decide)) hr hh fun c G' g' hr'=>?_)
   exact h _ c G' (by unfold plainlyF;rw [het,<- hbe];rfl) ⟨hp.ahead (aw_ok rfl),by rw [ahead_row];exact shpz,g.trans g',hr'⟩
 refine in_law_plainly (s_ite (b:=k % 3==1) (v_cmp (v_bin (by exact fun _ h=>h) v_int (o_mod (by decide))) v_int o_eqI) (fun hq=>?_) (fun hq=>?_))
 ·refine ss_assign (exX_ok (.lst (words12.map fun w=>.at (.s w))) _ _ fun v G g r=>?_)
  obtain ⟨b,l,p,q,rfl,hb,hbl,hrb⟩:=r
  have hl:l.length=12:=hrb.len
  obtain ⟨j,hj⟩:∃ j:Nat,k / 3 % 12=(j:Int):=⟨(k / 3 % 12).toNat,by lia⟩
  have hj12:j<l.length:=by rw [hl];lia
  have hv:l[j]? = some l[j]:=List.getElem?_eq_getElem hj12
  obtain ⟨w,hw,e⟩:=words_rep hrb hv
  rw [e] at hv
  have haw:=aw_ok (List.all_eq_true.mp words_all w (List.mem_of_getElem? hw))
  refine c_assign (v_cons (v_idx (by exact fun _ h=>h) (v_e (v_bin (v_bin (by exact fun _ h=>h) v_int (o_fdiv (by decide))) v_int (o_mod (by decide))) (congrArg V.int hj)) (i_ref hbl hv)) (v_cons (by exact fun _ h=>h) v_nil)) (ahead_ok (n:=n+12) haw.len hp (Nat.le_trans hN (by decide)) (hr.grow g hh) (Nat.le_trans hh g.len) fun c G' g' hr'=>?_)
  exact rest (by unfold aheadF;rw [hq,hj,Int.toNat_natCast,hw];rfl) (hp.ahead haw) (g.trans g') hr' (Nat.le_refl _)
 ·exact rest (by unfold aheadF;rw [hq];rfl) ⟨hp.op,hp.sg,Nat.le_trans hp.len (Nat.le_add_right _ _)⟩ .refl hr hh
inductive TurnH (C:Calls) (c:E) (b:List S) (Q:PostS) (ρ:Env) (H:Heap) (K:Env->Heap->Prop):Prop
 | go (Φ:Heap->Prop) (hc:EvH C ρ H c (.bool true) Φ) (hb:∀ G,Φ G->wpSs C b ρ (loopQ Q K) G)
 | stop (Φ:Heap->Prop) (hc:EvH C ρ H c (.bool false) Φ) (hq:∀ G,Φ G->Q .next ρ G)
theorem l_whlH {C:Calls}{c:E}{b:List S}{Q:PostS}{σ:Type}(env:σ->Env) (I:σ->Heap->Prop) (μ:σ->Nat)
  (step:∀ s H,I s H->∀ K:Env->Heap->Prop,(∀ s' H',μ s'<μ s->I s' H'->K (env s') H')->TurnH C c b Q (env s) H K) (s:σ) {H:Heap}(h:I s H):wpS C (.whl c b) (env s) Q H:=by
 refine whl_rule (fun m ρ H=>∃ s,m=μ s/\ρ=env s/\I s H) (fun k ρ H hI K hK=>?_) (μ s) ⟨s,rfl,rfl,h⟩
 obtain ⟨s,rfl,rfl,hI⟩:=hI
 rcases step s H hI K (fun s' H' hm h'=>hK (μ s') _ _ hm ⟨s',rfl,rfl,h'⟩) with ⟨Φ,hc,hb⟩ | ⟨Φ,hc,hq⟩
 ·exact hc _ hb
 ·exact hc _ hq
theorem Pth.nd {H:Heap}{lo hi:Nat}{a d b:Nat}{es fs:List En}(h:Pth a es d b fs):∀ {q:Nat},lo<=q->Nd H q hi a es->∃ r,lo<=r/\Nd H r hi b fs:=by
 induction h with
 | here=>intro q hq h;exact ⟨q,hq,h⟩
 | @down a d b p r a' es fs es' xs vs _ ih =>
  intro q hq h
  obtain ⟨m,k1,k2⟩:=h.2.cut
  have:=k2.1.2.le
  exact ih (q:=r) (Nat.le_trans hq (Nat.le_trans k1.le (Nat.le_trans k2.1.1 this))) k2.2
theorem Pti.io {N a d b:Nat}{is js:List It}{es fs:List En}(h:Pti N a is es d b js fs):∀ {above:Nat},IOs above 9 is->(∃ ab,IOs ab 9 js)/\cnts js<=cnts is:=by
 induction h with
 | here=>intro above h;exact ⟨⟨above,h⟩,Nat.le_refl _⟩
 | @down a d b n p q a' is sub js es fs es' ts v h1 h2 _ ih =>
  intro above h
  obtain ⟨k1,k2⟩:=ih (IOs.snoc.mp h).2.2.2
  refine ⟨k1,Nat.le_trans k2 ?_⟩
  rw [cnts_app]
  show cnts sub<=cnts is+(cnts sub+1+0)
  lia
noncomputable def insF:Nat->Nat->It->List It->List It
 | 0,_,x,is=>is++[x]
 | f+1,N,x,is=>match is.getLast? with
  | some (.it n ts sub)=>bif decide (n<N) then is.dropLast++[.it n ts (insF f N x sub)] else is++[x]
  | none=>is++[x]
theorem insF_last {f N n:Nat}{x:It}{ts:List T}{sub is:List It}(h:is.getLast? = some (It.it n ts sub)):insF (f+1) N x is=bif decide (n<N) then is.dropLast++[.it n ts (insF f N x sub)] else is++[x]:=by
 show (match is.getLast? with | some (It.it n ts sub)=>bif decide (n<N) then is.dropLast++[It.it n ts (insF f N x sub)] else is++[x] | none=>is++[x])=_
 rw [h]
theorem Pti.insF {N a d b:Nat}{is js:List It}{es fs:List En}{x:It}(h:Pti N a is es d b js fs) (hl:∀ i,js.getLast? = some i->N<=dsh i):∀ {f:Nat},dIs is<=f->insF f N x is=insAt d is x:=by
 induction h with
 | @here a is es _ =>
  intro f _
  cases f with
  | zero=>rfl
  | succ f =>
   cases hq:is.getLast? with
   | none =>
    show (match is.getLast? with | some (It.it n ts sub)=>bif decide (n<N) then is.dropLast++[It.it n ts (L10.insF f N x sub)] else is++[x] | none=>is++[x])=_
    rw [hq];rfl
   | some i =>
    obtain ⟨n,ts,sub⟩:=i
    have:N<=n:=hl _ hq
    rw [insF_last hq,decide_eq_false (Nat.not_lt_of_le this)];rfl
 | @down a d b n p q a' is sub js es fs es' ts v h1 h2 _ ih =>
  intro f hf
  rw [dIs_app] at hf
  have h3:dIs sub+1<=f:=Nat.le_trans (Nat.le_max_left _ 0) (Nat.le_trans (Nat.le_max_right (dIs is) _) hf)
  cases f with
  | zero=>exact absurd h3 (Nat.not_succ_le_zero _)
  | succ f =>
   rw [insF_last List.getLast?_concat,decide_eq_true h1,List.dropLast_concat,insAt_succ,ih hl (Nat.le_of_succ_le_succ h3)];rfl
structure IZ2 where
 d:Nat
 c:Nat
 js:List It
 fs:List En
structure ItD (H0:Heap) (ctx:List (List Bk)) (cs:List Bk) (is:List It) (N:Nat) (ts:List T) (as:List Nat) (b:Nat) (G:Heap):Prop where
 ex:∃ is' bs' rt' fs',TS H0 ctx (cs++[.list is']) as b bs' rt' fs' G/\IOs 0 9 is'/\is'≠[]/\szIs is'=szIs is+((rowTs ts).length+1)/\is'=insF 9 N (.it N ts []) is
theorem item_ok {n N pa:Nat}{H0 H G:Heap}{ctx:List (List Bk)}{cs:List Bk}{is:List It}{as:List Nat}{b:Nat}{bs:List Bk}{rt gs es:List En}{pp a:Nat}{ts:List T}{Q:PostV}(hN:1<=N/\N<=9) (hct:Ct ts) (hio:IOs 0 9 is) (hc:cnts is<=900000)
  (h:TS H0 ctx (cs++[.list is]) as b bs rt (gs++[two nL pp a es]) H) (hcs:RBks cs gs) (his:RIts is es) (g:Grow H G) (hr:Rep G (.lst (encs ts)) H.length G.length (.ref pa)) (hQ:∀ G',ItD H0 ctx cs is N ts as b G'->Q .none G') :
  callN P (n+1) "_law_item" [.ref a,.int (N:Nat),.ref pa] Q G:=by
 have hlim:lim=16777216:=rfl
 have hW:W=1000000:=rfl
 refine in_law_item (ss_cons (l_whlH (σ:=IZ2) (fun z=>[some (.ref z.c),some (.int (N:Nat)),some (.ref pa)]) (fun z G'=>Grow G G'/\Pti N a is es z.d z.c z.js z.fs) (fun z=>dIs z.js) (fun z G' hI K hK=>?_) ⟨0,a,is,es⟩ ⟨.refl,.here his⟩))
 obtain ⟨d,c,js,fs⟩:=z
 obtain ⟨g',hp⟩:=hI
 replace hp:Pti N a is es d c js fs:=hp
 have hgg:=g.trans g'
 have hpw:Pth b (gs++[two nL pp a es]) (d+1) c fs:=.down hp.pth
 obtain ⟨⟨ab,hjo⟩,hjc⟩:=hp.io hio
 obtain ⟨r,hr0,hn⟩:=(h.zp.pth.more hpw).nd (Nat.le_refl _) (h.up hgg)
 have hrep:=hn.rep
 rw [hp.cur.x] at hrep
 have hjd:dIs js<=9:=Nat.le_trans (hjo.deep (Nat.le_refl _)) (Nat.sub_le _ _)
 have hjW:cnts js<=W:=Nat.le_trans hjc (Nat.le_trans hc (by decide))
 have hfit:Fit W 45 (.lst (itEs js)):=Fit.lst (m:=2 * 9+26) (by rw [itEs_len];exact Nat.le_trans (len_cnts js) hjW) (fit_its hjd hjW (PIs_of hjo))
 have en:=ne_nil (C:=callN P n) (ρ:=[some (.ref c),some (.int (N:Nat)),some (.ref pa)]) (e:=.var 0) (by exact fun _ h=>h) (by decide:45<100) hfit (ok_Is hjo) hrep hgg.len
 have hcl:∀ x,(G'++[x])[c]? = some (fs.map enV):=fun x=>g_skip hn.1.2.2.2
 have fin:(∀ i,js.getLast? = some i->N<=dsh i)->andThen (callN P n) [.expr (.append (.var 0) (.tup [.var 1,.var 2,.list []]))] (callQ Q) .next [some (.ref c),some (.int (N:Nat)),some (.ref pa)] (G'++[[]]):=fun hl=>by
  have hg2:Grow H (G'++[[]]++[[]]):=(hgg.trans .one).trans .one
  have hg1:Grow G (G'++[[]]++[[]]):=(g'.trans .one).trans .one
  have l2:(G'++[[]]++[[]]).length=(G'++[[]]).length+1:=len1
  have l1:(G'++[[]]:Heap).length=G'.length+1:=len1
  have hGG:=g'.len
  have hok:Ok (G'++[[]]++[[]]) (itN N ts (.ref pa) H.length (G'++[[]]:Heap).length (G'++[[]]:Heap).length []) H.length (G'++[[]]++[[]]).length :=
   ⟨⟨Nat.le_refl _,.atom (a:=.i (N:Nat)) (.one (by rw [l1];have:=hgg.len;lia) ((hr.grow hg1 (Nat.le_refl _)).wide (Nat.le_refl _) (by rw [l1];lia)))⟩,⟨Nat.le_refl _,by rw [l2];exact Nat.lt_succ_self _,(fun q=>q.elim),g_last⟩,by show _<=_;rw [l2];exact Nat.le_succ _⟩
  have hx:RIt (.it N ts []) (itN N ts (.ref pa) H.length (G'++[[]]:Heap).length (G'++[[]]:Heap).length []):=⟨_,_,_,_,_,rfl,rfl⟩
  have hins:=hp.ins hx
  have e2:insE (d+1) (gs++[two nL pp a es]) (itN N ts (.ref pa) H.length (G'++[[]]:Heap).length (G'++[[]]:Heap).length [])=gs++[two nL pp a (insE d es (itN N ts (.ref pa) H.length (G'++[[]]:Heap).length (G'++[[]]:Heap).length []))]:=insE_down
  have hrb:RBk (.list (insAt d is (.it N ts []))) (two nL pp a (insE d es (itN N ts (.ref pa) H.length (G'++[[]]:Heap).length (G'++[[]]:Heap).length []))):=⟨_,_,_,rfl,hins⟩
  obtain ⟨k1,bs',rt',k2⟩:=h.put hg2 hok hpw (cur':=cs++[.list (insAt d is (.it N ts []))]) (by rw [e2];exact hcs.add hrb)
  have hins2:insAt d is (.it N ts [])≠[]:=fun q=>by
   have:=cnts_ins d is (.it N ts [])
   rw [q] at this
   replace this:0=cnts is+(0+1):=this
   lia
  refine s_appendE (a:=c) (by exact fun _ h=>h) (e_tup (es_ev (v:=.int (N:Nat)) (by exact fun _ h=>h) (es_ev (v:=.ref pa) (by exact fun _ h=>h) (es_list0 (h_append (g_skip (hcl [])) ?_ (hQ _ ⟨_,bs',rt',_,k2,hp.order hN hct hl hN.1 hio,hins2,szIs_ins d is _,(hp.insF hl (hio.deep (Nat.le_refl _))).symm⟩))))))
  rw [List.length_map]
  have:fs.length=js.length:=by
   have:=congrArg List.length hp.cur.x
   rw [itEs_len] at this
   rw [<- this]
   have q:∀ es:List En,(enXs es).length=es.length:=fun es=>by
    induction es with
    | nil=>rfl
    | cons e es ih=>exact congrArg (· + 1) ih
   exact (q fs).symm
  rw [this]
  exact Nat.lt_of_le_of_lt (Nat.le_trans (len_cnts js) (Nat.le_trans hjc hc)) (by show 900000<16777216;decide)
 rcases snoc_or js with e | ⟨js',⟨m,us,sub⟩,e⟩
 ·subst e
  exact .stop _ (h_andF en) fun G1 g1=>by subst g1;exact fin fun i q=>nomatch q
 ·subst e
  have hfull:full (itEs (js'++[.it m us sub]))=true:=by cases js'<;>rfl
  rw [hfull] at en
  obtain ⟨fs0,e0,hfs,_,v0,p0,q0,a0,es0,he0,_⟩:=hp.cur.cut
  subst he0
  have hlast:∀ {C:Calls},Ev C [some (.ref c),some (.int (N:Nat)),some (.ref pa)] (G'++[[]]) (.idx (.var 0) (.neg 1)) (.tup [.int (m:Nat),v0,.ref a0]):=v_idx (by exact fun _ h=>h) v_neg (i_last ((hcl []).trans (by rw [hfs,List.map_append];rfl)))
  have e1:∀ G1,G1=G'++[[]]->EvH (callN P n) [some (.ref c),some (.int (N:Nat)),some (.ref pa)] G1 (.and [.cmp .lt (.idx (.idx (.var 0) (.neg 1)) (.int 0)) (.var 1)]) (.bool (decide ((m:Int)<(N:Int)))) (fun G1=>G1=G'++[[]]):=fun G1 q=>by
   subst q
   exact h_and1 (h_ev (v_cmp (v_idx hlast v_int i_tup0) (by exact fun _ h=>h) o_lt))
  by_cases hm:m<N
  ·rw [decide_eq_true (by lia:(m:Int)<(N:Int))] at e1
   obtain ⟨gs1,v1,p1,q1,a1,es1,hfs1,hp1⟩:=hp.ext rfl hm
   have heq:itN m us v0 p0 q0 a0 es0=itN m us v1 p1 q1 a1 es1:=by
    have:=hfs.symm.trans hfs1
    exact (List.cons.inj (List.append_inj' this rfl).2).1
   have ha:a0=a1:=by injection heq
   subst ha
   refine .go _ (h_and2 en e1) fun G1 g1=>?_
   subst g1
   refine s_assign (v_idx hlast v_int (c:=.ref a0) rfl) (hK ⟨d+1,a0,sub,es1⟩ _ ?_ ⟨g'.trans .one,hp1⟩)
   show dIs sub<dIs (js'++[.it m us sub])
   rw [dIs_app]
   exact Nat.lt_of_lt_of_le (Nat.lt_succ_self _) (Nat.le_trans (Nat.le_max_left (dIs sub+1) 0) (Nat.le_max_right _ _))
  ·rw [decide_eq_false (by lia:¬ (m:Int)<(N:Int))] at e1
   refine .stop _ (h_and2 en e1) fun G1 g1=>?_
   subst g1
   refine fin fun i q=>?_
   rw [List.getLast?_append] at q
   cases q
   exact Nat.le_of_not_lt hm
structure TI (H0:Heap) (N:Nat) (ctx:List (List Bk)) (cur:List Bk) (as:List Nat) (b:Nat) (bs:List Bk) (rt fs:List En) (H:Heap):Prop where
 ts:TS H0 ctx cur as b bs rt fs H
 bi:BI ctx cur N
abbrev BSs:=List (List Bk)×List Bk
noncomputable def TX (H0:Heap) (N:Nat) (s:BSs) (H:Heap):Prop:=∃ as b bs rt fs,TI H0 N s.1 s.2 as b bs rt fs H
section
variable {H0 H G:Heap}{N:Nat}{ctx:List (List Bk)}{cur:List Bk}{as:List Nat}{b:Nat}{bs:List Bk}{rt fs:List En}
theorem BI.fit (h:BI ctx cur N) (hN:N<=900000):Fit W 65 (.lst (bkEs cur)):=by
 exact (fit_bs h.up.deep h.ok (Nat.le_trans (Nat.le_trans (Nat.le_add_left _ _) h.sz) (Nat.le_trans hN (by decide)))).up (Nat.le_refl _) (Nat.add_le_add_right (Nat.mul_le_mul_left 2 (Nat.sub_le 9 _)) 47)
theorem TI.grow (h:TI H0 N ctx cur as b bs rt fs H) (g:Grow H G):TI H0 N ctx cur as b bs rt fs G:=⟨h.ts.grow g,h.bi⟩
theorem TI.eqn {C:Calls}{ρ:Env}{e:E}(h:TI H0 N ctx cur as b bs rt fs H) (hN:N<=900000) (he:Ev C ρ H e (.ref b)):EvH C ρ H (.cmp .eq e (.list [])) (.bool (!full cur)) (fun G=>G=H++[[]]) :=
 h_b (eq_nil he (by decide:65<100) (h.bi.fit hN) (ok_Bs h.bi.ok) h.ts.here.2 (Nat.le_refl _)) (by cases cur<;>rfl)
theorem TI.nen {C:Calls}{ρ:Env}{e:E}(h:TI H0 N ctx cur as b bs rt fs H) (hN:N<=900000) (he:Ev C ρ H e (.ref b)):EvH C ρ H (.cmp .ne e (.list [])) (.bool (full cur)) (fun G=>G=H++[[]]) :=
 h_b (ne_nil he (by decide:65<100) (h.bi.fit hN) (ok_Bs h.bi.ok) h.ts.here.2 (Nat.le_refl _)) (by cases cur<;>rfl)
theorem TI.plen (h:TI H0 N ctx cur as b bs rt fs H):(as.map V.ref).length=ctx.length+1:=by rw [List.length_map];exact h.ts.zp.lens
theorem TI.pl (h:TI H0 N ctx cur as b bs rt fs H):∃ r,H[H0.length+1]? = some (r++[.ref b]):=by
 obtain ⟨r,e⟩:=h.ts.zp.last
 exact ⟨r.map V.ref,h.ts.pile.trans (by rw [e,List.map_append];rfl)⟩
theorem TI.flen (h:TI H0 N ctx cur as b bs rt fs H):(fs.map enV).length<=N:=by
 have h1:=h.ts.here
 obtain ⟨a,l,p,q,e,_,ha,hr⟩:=h1.2
 cases e
 rw [h1.1] at ha
 cases ha
 rw [hr.len,bkEs_len]
 exact Nat.le_trans (len_sz cur) (Nat.le_trans (Nat.le_add_left _ _) h.bi.sz)
theorem TI.name {cs:List Bk}{c:Bk}(h:TI H0 N ctx cur as b bs rt fs H) (e:cur=cs++[c]):∃ r v l,H[b]? = some (r++[v])/\v=.tup (.str (nmB c)::l):=by
 subst e
 obtain ⟨gs,e,rfl,h1,h2⟩:=h.ts.zp.typ.cut
 have h3:=h.ts.here.1
 rw [List.map_append] at h3
 have h4:=h.ts.here.2
 rw [bkEs_app] at h4
 obtain ⟨a,l,p,q,e',_,ha,hr⟩:=h4
 cases e'
 rw [h3] at ha
 cases ha
 obtain ⟨x,y,m,e2,_,hy⟩:=hr.cut
 obtain ⟨v,y',m',rfl,_,hv,_⟩:=hy
 have hy':y'=[]:=by
  have:=congrArg List.length e2
  have h5:=(by assumption:Reps H (bkEs [c]).tail m' q y').len
  exact List.eq_nil_of_length_eq_zero h5
 subst hy'
 obtain ⟨e3,e4⟩:=List.append_inj' e2 rfl
 have e5:enV e=v:=(List.cons.inj e4).1
 obtain ⟨l',hl'⟩:=nm_at hv
 exact ⟨_,enV e,l',h3,e5.trans hl'⟩
end
theorem BI.pop {ctx:List (List Bk)}{p cur:List Bk}{N:Nat}(h:BI (ctx++[p]) cur N) (hne:cur≠[]):BI ctx (p++[.quote cur]) N:=by
 obtain ⟨k1,k2,k3,k4⟩:=BC.snoc.mp h.up
 rw [Nat.zero_add] at k2 k4
 have ho:=h.ok
 rw [List.length_append] at ho
 refine ⟨k1,BOs.snoc.mpr ⟨k2,⟨k4,hne,ho⟩,Or.inl fun q=>k3 q.symm⟩,?_⟩
 have hs:=h.sz
 rw [szC_snoc] at hs
 rw [szBs_app,szBs_one]
 show szC ctx+(szBs p+(szBs cur+1))<=N
 lia
theorem BI.enter {ctx:List (List Bk)}{p c:List Bk}{N:Nat}(h:BI ctx (p++[.quote c]) N):BI (ctx++[p]) c N:=by
 obtain ⟨k1,k2,k3⟩:=BOs.snoc.mp h.ok
 refine ⟨BC.snoc.mpr ⟨h.up,by rw [Nat.zero_add];exact k1,fun q=>?_,by rw [Nat.zero_add];exact k2.1⟩,by rw [List.length_append];exact k2.2.2,?_⟩
 ·rcases k3 with k3 | k3
  ·exact k3 q.symm
  ·rw [q] at k3;exact absurd k3 (by decide)
 ·have hs:=h.sz
  rw [szBs_app,szBs_one] at hs
  rw [szC_snoc]
  replace hs:szC ctx+(szBs p+(szBs c+1))<=N:=hs
  lia
theorem BI.begin {ctx:List (List Bk)}{cur:List Bk}{N:Nat}(h:BI ctx cur N) (hl:lastN [] cur≠nQ) (hd:ctx.length<9):BI (ctx++[cur]) [] (N+1):=by
 refine ⟨BC.snoc.mpr ⟨h.up,by rw [Nat.zero_add];exact h.ok,hl,by rw [Nat.zero_add];exact hd⟩,trivial,?_⟩
 have hs:=h.sz
 rw [szC_snoc]
 show szC ctx+(szBs cur+1)+0<=N+1
 lia
theorem nm_quote {b:Bk}(h:nmB b=nQ):∃ c,b=.quote c:=by
 cases b with
 | gap _=>exact absurd (show ([103,97,112]:List Nat)=[113,117,111,116,101] from h) (by decide)
 | head _ _=>exact absurd (show ([104,101,97,100,105,110,103]:List Nat)=[113,117,111,116,101] from h) (by decide)
 | list _=>exact absurd (show ([108,105,115,116]:List Nat)=[113,117,111,116,101] from h) (by decide)
 | para _=>exact absurd (show ([112,97,114,97]:List Nat)=[113,117,111,116,101] from h) (by decide)
 | quote c=>exact ⟨c,rfl⟩
theorem h_orT {C:Calls}{ρ:Env}{H:Heap}{Φ:Heap->Prop}{e f:E}{es:List E}(h1:EvH C ρ H e (.bool true) Φ):EvH C ρ H (.or (e::f::es)) (.bool true) Φ:=fun Q k=>h1 _ fun G g=>k G g
noncomputable def qstep (s:BSs):BSs:=match s.2.getLast? with
 | some (.quote c)=>(s.1++[s.2.dropLast],c)
 | _=>(s.1++[s.2],[])
noncomputable def qloop (way:Int):Nat->BSs->BSs
 | 0,s=>s
 | m+1,s=>bif way==10&&decide (((s.1.length+1:Nat):Int)<10) then qloop way m (qstep s) else s
noncomputable def popF (way:Int) (s:BSs):BSs:=bif way==11&&(decide ((1:Int)<((s.1.length+1:Nat):Int))&&full s.2) then (s.1.dropLast,(s.1.getLast?).getD []++[.quote s.2]) else s
noncomputable def quoteF (way many:Int) (s:BSs):BSs:=qloop way many.toNat (popF way s)
theorem qstep_in {ctx:List (List Bk)}{p c:List Bk}:qstep (ctx,p++[.quote c])=(ctx++[p],c):=by
 unfold qstep;dsimp only;rw [List.getLast?_concat,List.dropLast_concat]
theorem qstep_new {ctx:List (List Bk)}{cur:List Bk}(h:lastN [] cur≠nQ):qstep (ctx,cur)=(ctx++[cur],[]):=by
 unfold qstep;dsimp only
 rcases snoc_or cur with rfl | ⟨cs,c,rfl⟩
 ·rfl
 ·rw [lastN_snoc] at h
  rw [List.getLast?_concat]
  cases c with
  | quote c=>exact absurd rfl h
  | _=>rfl
structure QZ2 where
 many:Int
 N:Nat
 s:BSs
theorem quote_ok {n N:Nat}{way many:Int}{s:BSs}{H0 H:Heap}{Q:PostV}(h:TX H0 N s H) (hN:N+10<=900000) (hm:many.toNat<=10) (hQ:∀ G,TX H0 (N+10) (quoteF way many s) G->Q .none G):callN P (n+1) "_law_quote" [.ref (H0.length+1),.int way,.int many] Q H:=by
 have h9l:(900000:Nat)<lim:=by show 900000<16777216;decide
 have loop:∀ G s',popF way s=s'->TX H0 N s' G->wpSs (callN P n) (b_law_quote.drop 1) [some (.ref (H0.length+1)),some (.int way),some (.int many)] (callQ Q) G:=fun G s' hs' hG=>by
  refine ss_cons (l_whl (σ:=QZ2) (fun z=>[some (.ref (H0.length+1)),some (.int way),some (.int z.many)]) (fun z G=>TX H0 z.N z.s G/\z.N+z.many.toNat<=N+10/\qloop way z.many.toNat z.s=quoteF way many s) (fun z=>z.many.toNat) (fun z G hI K hK=>?_) ⟨many,N,s'⟩ ⟨hG,Nat.add_le_add_left hm N,by unfold quoteF;rw [hs']⟩)
  obtain ⟨mz,M,ctx,cur⟩:=z
  obtain ⟨⟨as,b,bs,rt,fs,hT⟩,hM,hqe⟩:=hI
  replace hqe:qloop way mz.toNat (ctx,cur)=quoteF way many s:=hqe
  replace hM:M+mz.toNat<=N+10:=hM
  have hM2:M<=N+10:=Nat.le_trans (Nat.le_add_right _ _) hM
  have hM9:M<=900000:=Nat.le_trans hM2 hN
  have hj:0<mz->mz.toNat=(mz - 1).toNat+1:=fun h=>by lia
  replace hT:TI H0 M ctx cur as b bs rt fs G:=hT
  have ev:Ev (callN P n) [some (.ref (H0.length+1)),some (.int way),some (.int mz)] G (.and [.cmp .eq (.var 1) (.int 10),.cmp .gt (.var 2) (.int 0),.cmp .lt (.len (.var 0)) (.int 10)]) (.bool (way==10&&(decide (0<mz)&&decide (((ctx.length+1:Nat):Int)<10)))) :=
   v_and2 (v_cmp (by exact fun _ h=>h) v_int o_eqI) fun _=>v_and2 (v_cmp (by exact fun _ h=>h) v_int o_gt) fun _=>v_and1 (v_b (v_cmp (v_len (by exact fun _ h=>h) (o_lenR hT.ts.pile)) v_int o_lt) (by rw [hT.plen]))
  cases hb:(way==10&&(decide (0<mz)&&decide (((ctx.length+1:Nat):Int)<10))) with
  | false =>
   rw [hb] at ev
   have hst:(ctx,cur)=quoteF way many s:=by
    rw [<- hqe]
    by_cases h0:0<mz
    ·rw [decide_eq_true h0,Bool.true_and] at hb
     rw [hj h0]
     show _=(bif way==10&&decide (((ctx.length+1:Nat):Int)<10) then _ else _)
     rw [hb];rfl
    ·rw [Int.toNat_of_nonpos (Int.not_lt.mp h0)];rfl
   refine .stop ev (hQ _ ?_)
   rw [<- hst]
   exact ⟨as,b,bs,rt,fs,hT.ts,hT.bi.up,hT.bi.ok,Nat.le_trans hT.bi.sz hM2⟩
  | true =>
   rw [hb] at ev
   obtain ⟨hw10,hb⟩:=Bool.and_eq_true_iff.mp hb
   obtain ⟨hb1,hb2⟩:=Bool.and_eq_true_iff.mp hb
   have hmz:0<mz:=of_decide_eq_true hb1
   have hd:ctx.length<9:=by have:=of_decide_eq_true hb2;lia
   have hqs:qloop way (mz - 1).toNat (qstep (ctx,cur))=quoteF way many s:=by
    rw [<- hqe,hj hmz]
    show _=(bif way==10&&decide (((ctx.length+1:Nat):Int)<10) then _ else _)
    rw [hw10,hb2];rfl
   refine .go ev ?_
   have into:∀ {p c:List Bk}{as b bs rt fs G M'},qstep (ctx,cur)=(ctx++[p],c)->TS H0 ctx (p++[.quote c]) as b bs rt fs G->BI (ctx++[p]) c M'->M'<=M+1->wpSs (callN P n) [.expr (.append (.var 0) (.idx (.idx (.idx (.var 0) (.neg 1)) (.neg 1)) (.int 1))),.assign 2 (.bin .sub (.var 2) (.int 1))] [some (.ref (H0.length+1)),some (.int way),some (.int mz)] (loopQ (andThen (callN P n) [] (callQ Q)) K) G:=fun {p c as b bs rt fs G M'} hqp hT hB hM'=>by
    obtain ⟨gs,pp,a',es',e,hz⟩:=hT.zp.push rfl
    obtain ⟨r,er⟩:=hT.zp.last
    have hp1:G[H0.length+1]? = some (r.map V.ref++[.ref b]):=hT.pile.trans (by rw [er,List.map_append];rfl)
    have hb1:G[b]? = some (gs.map enV++[.tup [.str nQ,.ref a']]):=hT.here.1.trans (by rw [e,List.map_append];rfl)
    have hlen:(as.map V.ref).length<lim:=by rw [List.length_map,hT.zp.lens];exact Nat.lt_of_le_of_lt hd (by show 9<16777216;decide)
    refine s_append (v:=.ref a') (by exact fun _ h=>h) (v_idx (v_idx (v_idx (by exact fun _ h=>h) v_neg (i_last hp1)) v_neg (i_last hb1)) v_int (c:=.ref a') rfl) hT.pile hlen (s_assign (v_bin (by exact fun _ h=>h) v_int o_subI) ?_)
    have hr:=hT.repile hz
    rw [List.map_append] at hr
    exact hK ⟨mz - 1,M+1,ctx++[p],c⟩ _ (by show (mz - 1).toNat<mz.toNat;rw [hj hmz];exact Nat.lt_succ_self _) ⟨⟨_,_,_,_,_,hr,hB.up,hB.ok,Nat.le_trans hB.sz hM'⟩,by show M+1+(mz - 1).toNat<=N+10;rw [hj hmz] at hM;rw [Nat.add_assoc,Nat.add_comm 1];exact hM,by rw [hqp] at hqs;exact hqs⟩
   obtain ⟨r,hp⟩:=hT.pl
   have e1:=hT.eqn (C:=callN P n) (ρ:=[some (.ref (H0.length+1)),some (.int way),some (.int mz)]) (e:=.idx (.var 0) (.neg 1)) hM9 (v_idx (by exact fun _ h=>h) v_neg (i_last hp))
   have new:lastN [] cur≠nQ->∀ G',G'=G++[[]]->wpSs (callN P n) [.expr (.append (.idx (.var 0) (.neg 1)) (.tup [.str [113,117,111,116,101],.list []]))] [some (.ref (H0.length+1)),some (.int way),some (.int mz)] (andThen (callN P n) [.expr (.append (.var 0) (.idx (.idx (.idx (.var 0) (.neg 1)) (.neg 1)) (.int 1))),.assign 2 (.bin .sub (.var 2) (.int 1))] (loopQ (andThen (callN P n) [] (callQ Q)) K)) G':=fun hl G' g=>by
    subst g
    have hg1:Grow G (G++[[]]++[[]]):=grow2
    have l1:(G++[[]]:Heap).length=G.length+1:=len1
    have l2:(G++[[]]++[[]]:Heap).length=(G++[[]]:Heap).length+1:=len1
    have hok:Ok (G++[[]]++[[]]) (two nQ G.length (G++[[]]:Heap).length []) G.length (G++[[]]++[[]]).length :=
     ⟨⟨Nat.le_refl _,.atom (a:=.s nQ) (.nil (Nat.le_refl _))⟩,⟨by rw [l1];exact Nat.le_succ _,by rw [l2];exact Nat.lt_succ_self _,(fun q=>q.elim),g_last⟩,by show _<=_;rw [l2,l1];exact Nat.le_add_right _ 2⟩
    obtain ⟨k1,bs',rt',k2⟩:=hT.ts.put hg1 hok .here (cur':=cur++[.quote []]) (hT.ts.zp.typ.add (rb_quote (bs:=[]) (es:=[]) rfl))
    refine s_appendE (a:=b) (v_idx (by exact fun _ h=>h) v_neg (i_last (g_skip hp))) (e_tup (es_ev (v:=.str nQ) (by exact fun _ h=>h) (es_list0 (h_append k1 (Nat.lt_of_le_of_lt (Nat.le_trans hT.flen hM9) h9l) ?_))))
    exact into (qstep_new hl) k2 (hT.bi.begin hl hd) (Nat.le_refl _)
   rcases snoc_or cur with e | ⟨cs,c,e⟩
   ·subst e
    exact hs_iteT (h_orT e1) (new (fun q=>absurd q (by decide)))
   ·have hfull:full cur=true:=by rw [e];cases cs<;>rfl
    rw [hfull] at e1
    obtain ⟨rr,v,l,hbl,hv⟩:=hT.name e
    have e2:∀ G',G'=G++[[]]->EvH (callN P n) [some (.ref (H0.length+1)),some (.int way),some (.int mz)] G' (.or [.cmp .ne (.idx (.idx (.idx (.var 0) (.neg 1)) (.neg 1)) (.int 0)) (.str [113,117,111,116,101])]) (.bool (!(nmB c==nQ))) (fun G'=>G'=G++[[]]):=fun G' g=>by
     subst g
     exact h_or1 (h_ev (v_cmp (v_idx (v_e (v_idx (v_idx (by exact fun _ h=>h) v_neg (i_last (g_skip hp))) v_neg (i_last (g_skip hbl))) hv) v_int i_tup0) v_str o_neS))
    by_cases hq:nmB c=nQ
    ·rw [beq_iff_eq.mpr hq] at e2
     obtain ⟨c',rfl⟩:=nm_quote hq
     subst e
     refine hs_iteF (h_or2 e1 e2) fun G' g=>?_
     subst g
     exact into qstep_in (hT.ts.grow .one) hT.bi.enter (Nat.le_succ _)
    ·rw [beq_eq_false_iff_ne.mpr hq] at e2
     exact hs_iteT (h_or2 e1 e2) (new (by rw [e,lastN_snoc];exact hq))
 obtain ⟨ctx,cur⟩:=s
 obtain ⟨as,b,bs,rt,fs,hT⟩:=h
 replace hT:TI H0 N ctx cur as b bs rt fs H:=hT
 refine in_law_quote ?_
 obtain ⟨r,hp⟩:=hT.pl
 have e1:∀ {C:Calls},Ev C [some (.ref (H0.length+1)),some (.int way),some (.int many)] H (.cmp .eq (.var 1) (.int 11)) (.bool (way==11)):=v_cmp (by exact fun _ h=>h) v_int o_eqI
 by_cases hw:way=11
 ·rw [beq_iff_eq.mpr hw] at e1
  have e2:∀ {C:Calls},Ev C [some (.ref (H0.length+1)),some (.int way),some (.int many)] H (.cmp .gt (.len (.var 0)) (.int 1)) (.bool (decide ((1:Int)<((ctx.length+1:Nat):Int)))):=v_b (v_cmp (v_len (by exact fun _ h=>h) (o_lenR hT.ts.pile)) v_int o_gt) (by rw [hT.plen])
  rcases snoc_or ctx with e | ⟨ctx',p,e⟩
  ·subst e
   exact s_skip (v_andT e1 (v_andF e2)) (loop H ([],cur) (by unfold popF;rw [beq_iff_eq.mpr hw];rfl) ⟨_,_,_,_,_,hT⟩)
  ·have hc:decide ((1:Int)<((ctx.length+1:Nat):Int))=true:=decide_eq_true (by rw [e,List.length_append];show (1:Int)<((ctx'.length+1+1:Nat):Int);lia)
   rw [hc] at e2
   have e3:=hT.nen (C:=callN P n) (ρ:=[some (.ref (H0.length+1)),some (.int way),some (.int many)]) (e:=.idx (.var 0) (.neg 1)) (Nat.le_trans (Nat.le_add_right _ _) hN) (v_idx (by exact fun _ h=>h) v_neg (i_last hp))
   have e4:EvH (callN P n) [some (.ref (H0.length+1)),some (.int way),some (.int many)] H (.and [.cmp .eq (.var 1) (.int 11),.cmp .gt (.len (.var 0)) (.int 1),.cmp .ne (.idx (.var 0) (.neg 1)) (.list [])]) (.bool (full cur)) (fun G=>G=H++[[]]):=h_and2 (h_ev e1) fun G g=>by
    subst g
    exact h_and2 (h_ev e2) fun G g=>by
     subst g
     exact h_and1 e3
   cases hcur:cur with
   | nil =>
    rw [hcur] at e4
    exact hs_skip e4 fun G g=>by subst g;exact loop _ (ctx,cur) (by unfold popF;rw [hcur];dsimp only [full];rw [Bool.and_false,Bool.and_false];rfl) ⟨_,_,_,_,_,hT.grow .one⟩
   | cons x xs =>
    rw [hcur] at e4
    refine hs_iteT e4 fun G g=>?_
    subst g
    obtain ⟨as',b',fs',ea,hz⟩:=hT.ts.zp.pop e
    have hp2:(H++[[]])[H0.length+1]? = some (as'.map V.ref++[.ref b]):=g_skip (hT.ts.pile.trans (by rw [ea,List.map_append];rfl))
    refine s_popE (by exact fun _ h=>h) hp2 ?_
    have hr:=(hT.ts.grow .one (G:=H++[[]])).repile hz
    have hbi:=hT.bi
    rw [e] at hbi
    refine loop _ (ctx',p++[.quote cur]) ?_ ⟨_,_,_,_,_,hr,hbi.pop (by rw [hcur];exact fun q=>nomatch q)⟩
    have hf:full cur=true:=by rw [hcur];rfl
    unfold popF
    dsimp only
    rw [beq_iff_eq.mpr hw,hc,hf,e,List.getLast?_concat,List.dropLast_concat];rfl
 ·rw [beq_eq_false_iff_ne.mpr hw] at e1
  exact s_skip (v_andF e1) (loop H (ctx,cur) (by unfold popF;rw [beq_eq_false_iff_ne.mpr hw];rfl) ⟨_,_,_,_,_,hT⟩)
theorem nm_list {b:Bk}(h:nmB b=nL):∃ c,b=.list c:=by
 cases b with
 | gap _=>exact absurd (show ([103,97,112]:List Nat)=[108,105,115,116] from h) (by decide)
 | head _ _=>exact absurd (show ([104,101,97,100,105,110,103]:List Nat)=[108,105,115,116] from h) (by decide)
 | list c=>exact ⟨c,rfl⟩
 | para _=>exact absurd (show ([112,97,114,97]:List Nat)=[108,105,115,116] from h) (by decide)
 | quote _=>exact absurd (show ([113,117,111,116,101]:List Nat)=[108,105,115,116] from h) (by decide)
theorem nm_para {b:Bk}(h:nmB b=nP):∃ c,b=.para c:=by
 cases b with
 | gap _=>exact absurd (show ([103,97,112]:List Nat)=[112,97,114,97] from h) (by decide)
 | head _ _=>exact absurd (show ([104,101,97,100,105,110,103]:List Nat)=[112,97,114,97] from h) (by decide)
 | list _=>exact absurd (show ([108,105,115,116]:List Nat)=[112,97,114,97] from h) (by decide)
 | para c=>exact ⟨c,rfl⟩
 | quote _=>exact absurd (show ([113,117,111,116,101]:List Nat)=[112,97,114,97] from h) (by decide)
theorem last_nm {cur:List Bk}{w:List Nat}(h:lastN [] cur=w) (hw:w≠[]):∃ cs c,cur=cs++[c]/\nmB c=w:=by
 rcases snoc_or cur with rfl | ⟨cs,c,rfl⟩
 ·exact absurd h.symm hw
 ·rw [lastN_snoc] at h;exact ⟨cs,c,rfl,h⟩
theorem BI.turn {ctx:List (List Bk)}{cs:List Bk}{c c':Bk}{N:Nat}(h:BI ctx (cs++[c]) N) (hn:nmB c'=nmB c) (ho:BO1 ctx.length c') (hs:szB c'<=szB c+6030):BI ctx (cs++[c']) (N+6030):=by
 obtain ⟨k1,k2,k3⟩:=BOs.snoc.mp h.ok
 refine ⟨h.up,BOs.snoc.mpr ⟨k1,ho,by rw [hn];exact k3⟩,?_⟩
 have:=h.sz
 rw [szBs_app,szBs_one] at this ⊢
 lia
theorem BI.add {ctx:List (List Bk)}{cur:List Bk}{b:Bk}{N:Nat}(h:BI ctx cur N) (ho:BO1 ctx.length b) (hn:nmB b≠lastN [] cur∨lastN [] cur=[104,101,97,100,105,110,103]) (hs:szB b<=6030):BI ctx (cur++[b]) (N+6030):=by
 refine ⟨h.up,BOs.snoc.mpr ⟨h.ok,ho,hn⟩,?_⟩
 have:=h.sz
 rw [szBs_app,szBs_one]
 lia
noncomputable def gapF (z:Int):Nat:=(1+z % 3+300 * (if (z / 3 % 9==5) then 1 else 0)).toNat
noncomputable def lastL (cur:List Bk):List It:=match cur.getLast? with
 | some (.list is)=>is
 | _=>[]
noncomputable def lastP (cur:List Bk):List (List T):=match cur.getLast? with
 | some (.para rs)=>rs
 | _=>[]
noncomputable def addF (cur:List Bk) (deep:Nat) (way z:Int) (ts:List T):List Bk :=
 bif decide (way<2)&&!(lastN [] cur==[103,97,112]) then cur++[.gap (gapF z)]
 else bif decide (way<4) then cur++[.head (1+z % 6).toNat ts]
 else bif decide (way<7)&&(lastN [] cur==[108,105,115,116]) then cur.dropLast++[.list (insF 9 (1+z % 9).toNat (.it (1+z % 9).toNat ts []) (lastL cur))]
 else bif decide (way<7) then cur++[.list [.it (1+z % 9).toNat ts []]]
 else bif lastN [] cur==[112,97,114,97] then cur.dropLast++[.para (lastP cur++[plainlyF ts z deep])]
 else cur++[.para [plainlyF ts z deep]]
theorem nat_in {y:Int}(h:1<=y):y=(y.toNat:Int)/\1<=y.toNat:=by
 obtain ⟨n,rfl⟩:=Int.eq_ofNat_of_zero_le (Int.le_trans (by decide) h)
 exact ⟨rfl,Int.ofNat_le.mp h⟩
theorem gap_in (z:Int):∃ k:Nat,1+z % 3+300 * (if (z / 3 % 9==5) then 1 else 0)=(k:Int)/\1<=k/\gapF z=k:=by
 have h3:(1:Int)<=1+z % 3:=Int.le_add_of_nonneg_right (Int.emod_nonneg _ (by decide))
 have h:(1:Int)<=1+z % 3+300 * (if (z / 3 % 9==5) then 1 else 0):=Int.le_trans h3 (Int.le_add_of_nonneg_right (by cases (z / 3 % 9==5)<;>decide))
 exact ⟨_,(nat_in h).1,(nat_in h).2,rfl⟩
theorem mod_in {z y:Int}{m:Nat}(h:y=1+z) (h1:0<=z) (h2:z<m):∃ k:Nat,(y=(k:Int)/\1<=k/\k<=m)/\y.toNat=k:=by
 obtain ⟨n,rfl⟩:=Int.eq_ofNat_of_zero_le h1
 have e:y=((n+1:Nat):Int):=h.trans (Int.add_comm 1 (n:Int))
 subst e
 exact ⟨n+1,⟨rfl,Nat.succ_le_succ (Nat.zero_le _),Int.ofNat_lt.mp h2⟩,rfl⟩
theorem add_ok {n N pa:Nat}{way number:Int}{H0 H G:Heap}{ctx:List (List Bk)}{cur:List Bk}{as:List Nat}{b:Nat}{bs:List Bk}{rt fs:List En}{ts:List T}{Q:PostV}(hT:TI H0 N ctx cur as b bs rt fs H) (hN:N+6030<=900000) (hp:PT ts 6000) (g:Grow H G) (hr:Rep G (.lst (encs ts)) H.length G.length (.ref pa)) (hQ:∀ G',TX H0 (N+6030) (ctx,addF cur ctx.length way number ts) G'->Q .none G') :
  callN P (n+15) "_law_add" [.ref b,.int way,.int number,.ref pa,.int (ctx.length:Nat)] Q G:=by
 have h9l:(900000:Nat)<lim:=by show 900000<16777216;decide
 have hN9:N<=900000:=Nat.le_trans (Nat.le_add_right _ _) hN
 have hct:=hp.ct (by decide)
 have hd9:=hT.bi.up.deep
 have putB:∀ {e:En}{b':Bk}{G':Heap},addF cur ctx.length way number ts=cur++[b']->Grow H G'->Ok G' e H.length G'.length->RBk b' e->BO1 ctx.length b'->(nmB b'≠lastN [] cur∨lastN [] cur=[104,101,97,100,105,110,103])->szB b'<=6030->G'[b]? = some (fs.map enV)/\Q .none (G'.set b (fs.map enV++[enV e])):=fun {e b' G'} ef g he hb ho hn hs=>by
  obtain ⟨k1,bs',rt',k2⟩:=hT.ts.put g he .here (cur':=cur++[b']) (hT.ts.zp.typ.add hb)
  exact ⟨k1,hQ _ (by rw [ef];exact ⟨_,_,_,_,_,k2,hT.bi.add ho hn hs⟩)⟩
 have hfl:(fs.map enV).length<lim:=Nat.lt_of_le_of_lt (Nat.le_trans hT.flen hN9) h9l
 have rest:wpSs (callN P (n+14)) (b_law_add.drop 2) [some (.ref b),some (.int way),some (.int number),some (.ref pa),some (.int (ctx.length:Nat)),some (.str (lastN [] cur))] (callQ Q) (G++[[]]):=by
  have g1:Grow H (G++[[]]):=g.trans .one
  have hr1:Rep (G++[[]]) (.lst (encs ts)) H.length (G++[[]]:Heap).length (.ref pa):=(hr.grow .one (Nat.le_refl _)).wide (Nat.le_refl _) Grow.one.len
  generalize (G++[[]]:Heap)=G1 at g1 hr1
  clear hr g
  refine s_ite (v_and2 (v_cmp (by exact fun _ h=>h) v_int o_lt) fun _=>v_and1 (v_cmp (by exact fun _ h=>h) v_str o_neS)) (fun hq=>?_) (fun f1=>?_)
  ·-- a gap
   have hgap:nmB (.gap 0)≠lastN [] cur:=fun q=>by
    have:=(Bool.and_eq_true_iff.mp hq).2
    rw [<- q] at this
    exact absurd this (by show ¬ (!([103,97,112]==[103,97,112]))=true;decide)
   obtain ⟨k,hk,hk1,hk2⟩:=gap_in number
   have he:Ok G1 (.leaf (bkE (.gap k)) (.tup [.str [103,97,112],.int (k:Nat)]) G1.length G1.length) H.length G1.length:=⟨⟨g1.len,Nat.le_refl _,Nat.le_refl _⟩,_,rfl,.atom (a:=.s _) (.atom (a:=.i _) (.nil (Nat.le_refl _)))⟩
   obtain ⟨q1,q2⟩:=putB (b':=.gap k) (by unfold addF;rw [hq,hk2];rfl) g1 he ⟨_,_,_,rfl⟩ hk1 (Or.inl hgap) (by show 1<=6030;decide)
   exact s_append (v:=.tup [.str [103,97,112],.int (k:Nat)]) (by exact fun _ h=>h) (v_tup (v_cons (by exact fun _ h=>h) (v_cons (v_e (v_bin (v_bin v_int (v_bin (by exact fun _ h=>h) v_int (o_mod (by decide))) o_addI) (v_bin v_int (v_toInt (v_cmp (v_bin (v_bin (by exact fun _ h=>h) v_int (o_fdiv (by decide))) v_int (o_mod (by decide))) v_int o_eqI)) (o_mulI (Or.inl (by decide)))) o_addI) (congrArg V.int hk)) v_nil))) q1 hfl q2
  refine s_ite (v_cmp (by exact fun _ h=>h) v_int o_lt) (fun hq=>?_) (fun f2=>?_)
  ·-- a heading
   obtain ⟨k,hk,hk3⟩:=mod_in (m:=6) (y:=1+number % 6) rfl (Int.emod_nonneg _ (by decide)) (Int.emod_lt_of_pos _ (by decide))
   have he:Ok G1 (.leaf (bkE (.head k ts)) (.tup [.str [104,101,97,100,105,110,103],.int (k:Nat),.ref pa]) H.length G1.length) H.length G1.length:=⟨⟨Nat.le_refl _,g1.len,Nat.le_refl _⟩,_,rfl,.atom (a:=.s _) (.atom (a:=.i _) (.one g1.len hr1))⟩
   obtain ⟨q1,q2⟩:=putB (b':=.head k ts) (by unfold addF;rw [f1,hq,hk3];rfl) g1 he ⟨_,_,_,rfl⟩ ⟨hk.2,hct⟩ (by
    by_cases q:lastN [] cur=[104,101,97,100,105,110,103]
    ·exact Or.inr q
    ·exact Or.inl fun e=>q e.symm) (Nat.le_trans (Nat.succ_le_succ hp.len) (by decide))
   exact s_append (v:=.tup [.str [104,101,97,100,105,110,103],.int (k:Nat),.ref pa]) (by exact fun _ h=>h) (v_tup (v_cons (by exact fun _ h=>h) (v_cons (v_e (v_bin v_int (v_bin (by exact fun _ h=>h) v_int (o_mod (by decide))) o_addI) (congrArg V.int hk.1)) (v_cons (by exact fun _ h=>h) v_nil)))) q1 hfl q2
  obtain ⟨d,hd,hd3⟩:=mod_in (m:=9) (y:=1+number % 9) rfl (Int.emod_nonneg _ (by decide)) (Int.emod_lt_of_pos _ (by decide))
  have evd:∀ {C:Calls}{G':Heap}{x3 x4 x5:Option V},Ev C [some (.ref b),some (.int way),some (.int number),x3,x4,x5] G' (.bin .add (.int 1) (.bin .mod (.var 2) (.int 9))) (.int (d:Nat)):=v_e (v_bin v_int (v_bin (by exact fun _ h=>h) v_int (o_mod (by decide))) o_addI) (congrArg V.int hd.1)
  have ev7:∀ {C:Calls}{G':Heap}{x3 x4 x5:Option V},Ev C [some (.ref b),some (.int way),some (.int number),x3,x4,x5] G' (.cmp .lt (.var 1) (.int 7)) (.bool (decide (way<7))):=v_cmp (by exact fun _ h=>h) v_int o_lt
  refine s_ite (v_and2 ev7 fun _=>v_and1 (v_cmp (by exact fun _ h=>h) v_str o_eqS)) (fun hq=>?_) (fun hnl=>?_)
  ·-- an item of the last list
   have hl:lastN [] cur=nL:=beq_iff_eq.mp (Bool.and_eq_true_iff.mp hq).2
   have hef:addF cur ctx.length way number ts=cur.dropLast++[.list (insF 9 d (.it d ts []) (lastL cur))]:=by unfold addF;rw [f1,f2,hq,hd3];rfl
   obtain ⟨cs,c,rfl,hc⟩:=last_nm hl (by unfold nL;decide)
   obtain ⟨is,rfl⟩:=nm_list hc
   have hll:lastL (cs++[.list is])=is:=by unfold lastL;rw [List.getLast?_concat]
   rw [hll,List.dropLast_concat] at hef
   have hTs:=hT.ts
   obtain ⟨gs,e,hfs,hgs,pp,a,es,he,his⟩:=hTs.zp.typ.cut
   subst he
   subst hfs
   have hbl:G1[b]? = some (gs.map enV++[.tup [.str nL,.ref a]]):=(g1.get hTs.here.1).trans (by rw [List.map_append];rfl)
   obtain ⟨k1,k2,k3⟩:=BOs.snoc.mp hT.bi.ok
   have hcn:cnts is<=900000:=by
    have:=hT.bi.sz
    rw [szBs_app,szBs_one] at this
    exact Nat.le_trans (Nat.le_trans (cnts_sz is) (Nat.le_trans (Nat.le_succ _) (Nat.le_trans (Nat.le_add_left _ _) (Nat.le_trans (Nat.le_add_left _ _) this)))) hN9
   refine c_expr (v_cons (v_idx (v_idx (by exact fun _ h=>h) v_neg (i_last hbl)) v_int (c:=.ref a) rfl) (v_cons evd (v_cons (by exact fun _ h=>h) v_nil))) (item_ok (n:=n+13) hd.2 hct k2.2.1 hcn hTs hgs his g1 hr1 fun G' hD=>?_)
   obtain ⟨is',bs',rt',fs',t1,t2,t3,t4,t5⟩:=hD.ex
   refine hQ _ ?_
   rw [hef,<- t5]
   exact ⟨_,_,_,_,_,t1,hT.bi.turn rfl ⟨t3,t2,t2.deep (Nat.le_refl _)⟩ (by show szIs is'+1<=szIs is+1+6030;rw [t4,Nat.add_right_comm];exact Nat.add_le_add_left (Nat.le_trans (Nat.succ_le_succ hp.len) (by decide)) _)⟩
  refine s_ite ev7 (fun hq=>?_) (fun f4=>?_)
  ·-- a list
   have hnl0:=hnl
   have hnl:nmB (.list [])≠lastN [] cur:=fun q=>by
    rw [hq,<- q] at hnl
    exact absurd hnl (by show ¬ (true&&([108,105,115,116]==[108,105,115,116]))=false;decide)
   have l1:(G1++[[]]:Heap).length=G1.length+1:=len1
   have l2:(G1++[[]]++[[V.tup [.int (d:Nat),.ref pa,.ref G1.length]]]:Heap).length=(G1++[[]]:Heap).length+1:=len1
   have g2:Grow G1 (G1++[[]]++[[V.tup [.int (d:Nat),.ref pa,.ref G1.length]]]):=grow2
   have hok:Ok (G1++[[]]++[[V.tup [.int (d:Nat),.ref pa,.ref G1.length]]]) (itN d ts (.ref pa) H.length G1.length G1.length []) H.length (G1++[[]]:Heap).length :=
    ⟨⟨Nat.le_refl _,.atom (a:=.i (d:Nat)) (.one g1.len (hr1.grow g2 (Nat.le_refl _)))⟩,⟨Nat.le_refl _,by rw [l1];exact Nat.lt_succ_self _,(fun q=>q.elim),g_skip g_last⟩,by show _<=_;rw [l1];exact Nat.le_succ _⟩
   have hnf:¬ fprs [itN d ts (.ref pa) H.length G1.length G1.length []] (G1++[[]]:Heap).length:=fun q=>by
    exact Nat.lt_irrefl _ (hok.foot (fprs_one.mp q)).2
   have hok2:Ok (G1++[[]]++[[V.tup [.int (d:Nat),.ref pa,.ref G1.length]]]) (two nL H.length (G1++[[]]:Heap).length [itN d ts (.ref pa) H.length G1.length G1.length []]) H.length (G1++[[]]++[[V.tup [.int (d:Nat),.ref pa,.ref G1.length]]]).length :=
    ⟨⟨Nat.le_refl _,.atom (a:=.s nL) (.nil (Nat.le_refl _))⟩,⟨by rw [l1];exact Nat.le_succ_of_le g1.len,by rw [l2];exact Nat.lt_succ_self _,hnf,g_last⟩,⟨_,hok,by show _<=_;rw [l2];exact Nat.le_succ _⟩⟩
   have hit:RIt (.it d ts []) (itN d ts (.ref pa) H.length G1.length G1.length []):=⟨_,_,_,_,_,rfl,rfl⟩
   obtain ⟨q1,q2⟩:=putB (b':=.list [.it d ts []]) (by unfold addF;rw [f1,f2,hnl0,hq,hd3];rfl) (g1.trans g2) hok2 ⟨_,_,_,rfl,_,_,rfl,hit,rfl⟩ ⟨(fun q=>nomatch q),⟨⟨⟨hd.2.1,hd.2.2,hd.2.1⟩,hct,trivial⟩,trivial⟩,by show max 1 0<=9;decide⟩ (Or.inl hnl) (Nat.le_trans (Nat.succ_le_succ (Nat.succ_le_succ hp.len)) (by decide))
   exact s_appendE (a:=b) (by exact fun _ h=>h) (e_tup (es_ev (v:=.str nL) (by exact fun _ h=>h) (es_cons (e_list (es_cons (e_tup (es_ev evd (es_ev (v:=.ref pa) (by exact fun _ h=>h) (es_list0 (es_nil (es_nil (h_append q1 hfl q2))))))))))))
  have args:∀ {C:Calls}{G':Heap},Evs C [some (.ref b),some (.int way),some (.int number),some (.ref pa),some (.int (ctx.length:Nat)),some (.str (lastN [] cur))] G' [.var 3,.var 2,.var 4] [.ref pa,.int number,.int (ctx.length:Nat)]:=by exact fun _ h=>h
  refine s_ite (v_cmp (by exact fun _ h=>h) v_str o_eqS) (fun hq=>?_) (fun hq=>?_)
  ·-- a row of the last paragraph
   have hl:lastN [] cur=nP:=beq_iff_eq.mp hq
   have hef:addF cur ctx.length way number ts=cur.dropLast++[.para (lastP cur++[plainlyF ts number ctx.length])]:=by unfold addF;rw [f1,f2,hnl,f4,hq];rfl
   obtain ⟨cs,c,rfl,hc⟩:=last_nm hl (by unfold nP;decide)
   obtain ⟨rs,rfl⟩:=nm_para hc
   have hll:lastP (cs++[.para rs])=rs:=by unfold lastP;rw [List.getLast?_concat]
   rw [hll,List.dropLast_concat] at hef
   have hTs:=hT.ts
   obtain ⟨gs,e,hfs,hgs,pp,a,es,he,hrs⟩:=hTs.zp.typ.cut
   subst he
   subst hfs
   have hbl:G1[b]? = some (gs.map enV++[.tup [.str nP,.ref a]]):=(g1.get hTs.here.1).trans (by rw [List.map_append];rfl)
   obtain ⟨k1,k2,k3⟩:=BOs.snoc.mp hT.bi.ok
   have hrl:rs.length+1<=N:=by
    have:=hT.bi.sz
    rw [szBs_app,szBs_one] at this
    exact Nat.le_trans (Nat.succ_le_succ (len_szR rs)) (Nat.le_trans (Nat.le_add_left _ _) (Nat.le_trans (Nat.le_add_left _ _) this))
   refine c_append (v_idx (v_idx (by exact fun _ h=>h) v_neg (i_last hbl)) v_int (c:=.ref a) rfl) args (plainly_ok (n:=n) hd9 hp (by decide) hr1 (Nat.le_refl _) fun ts' c G2 hte hD=>?_)
   have he:Ok G2 (.leaf (.lst (encs ts')) (.ref c) H.length G2.length) H.length G2.length:=⟨⟨Nat.le_refl _,(g1.trans hD.gr).len,Nat.le_refl _⟩,hD.rep⟩
   have e2:insE 1 (gs++[two nP pp a es]) (.leaf (.lst (encs ts')) (.ref c) H.length G2.length)=gs++[two nP pp a (es++[.leaf (.lst (encs ts')) (.ref c) H.length G2.length])]:=insE_down
   have hrb:RBk (.para (rs++[ts'])) (two nP pp a (es++[.leaf (.lst (encs ts')) (.ref c) H.length G2.length])):=⟨_,_,_,rfl,hrs.add⟩
   obtain ⟨q1,bs',rt',q2⟩:=hTs.put (g1.trans hD.gr) he (.down .here) (cur':=cs++[.para (rs++[ts'])]) (by rw [e2];exact hgs.add hrb)
   have hel:(es.map enV).length<lim:=by
    have h1:=congrArg List.length hrs.x
    rw [paE_len] at h1
    have q:∀ es:List En,(enXs es).length=es.length:=fun es=>by
     induction es with
     | nil=>rfl
     | cons e es ih=>exact congrArg (· + 1) ih
    rw [q] at h1
    rw [List.length_map,h1]
    exact Nat.lt_of_le_of_lt (Nat.le_trans (Nat.le_of_succ_le hrl) hN9) h9l
   refine h_append q1 hel (hQ _ ?_)
   rw [hef,<- hte]
   refine ⟨_,_,_,_,_,q2,hT.bi.turn rfl ⟨(fun q=>nomatch (List.append_eq_nil_iff.mp q).2),fun t ht=>?_⟩ ?_⟩
   ·rcases List.mem_append.mp ht with ht | ht
    ·exact k2.2 t ht
    ·rw [List.mem_singleton.mp ht];exact ⟨hD.pt.ct (by decide),hD.k4⟩
   ·show szR (rs++[ts'])+1<=szR rs+1+6030
    rw [szR_app,Nat.add_right_comm]
    exact Nat.add_le_add_left (Nat.le_trans (Nat.succ_le_succ hD.pt.len) (by decide)) _
  ·-- a paragraph
   have hq0:=hq
   have hnp:nmB (.para [])≠lastN [] cur:=fun q=>by
    rw [<- q] at hq
    exact absurd hq (by show ¬ ([112,97,114,97]==[112,97,114,97])=false;decide)
   refine s_appendE (a:=b) (by exact fun _ h=>h) (e_tup (es_ev (v:=.str nP) (by exact fun _ h=>h) (es_cons (e_list (es_call args (plainly_ok (n:=n) hd9 hp (by decide) hr1 (Nat.le_refl _) fun ts' c G2 hte hD=>es_nil (es_nil ?_)))))))
   have g2:=g1.trans hD.gr
   have l1:(G2++[[.ref c]]:Heap).length=G2.length+1:=len1
   have he0:Ok (G2++[[.ref c]]) (.leaf (.lst (encs ts')) (.ref c) H.length G2.length) H.length G2.length:=⟨⟨Nat.le_refl _,g2.len,Nat.le_refl _⟩,(hD.rep.wide (lo':=H.length) (Nat.le_refl _) (Nat.le_refl _)).to (Eqv.one (Nat.le_refl _))⟩
   have hnf:¬ fprs [.leaf (.lst (encs ts')) (.ref c) H.length G2.length] G2.length:=fun q=>Nat.lt_irrefl _ (fprs_one.mp q).2
   have he:Ok (G2++[[.ref c]]) (two nP H.length G2.length [.leaf (.lst (encs ts')) (.ref c) H.length G2.length]) H.length (G2++[[V.ref c]]).length :=
    ⟨⟨Nat.le_refl _,.atom (a:=.s nP) (.nil (Nat.le_refl _))⟩,⟨g2.len,by rw [l1];exact Nat.lt_succ_self _,hnf,g_last⟩,⟨_,he0,by show _<=_;rw [l1];exact Nat.le_succ _⟩⟩
   obtain ⟨q1,q2⟩:=putB (b':=.para [ts']) (by unfold addF;rw [f1,f2,hnl,f4,hq0,hte];rfl) (g2.trans .one) he ⟨_,_,_,rfl,_,_,_,_,rfl,rfl⟩ ⟨(fun q=>nomatch q),fun t ht=>by rw [List.mem_singleton.mp ht];exact ⟨hD.pt.ct (by decide),hD.k4⟩⟩ (Or.inl hnp) (Nat.le_trans (Nat.succ_le_succ (Nat.succ_le_succ hD.pt.len)) (by decide))
   exact h_append q1 hfl q2
 have hTG:=hT.grow g
 refine in_law_add (s_assign (by exact fun _ h=>h) ?_)
 have en:=hTG.nen (C:=callN P (n+14)) (ρ:=[some (.ref b),some (.int way),some (.int number),some (.ref pa),some (.int (ctx.length:Nat)),some (.str [])]) (e:=.var 0) hN9 (by exact fun _ h=>h)
 rcases snoc_or cur with e | ⟨cs,c,e⟩
 ·rw [e] at en rest
  exact hs_skip en fun G' g'=>by subst g';exact rest
 ·have hfull:full cur=true:=by rw [e];cases cs<;>rfl
  rw [hfull] at en
  obtain ⟨r,v,l,hbl,hv⟩:=hTG.name e
  have hnm:lastN [] cur=nmB c:=by rw [e,lastN_snoc]
  rw [hnm] at rest
  refine hs_iteT en fun G' g'=>?_
  subst g'
  exact s_assign (v_idx (v_e (v_idx (by exact fun _ h=>h) v_neg (i_last (g_skip hbl))) hv) v_int i_tup0) rest
noncomputable def manyL:List Int:=[0,1,2,3,5,13]
noncomputable def manyF (h:Int):Int:=(manyL[(h / 12 % 6).toNat]?).getD 0
noncomputable def headF (ns:List Int) (k:Nat):Int:=(ns[k]?).getD 0 * 69621 % 2147483647
noncomputable def cellsF (ns:List Int) (k:Nat) (m:Int):List Int:=slice ns (some ((k:Int)+1)) (some ((k:Int)+1+m))
noncomputable def treeS (h:Int) (cells:List Int) (s:BSs):BSs:=bif decide (9<h % 12) then quoteF (h % 12) (1+h / 72 % 3 * 4) s else (s.1,addF s.2 s.1.length (h % 12) (h / 72) (partsF cells (h / 504)))
noncomputable def treeL (ns:List Int):Nat->Nat->BSs->BSs
 | 0,_,s=>s
 | f+1,k,s=>bif decide (k<ns.length) then treeL ns f (k+1+(manyF (headF ns k)).toNat) (treeS (headF ns k) (cellsF ns k (manyF (headF ns k))) s) else s
noncomputable def treeE (s:BSs):List Bk:=bif full s.2 then plug s.1 s.2 else plug s.1 [.gap 1]
noncomputable def treeF (ns:List Int):List Bk:=treeE (treeL ns ns.length 1 ([],[]))
structure TrD (H0:Heap) (bs:List Bk) (G:Heap):Prop where
 bo:BOs 0 [] bs
 ne:bs≠[]
 fit:Fit W 65 (.lst (bkEs bs))
 sz:szBs bs<=900000
 gr:Grow H0 G
 rep:Rep G (.lst (bkEs bs)) H0.length G.length (.ref H0.length)
theorem many_in (h:Int):0<=manyF h/\manyF h<=13/\∃ j:Nat,h / 12 % 6=(j:Int)/\manyL[j]? = some (manyF h):=by
 obtain ⟨j,hj⟩:∃ j:Nat,h / 12 % 6=(j:Int):=⟨(h / 12 % 6).toNat,by lia⟩
 have hj6:j<manyL.length:=by show j<6;lia
 have e:manyL[j]? = some manyL[j]:=List.getElem?_eq_getElem hj6
 have e2:manyF h=manyL[j]:=by unfold manyF;rw [hj,Int.toNat_natCast,e];rfl
 have hall:∀ z∈manyL,0<=z/\z<=13:=by unfold manyL;decide
 have:=hall _ (List.getElem_mem hj6)
 rw [e2]
 exact ⟨this.1,this.2,j,hj,e⟩
theorem many_ev {C:Calls}{ρ:Env}{H:Heap}{h:Int}{Q:PostV}{e:E}(he:∀ G,Ev C ρ G e (.int (h / 12 % 6))) (k:∀ G,Grow H G->Q (.int (manyF h)) G):wpE C (.idx (.list [.int 0,.int 1,.int 2,.int 3,.int 5,.int 13]) e) ρ Q H:=by
 obtain ⟨_,_,j,hj,hm⟩:=many_in h
 refine e_idx (exX_ok (.lst (manyL.map fun z=>.at (.i z))) _ _ fun v G g r=>?_)
 obtain ⟨a,l,p,q,rfl,hb,ha,hr⟩:=r
 refine he G _ ?_
 rw [hj]
 have hl:l.length=6:=hr.len
 have hj6:j<l.length:=by
  have:j<manyL.length:=(List.getElem?_eq_some_iff.mp hm).1
  rw [hl];exact this
 have hv:l[j]? = some l[j]:=List.getElem?_eq_getElem hj6
 obtain ⟨x,hx,hrx⟩:=getX hr hv
 rw [List.getElem?_map,hm] at hx
 cases hx
 have e2:l[j]=.int (manyF h):=hrx
 rw [e2] at hv
 exact v_idxR ha hv (k G g)
theorem g_slcF {C:Calls}{ρ:Env}{H:Heap}{o l r:E}{i j:Int}{ns:List Int}{Q:PostV}(ho:Ev C ρ H o (.frz ns)) (hl:Ev C ρ H l (.int i)) (hr:Ev C ρ H r (.int j)) (k:Q (.ref H.length) (H++[(slice ns (some i) (some j)).map V.int])):wpE C (.slc o l r) ρ Q H:=ho _ (hl _ (hr _ k))
theorem s_callE {C:Calls}{ρ:Env}{H:Heap}{R:PostS}{ss:List S}{f:String}{es:List E}(k:wpEs C es ρ (fun vs H₁=>C f vs (fun _ H₂=>wpSs C ss ρ R H₂) H₁) H):wpSs C (.expr (.call f es)::ss) ρ R H:=k
theorem TX.grow {H0 H G:Heap}{N:Nat}{s:BSs}(h:TX H0 N s H) (g:Grow H G):TX H0 N s G:=by
 obtain ⟨as,b,bs,rt,fs,h⟩:=h
 exact ⟨as,b,bs,rt,fs,h.grow g⟩
theorem TX.le {H0 H:Heap}{N M:Nat}{s:BSs}(h:TX H0 N s H) (hM:N<=M):TX H0 M s H:=by
 obtain ⟨as,b,bs,rt,fs,h⟩:=h
 exact ⟨as,b,bs,rt,fs,h.ts,h.bi.up,h.bi.ok,Nat.le_trans h.bi.sz hM⟩
theorem slice_le {α:Type}{l:List α}{i j:Int}(h:0<=i) (h':0<=j):(slice l (some i) (some j)).length<=l.length:=by
 rw [slice_mid h h',List.length_take,List.length_drop]
 exact Nat.le_trans (Nat.min_le_right _ _) (Nat.sub_le _ _)
structure TZ where
 k:Nat
 s:BSs
 x3:Option V
 x4:Option V
 x5:Option V
theorem tree_end {n N:Nat}{ns:List Int}{H0 G:Heap}{ctx:List (List Bk)}{cur:List Bk}{as:List Nat}{b:Nat}{bs:List Bk}{rt fs:List En}{x2 x3 x4 x5:Option V}{R:PostV}(h:TI H0 N ctx cur as b bs rt fs G) (hN:N<=900000) (hne:cur≠[]) (hR:TrD H0 (plug ctx cur) G->R (.ref H0.length) G) :
  wpSs (callN P n) [.ret (.idx (.var 1) (.int 0))] [some (.frz ns),some (.ref (H0.length+1)),x2,x3,x4,x5] (callQ R) G:=by
 have hW:W=1000000:=rfl
 obtain ⟨r,er⟩:=h.ts.zp.first
 have hp:G[H0.length+1]? = some (.ref H0.length::r.map V.ref):=h.ts.pile.trans (by rw [er];rfl)
 refine s_ret (v_idx (by exact fun _ h=>h) v_int (i_ref (i:=0) hp rfl)) (hR ?_)
 obtain ⟨o1,o2⟩:=plug_ok hne h.bi.up (by rw [Nat.zero_add];exact h.bi.ok)
 have hrep:=h.ts.nd.rep
 rw [h.ts.zp.root.x,h.ts.zp.whole] at hrep
 have hsz:=h.bi.sz
 have hlen:=h.ts.len
 have hfit:Fit W 65 (.lst (bkEs (plug ctx cur))):=(fit_bs (deep:=0) (Nat.zero_le _) o1 (by rw [plug_sz];lia)).up (Nat.le_refl _) (by decide)
 exact ⟨o1,o2,hfit,by rw [plug_sz];lia,⟨by lia,h.ts.old⟩,hrep⟩
theorem tree_last {n N:Nat}{k:Int}{ns:List Int}{H0 G:Heap}{s:BSs}{x2 x3 x4 x5:Option V}{Q:PostV}(h:TX H0 N s G) (hN:N+6030<=900000) (hQ:∀ G,TrD H0 (treeE s) G->Q (.ref H0.length) G) :
  wpSs (callN P n) (b_law_tree.drop 3) [some (.frz ns),some (.ref (H0.length+1)),x2,x3,x4,x5] (callQ Q) G:=by
 have hlim:lim=16777216:=rfl
 obtain ⟨ctx,cur⟩:=s
 obtain ⟨as,b,bs,rt,fs,hT⟩:=h
 replace hT:TI H0 N ctx cur as b bs rt fs G:=hT
 obtain ⟨r,hp⟩:=hT.pl
 have en:=hT.eqn (C:=callN P n) (ρ:=[some (.frz ns),some (.ref (H0.length+1)),x2,x3,x4,x5]) (e:=.idx (.var 1) (.neg 1)) (by lia) (v_idx (by exact fun _ h=>h) v_neg (i_last hp))
 cases cur with
 | cons x xs =>
  refine hs_skip en fun G' g'=>?_
  subst g'
  exact tree_end (hT.grow .one) (by lia) (fun q=>nomatch q) fun hD=>hQ _ hD
 | nil =>
  refine hs_iteT en fun G' g'=>?_
  subst g'
  have he:Ok (G++[[]]) (.leaf (bkE (.gap 1)) (.tup [.str [103,97,112],.int 1]) (G++[[]]:Heap).length (G++[[]]:Heap).length) G.length (G++[[]]).length:=⟨⟨Grow.one.len,Nat.le_refl _,Nat.le_refl _⟩,_,rfl,.atom (a:=.s _) (.atom (a:=.i 1) (.nil (Nat.le_refl _)))⟩
  have hb1:RBk (.gap 1) (.leaf (bkE (.gap 1)) (.tup [.str [103,97,112],.int 1]) (G++[[]]:Heap).length (G++[[]]:Heap).length):=⟨_,_,_,rfl⟩
  obtain ⟨q1,bs',rt',q2⟩:=hT.ts.put .one he .here (cur':=[]++[.gap 1]) (hT.ts.zp.typ.add hb1)
  refine s_append (a:=b) (v:=.tup [.str [103,97,112],.int 1]) (v_idx (by exact fun _ h=>h) v_neg (i_last (g_skip hp))) (by exact fun _ h=>h) q1 (Nat.lt_of_le_of_lt hT.flen (by lia)) ?_
  have hbi:BI ctx ([]++[.gap 1]) (N+6030):=hT.bi.add (b:=.gap 1) (Nat.le_refl 1) (Or.inl (by show ([103,97,112]:List Nat)≠[];decide)) (by show 1<=6030;decide)
  exact tree_end (n:=n) ⟨q2,hbi⟩ (by lia) (fun q=>nomatch q) fun hD=>hQ _ hD
theorem tree_start {H0:Heap}:TX H0 6030 ([],[]) (H0++[[]]++[[V.ref H0.length]]):=by
 have e1:(H0++[[]]:Heap).length=H0.length+1:=len1
 have e2:=lenH2 (H:=H0) (l:=[]) (l':=[V.ref H0.length])
 have hpl:(H0++[[]]++[[V.ref H0.length]])[H0.length+1]? = some [V.ref H0.length]:=by rw [<- e1];exact g_last
 have hnd:Nd (H0++[[]]++[[V.ref H0.length]]) H0.length (H0++[[]]++[[V.ref H0.length]]).length H0.length []:=⟨⟨Nat.le_refl _,by rw [e2];exact Nat.lt_add_of_pos_right (by decide),(fun q=>q.elim),g_skip g_last⟩,grow2.len⟩
 exact ⟨[H0.length],H0.length,[],[],[],⟨Nat.le_of_eq e2.symm,grow2.old,hpl,.here rfl,hnd,fun i q=>q.elim⟩,trivial,trivial,Nat.zero_le _⟩
theorem kcast {k:Nat}{m:Int}(h:0<=m):(k:Int)+1+m=((k+1+m.toNat:Nat):Int):=by lia
theorem many9 (y:Int):(1+y % 3 * 4).toNat<=10:=by
 have h1:0<=y % 3:=Int.emod_nonneg _ (by decide)
 have h2:y % 3<3:=Int.emod_lt_of_pos _ (by decide)
 lia
theorem tree_le {k j:Nat}:6030 * k+6030<=6030 * (k+1+j):=by
 rw [<- Nat.mul_succ];exact Nat.mul_le_mul_left _ (Nat.le_add_right _ _)
theorem tree_lt {k j L:Nat}(h:k<L):L - (k+1+j)<L - k:=Nat.lt_of_le_of_lt (Nat.sub_le_sub_left (Nat.le_add_right _ _) _) (Nat.sub_lt_sub_left h (Nat.lt_succ_self _))
theorem tree_fu {k j L f:Nat}(h:L<=k+f) (hf:f=f - 1+1):L<=k+1+j+(f - 1):=by
 rw [hf] at h
 exact Nat.le_trans h (by rw [Nat.add_right_comm k 1,Nat.add_right_comm _ 1];exact Nat.le_trans (Nat.le_of_eq (Nat.add_assoc k (f - 1) 1).symm) (by rw [Nat.add_right_comm k j];exact Nat.succ_le_succ (Nat.le_add_right _ _)))
theorem tree_ok {n:Nat}{ns:List Int}{H0:Heap}{Q:PostV}(hns:ns.length<=63) (hQ:∀ G,TrD H0 (treeF ns) G->Q (.ref H0.length) G):callN P (n+16) "_law_tree" [.frz ns] Q H0:=by
 have hlim:lim=16777216:=rfl
 have e1:(H0++[[]]:Heap).length=H0.length+1:=len1
 refine in_law_tree (s_assignG (v:=.ref (H0.length+1)) (H1:=H0++[[]]++[[.ref H0.length]]) (fun Q q=>?_) (s_assign (by exact fun _ h=>h) (ss_cons (l_whl (σ:=TZ) (fun z=>[some (.frz ns),some (.ref (H0.length+1)),some (.int (z.k:Nat)),z.x3,z.x4,z.x5]) (fun z G=>TX H0 (6030 * z.k) z.s G/\z.k<=100/\∃ f,ns.length<=z.k+f/\treeL ns f z.k z.s=treeL ns ns.length 1 ([],[])) (fun z=>ns.length - z.k) (fun z G hI K hK=>?_) ⟨1,([],[]),none,none,none⟩ ⟨tree_start,by show 1<=100;decide,ns.length,Nat.le_add_left _ _,rfl⟩))))
 ·rw [<- e1] at q;exact q
 ·obtain ⟨k,s,x3,x4,x5⟩:=z
  obtain ⟨hT,hk100,f,hf,hR⟩:=hI
  replace hT:TX H0 (6030 * k) s G:=hT
  replace hf:ns.length<=k+f:=hf
  replace hk100:k<=100:=hk100
  replace hR:treeL ns f k s=treeL ns ns.length 1 ([],[]):=hR
  have ev:∀ {C:Calls},Ev C [some (.frz ns),some (.ref (H0.length+1)),some (.int (k:Nat)),x3,x4,x5] G (.cmp .lt (.var 2) (.len (.var 0))) (.bool (decide (k<ns.length))):=v_b (v_cmp (by exact fun _ h=>h) (v_len (by exact fun _ h=>h) o_lenF) o_lt) lt9
  cases hk:decide (k<ns.length) with
  | false =>
   rw [hk] at ev
   refine .stop ev ?_
   have hs:s=treeL ns ns.length 1 ([],[]):=by
    rw [<- hR]
    cases f with
    | zero=>rfl
    | succ f =>
     show s=bif decide (k<ns.length) then _ else s
     rw [hk];rfl
   exact tree_last (n:=n+15) (k:=0) hT (Nat.le_trans (Nat.add_le_add_right (Nat.mul_le_mul_left 6030 hk100) _) (by decide)) fun G h=>hQ G (by unfold treeF;rw [<- hs];exact h)
  | true =>
   rw [hk] at ev
   have hkl:k<ns.length:=of_decide_eq_true hk
   refine .go ev ?_
   have hix:ns[k]? = some ns[k]:=List.getElem?_eq_getElem hkl
   have hidx:∀ {H:Heap},idxV (.frz ns) (.int (k:Nat)) H=some (.int ns[k]):=fun {H}=>by
    show (place (k:Int) ns.length).bind (fun i=>(ns[i]?).map V.int)=_
    rw [place_nat hkl]
    show (ns[k]?).map V.int=_
    rw [hix];rfl
   refine s_assign (v:=.int (headF ns k)) (v_e (v_bin (v_bin (v_idx (by exact fun _ h=>h) (by exact fun _ h=>h) hidx) v_int (o_mulI (Or.inr (by decide)))) v_int (o_mod (by decide))) (by unfold headF;rw [hix];rfl)) ?_
   have hfs:f=(f - 1)+1:=by
    cases f with
    | zero=>exact absurd hkl (Nat.not_lt_of_le hf)
    | succ f=>rfl
   have hR2:treeL ns (f - 1) (k+1+(manyF (headF ns k)).toNat) (treeS (headF ns k) (cellsF ns k (manyF (headF ns k))) s)=treeL ns ns.length 1 ([],[]):=by
    rw [<- hR,hfs]
    show _=bif decide (k<ns.length) then _ else s
    rw [hk];rfl
   generalize headF ns k=h at hR2
   obtain ⟨hm0,hm13,_⟩:=many_in h
   refine ss_assign (many_ev (h:=h) (fun G=>v_bin (v_bin (by exact fun _ h=>h) v_int (o_fdiv (by decide))) v_int (o_mod (by decide))) fun G1 g1=>?_)
   generalize manyF h=m at hR2 hm0 hm13
   refine ss_assign (g_slcF (by exact fun _ h=>h) (v_bin (by exact fun _ h=>h) v_int o_addI) (v_bin (v_bin (by exact fun _ h=>h) v_int o_addI) (by exact fun _ h=>h) o_addI) ?_)
   have hce:slice ns (some ((k:Int)+1)) (some ((k:Int)+1+m))=cellsF ns k m:=rfl
   have hcl:(cellsF ns k m).length<=63:=Nat.le_trans (slice_le (by lia) (by lia)) hns
   rw [hce]
   generalize cellsF ns k m=cells at hR2 hcl
   refine s_assign (v_e (v_bin (v_bin (by exact fun _ h=>h) v_int o_addI) (by exact fun _ h=>h) o_addI) (congrArg V.int (kcast hm0))) ?_
   have hT2:TX H0 (6030 * k) s (G1++[cells.map V.int]):=hT.grow (g1.trans .one)
   have hcg:(G1++[cells.map V.int])[G1.length]? = some (cells.map V.int):=g_last
   generalize (G1++[cells.map V.int]:Heap)=G2 at hT2 hcg
   generalize G1.length=c at hcg
   have hk':k+1+m.toNat<=100:=Nat.le_trans (Nat.add_le_add (Nat.le_trans hkl hns) (Int.toNat_le.mpr hm13)) (by decide)
   have hkN:6030 * k+6030<=900000:=Nat.le_trans (Nat.add_le_add_right (Nat.mul_le_mul_left 6030 hk100) _) (by decide)
   have next:∀ {G':Heap},TX H0 (6030 * k+6030) (treeS h cells s) G'->K [some (.frz ns),some (.ref (H0.length+1)),some (.int ((k+1+m.toNat:Nat):Int)),some (.int h),some (.int m),some (.ref c)] G':=fun hG' =>
    hK ⟨k+1+m.toNat,treeS h cells s,_,_,_⟩ _ (tree_lt hkl) ⟨hG'.le tree_le,hk',f - 1,tree_fu hf hfs,hR2⟩
   have evm:∀ {C:Calls}{x2:Option V}{x4 x5:Option V}{G:Heap},Ev C [some (.frz ns),some (.ref (H0.length+1)),x2,some (.int h),x4,x5] G (.bin .mod (.var 3) (.int 12)) (.int (h % 12)):=v_bin (by exact fun _ h=>h) v_int (o_mod (by decide))
   refine s_ite (v_cmp evm v_int o_gt) (fun hq=>?_) (fun hq=>?_)
   ·refine c_expr (v_cons (by exact fun _ h=>h) (v_cons evm (v_cons (v_bin v_int (v_bin (v_bin (v_bin (by exact fun _ h=>h) v_int (o_fdiv (by decide))) v_int (o_mod (by decide))) v_int (o_mulI (Or.inr (by decide)))) o_addI) v_nil))) (quote_ok (n:=n+14) hT2 (Nat.le_trans (Nat.add_le_add_left (by decide) _) hkN) (many9 _) fun G' hG'=>next ?_)
    unfold treeS
    rw [hq];exact hG'.le (Nat.add_le_add_left (by decide) _)
   ·obtain ⟨ctx,cur⟩:=s
    obtain ⟨as,b,bs,rt,fs,hTI⟩:=hT2
    replace hTI:TI H0 (6030 * k) ctx cur as b bs rt fs G2:=hTI
    obtain ⟨r,hp⟩:=hTI.pl
    refine s_callE (es_ev (v_idx (by exact fun _ h=>h) v_neg (i_last hp)) (es_ev evm (es_ev (v_bin (by exact fun _ h=>h) v_int (o_fdiv (by decide))) (es_call (v_cons (by exact fun _ h=>h) (v_cons (v_bin (by exact fun _ h=>h) v_int (o_fdiv (by decide))) v_nil)) (lparts_made (n:=n+10) hcg (by rw [List.length_map];exact hcl) rfl fun G3 hD=>?_)))))
    refine es_ev (v:=.int (ctx.length:Nat)) (v_e (v_bin (v_len (by exact fun _ h=>h) (o_lenR (hD.gr.get hTI.ts.pile))) v_int o_subI) (congrArg V.int (by rw [hTI.plen];lia))) (es_nil ?_)
    refine add_ok (n:=n) hTI hkN ⟨hD.op,hD.sg,hD.len⟩ hD.gr hD.rep fun G' hG'=>next ?_
    unfold treeS
    rw [hq];exact hG'
mutual
noncomputable def sayT:T->List Nat
 | .txt s=>s
 | .kept s=>s
 | .code s _=>s
 | .span _ ts _=>sayTs ts
 | .link ts _ _=>sayTs ts
noncomputable def sayTs:List T->List Nat
 | []=>[]
 | t::ts=>sayT t++sayTs ts
end
theorem say_flat:∀ ts:List T,sayTs ts=ts.flatMap sayT
 | []=>rfl
 | t::ts=>by show sayT t++sayTs ts=_;rw [say_flat ts];rfl
mutual
theorem say_le:∀ t:T,(sayT t).length<=(rowT t).length
 | .txt s=>Nat.le_refl _
 | .kept s=>by show s.length<=([92]++s).length;rw [List.length_append];exact Nat.le_add_left _ _
 | .code s b=>suf (a:=[96]) (pre (Nat.le_refl _))
 | .span c ts b=>Nat.le_trans (says_le ts) (Nat.le_of_succ_le row_span)
 | .link ts g b=>Nat.le_trans (says_le ts) (Nat.le_of_succ_le row_link)
theorem says_le:∀ ts:List T,(sayTs ts).length<=(rowTs ts).length
 | []=>Nat.le_refl _
 | t::ts=>by
  have h1:=say_le t
  have h2:=says_le ts
  show (sayT t++sayTs ts).length<=(rowT t++rowTs ts).length
  rw [List.length_append,List.length_append];exact Nat.add_le_add h1 h2
end
noncomputable def SYs (f:String) (d n:Nat):Prop:=∀ (ts:List T) (a lo hi:Nat) (H:Heap) (Q:PostV),GTs d ts->Rep H (.lst (encs ts)) lo hi (.ref a)->(sayTs ts).length<=1000000->Q (.str (sayTs ts)) H->callN P n f [.ref a] Q H
theorem words_body {n d:Nat}(ih:d<12->SYs "words_of" (d+1) n):SYs "words_of" d (n+1):=by
 intro ts a lo hi H Q hg hr hl h
 rw [say_flat] at h hl
 refine in_words_of (fold_ok sayT hr hl (fun i t v w p q R ht hrt hlen hR=>?_) h)
 have hgt:=hg.get ht
 have hb:w.length+(sayT t).length<=lim:=Nat.le_trans hlen lim1
 cases t with
 | txt s =>
  rw [show v=.str s from hrt] at hR ⊢
  exact s_iteT (fun _ h=>h) (s_assign (v_bin (fun _ h=>h) (fun _ h=>h) (o_addS hb)) hR)
 | kept s =>
  rw [un_kept hrt] at hR ⊢
  exact s_iteF (fun _ h=>h) (s_iteF (fun _ h=>h) (s_iteF (fun _ h=>h) (s_assign (v_bin (fun _ h=>h) (fun _ h=>h) (o_addS hb)) hR)))
 | code s b =>
  rw [un_code hrt] at hR ⊢
  exact s_iteF (fun _ h=>h) (s_iteF (fun _ h=>h) (s_iteF (fun _ h=>h) (s_assign (v_bin (fun _ h=>h) (fun _ h=>h) (o_addS hb)) hR)))
 | span c us b =>
  obtain ⟨a2,rfl,hra⟩:=un_span hrt
  exact s_iteF (fun _ h=>h) (s_iteT (fun _ h=>h) (s_assign (v_bin (fun _ h=>h) (v_call (v_cons (fun _ h=>h) v_nil) fun Q q=>ih hgt.1 us a2 _ _ H Q hgt.2.2 hra (Nat.le_trans (Nat.le_add_left _ _) hlen) q) (o_addS hb)) hR))
 | link us g b =>
  obtain ⟨a2,rfl,hra⟩:=un_link hrt
  exact s_iteF (fun _ h=>h) (s_iteF (fun _ h=>h) (s_iteT (fun _ h=>h) (s_assign (v_bin (fun _ h=>h) (v_call (v_cons (fun _ h=>h) v_nil) fun Q q=>ih hgt.1 us a2 _ _ H Q hgt.2.2 hra (Nat.le_trans (Nat.le_add_left _ _) hlen) q) (o_addS hb)) hR)))
theorem words_of_ok:∀ (m d n:Nat),d+m=12->SYs "words_of" d (n+m+1)
 | 0,d,n,h=>words_body fun q=>absurd h (Nat.ne_of_lt q)
 | m+1,d,n,h=>words_body fun _=>words_of_ok m (d+1) n ((Nat.add_right_comm d 1 m).trans h)
theorem fuel13 {n d:Nat}(h:d<=12):n+d+(12 - d)+1=n+13:=by rw [Nat.add_assoc n,Nat.add_sub_cancel' h]
theorem words_at {d:Nat}(n:Nat) (h:d<=12):SYs "words_of" d (n+13):=by
 have:=words_of_ok (12 - d) d (n+d) (Nat.add_sub_cancel' h)
 rw [fuel13 h] at this
 exact this
theorem said_body {n d:Nat}(ih:d<12->SYs "_law_said" (d+1) n):SYs "_law_said" d (n+1):=by
 intro ts a lo hi H Q hg hr hl h
 rw [say_flat] at h hl
 refine in_law_said (fold_ok sayT hr hl (fun i t v w p q R ht hrt hlen hR=>?_) h)
 have hgt:=hg.get ht
 have hb:w.length+(sayT t).length<=lim:=Nat.le_trans hlen lim1
 cases t with
 | txt s =>
  rw [show v=.str s from hrt] at hR ⊢
  exact s_iteT (fun _ h=>h) (s_assign (v_bin (fun _ h=>h) (fun _ h=>h) (o_addS hb)) hR)
 | kept s =>
  rw [un_kept hrt] at hR ⊢
  exact s_iteF (fun _ h=>h) (s_iteT (fun _ h=>h) (s_assign (v_bin (fun _ h=>h) (fun _ h=>h) (o_addS hb)) hR))
 | code s b =>
  rw [un_code hrt] at hR ⊢
  exact s_iteF (fun _ h=>h) (s_iteT (fun _ h=>h) (s_assign (v_bin (fun _ h=>h) (fun _ h=>h) (o_addS hb)) hR))
 | span c us b =>
  obtain ⟨a2,rfl,hra⟩:=un_span hrt
  exact s_iteF (fun _ h=>h) (s_iteF (fun _ h=>h) (s_assign (v_bin (fun _ h=>h) (v_call (vs:=[.ref a2]) (v_cons (fun _ h=>h) v_nil) fun Q q=>ih hgt.1 us a2 _ _ H Q hgt.2.2 hra (Nat.le_trans (Nat.le_add_left _ _) hlen) q) (o_addS hb)) hR))
 | link us g b =>
  obtain ⟨a2,rfl,hra⟩:=un_link hrt
  exact s_iteF (fun _ h=>h) (s_iteF (fun _ h=>h) (s_assign (v_bin (fun _ h=>h) (v_call (vs:=[.ref a2]) (v_cons (fun _ h=>h) v_nil) fun Q q=>ih hgt.1 us a2 _ _ H Q hgt.2.2 hra (Nat.le_trans (Nat.le_add_left _ _) hlen) q) (o_addS hb)) hR))
theorem said_ok:∀ (m d n:Nat),d+m=12->SYs "_law_said" d (n+m+1)
 | 0,d,n,h=>said_body fun q=>absurd h (Nat.ne_of_lt q)
 | m+1,d,n,h=>said_body fun _=>said_ok m (d+1) n ((Nat.add_right_comm d 1 m).trans h)
theorem said_at {d:Nat}(n:Nat) (h:d<=12):SYs "_law_said" d (n+13):=by
 have:=said_ok (12 - d) d (n+d) (Nat.add_sub_cancel' h)
 rw [fuel13 h] at this
 exact this
mutual
noncomputable def lkT:T->List (List Nat×List Nat)
 | .span _ ts _=>lks ts
 | .link ts g _=>match g with
  | some g=>(sayTs ts,g)::lks ts
  | none=>lks ts
 | _=>[]
noncomputable def lks:List T->List (List Nat×List Nat)
 | []=>[]
 | t::ts=>lkT t++lks ts
end
theorem lk_flat:∀ ts:List T,lks ts=ts.flatMap lkT
 | []=>rfl
 | t::ts=>by show lkT t++lks ts=_;rw [lk_flat ts];rfl
mutual
theorem lk_le:∀ t:T,(lkT t).length<=(rowT t).length
 | .txt s=>Nat.zero_le _
 | .kept s=>Nat.zero_le _
 | .code s b=>Nat.zero_le _
 | .span c ts b=>Nat.le_trans (lks_le ts) (Nat.le_of_succ_le row_span)
 | .link ts g b=>by
  have:=lks_le ts
  cases g with
  | none=>exact Nat.le_trans this (Nat.le_of_succ_le row_link)
  | some g=>exact Nat.le_trans (Nat.succ_le_succ this) row_link
theorem lks_le:∀ ts:List T,(lks ts).length<=(rowTs ts).length
 | []=>Nat.le_refl _
 | t::ts=>by
  have h1:=lk_le t
  have h2:=lks_le ts
  show (lkT t++lks ts).length<=(rowT t++rowTs ts).length
  rw [List.length_append,List.length_append];exact Nat.add_le_add h1 h2
end
theorem take_flat {α:Type}{g:T->List α}{ts:List T}{i:Nat}{t:T}(h:ts[i]? = some t):(ts.take (i+1)).flatMap g=(ts.take i).flatMap g++g t:=by
 rw [List.take_add_one,h,List.flatMap_append];exact congrArg _ (List.append_nil _)
theorem part_le {ts:List T}{i:Nat}{t:T}(h:ts[i]? = some t):(rowTs (ts.take i)).length+(rowT t).length<=(rowTs ts).length:=by
 have e:rowTs (ts.take (i+1))=rowTs (ts.take i)++rowT t:=by rw [List.take_add_one,h,rowTs_app];exact congrArg _ (rowTs_one t)
 have:=congrArg List.length (rowTs_app (ts.take (i+1)) (ts.drop (i+1)))
 rw [List.take_append_drop,List.length_append,e,List.length_append] at this
 rw [this];exact Nat.le_add_right _ _
noncomputable def PLs (d n:Nat):Prop:=∀ (H:Heap) (ts:List T) (a lo hi mk:Nat) (l0 l:List V) (Q:PostV),GTs d ts->Rep H (.lst (encs ts)) lo hi (.ref a)->hi<=mk->H[mk]? = some l0->l.length+(rowTs ts).length<=1000000->Q .none (H.set mk (l++(lks ts).map pV))->callN P n "put_links" [.ref a,.ref mk] Q (H.set mk l)
structure LZ where
 l:List V
 e:Option V
theorem set_set {H:Heap}{a:Nat}{x y:List V}:(H.set a x).set a y=H.set a y:=List.set_set ..
theorem links_body {n d:Nat}(ih:d<12->PLs (d+1) (n+13)):PLs d (n+14):=by
 intro H ts a lo hi mk l0 l Q hg hr hh hm hl hQ
 obtain ⟨a',lv,p,q,e,hb,ha,hrl⟩:=hr
 cases e
 have ham:mk≠a:=Nat.ne_of_gt (Nat.lt_of_lt_of_le hb.ah hh)
 refine in_put_links (ss_cons (l_for (σ:=LZ) (fun z=>[some (.ref a),some (.ref mk),z.e]) (fun i z G=>G=H.set mk z.l/\z.l=l++((ts.take i).flatMap lkT).map pV) (l:=lv) (fun i z G hI=>?_) (fun i z G v hv hI K hK=>?_) (fun z G hI=>?_) ⟨l,none⟩ (fun _ h=>h) ⟨rfl,(List.append_nil _).symm⟩))
 ·rw [hI.1,List.getElem?_set_ne ham];exact ha
 ·obtain ⟨rfl,hz⟩:=hI
  obtain ⟨t,p',q',ht,hp',hq',hrt⟩:=getT hrl hv
  have hgt:=hg.get ht
  have hq:q'<=mk:=Nat.le_trans hq' (Nat.le_trans hb.qh hh)
  have hle:=part_le ht
  have hzl:z.l.length+(rowT t).length<=1000000:=by
   have h1:=lks_le (ts.take i)
   rw [lk_flat] at h1
   rw [hz,List.length_append,List.length_map,Nat.add_assoc]
   exact Nat.le_trans (Nat.add_le_add_left (Nat.le_trans (Nat.add_le_add_right h1 _) hle) _) hl
  have fin:∀ {R:PostS}{w:V}{l':List V},(∀ ρ G,K ρ G->R .next ρ G)->l'=z.l++(lkT t).map pV->R .next [some (.ref a),some (.ref mk),some w] (H.set mk l'):=fun {R w l'} hR e=>hR _ _ (hK ⟨l',some w⟩ _ ⟨rfl,by rw [e,hz,take_flat ht,List.map_append,List.append_assoc]⟩)
  have nothing:lkT t=[]->K [some (.ref a),some (.ref mk),some v] (H.set mk z.l):=fun e=>fin (R:=fun f ρ G=>K ρ G) (fun _ _ h=>h) (by rw [e];exact (List.append_nil _).symm)
  cases t with
  | txt w =>
   rw [show v=.str w from hrt] at nothing ⊢
   exact s_iteT (fun _ h=>h) (nothing rfl)
  | kept w =>
   rw [un_kept hrt] at nothing ⊢
   exact s_skip (fun _ h=>h) (s_iteF (fun _ h=>h) (s_skip (fun _ h=>h) (nothing rfl)))
  | code w b =>
   rw [un_code hrt] at nothing ⊢
   exact s_skip (fun _ h=>h) (s_iteF (fun _ h=>h) (s_skip (fun _ h=>h) (nothing rfl)))
  | span c us b =>
   obtain ⟨a2,rfl,hra⟩:=un_span hrt
   have hlu:z.l.length+(rowTs us).length<=1000000:=Nat.le_trans (Nat.add_le_add_left (Nat.le_of_succ_le row_span) _) hzl
   exact s_skip (fun _ h=>h) (s_iteT (fun _ h=>h) (c_expr (fun _ h=>h) (ih hgt.1 H us a2 _ _ mk l0 z.l _ hgt.2.2 hra hq hm hlu (fin (fun _ _ h=>h) rfl))))
  | link us g b =>
   obtain ⟨a2,rfl,hra⟩:=un_link hrt
   cases g with
   | none =>
    have hlu:z.l.length+(rowTs us).length<=1000000:=Nat.le_trans (Nat.add_le_add_left (Nat.le_of_succ_le row_link) _) hzl
    exact s_skip (fun _ h=>h) (s_iteF (fun _ h=>h) (s_iteT (fun _ h=>h) (s_skip (fun _ h=>h) (c_expr (fun _ h=>h) (ih hgt.1 H us a2 _ _ mk l0 z.l _ hgt.2.2 hra hq hm hlu (fin (fun _ _ h=>h) rfl))))))
   | some g =>
    have hlu:z.l.length+1+(rowTs us).length<=1000000:=by
     rw [Nat.add_assoc,Nat.add_comm 1];exact Nat.le_trans (Nat.add_le_add_left row_link _) hzl
    have hsay:=says_le us
    have hra':Rep (H.set mk z.l) (.lst (encs us)) p' q' (.ref a2):=hra.to (Eqv.set (Or.inr hq))
    refine s_skip (fun _ h=>h) (s_iteF (fun _ h=>h) (s_iteT (fun _ h=>h) (s_iteT (fun _ h=>h) (s_append (v:=pV (sayTs us,g)) (by exact fun _ h=>h) (v_tup (v_cons (v_call (v_cons (by exact fun _ h=>h) v_nil) fun Q q=>words_at n hgt.1 us a2 _ _ _ Q hgt.2.2 hra' (Nat.le_trans hsay (Nat.le_trans (Nat.le_add_left _ _) hlu)) q) (v_cons (by exact fun _ h=>h) v_nil))) (g_set hm) (Nat.lt_of_lt_of_le (Nat.le_trans (Nat.le_add_right _ _) hlu) lim1) ?_))))
    rw [set_set]
    refine c_expr (vs:=[.ref a2,.ref mk]) (by exact fun _ h=>h) (ih hgt.1 H us a2 _ _ mk l0 (z.l++[pV (sayTs us,g)]) _ hgt.2.2 hra hq hm (by rw [List.length_append];exact hlu) (fin (fun _ _ h=>h) ?_))
    rw [List.append_assoc];rfl
 ·obtain ⟨rfl,hz⟩:=hI
  rw [hrl.len,encs_len,List.take_length,<- lk_flat] at hz
  rw [hz];exact hQ
theorem put_links_ok:∀ (m d n:Nat),d+m=12->PLs d (n+m+14)
 | 0,d,n,h=>links_body fun q=>absurd h (Nat.ne_of_lt q)
 | m+1,d,n,h=>links_body (n:=n+m+1) fun _=>put_links_ok m (d+1) n ((Nat.add_right_comm d 1 m).trans h)
structure AZ where
 l:List V
 e:Option V
 f:Option V
theorem flat_one {α β:Type}{g:α->List β}{xs:List α}{i:Nat}{y:α}(h:xs[i]? = some y):(xs.take (i+1)).flatMap g=(xs.take i).flatMap g++g y:=by
 rw [List.take_add_one,h,List.flatMap_append];exact congrArg _ (List.append_nil _)
theorem loop_app {C:Calls}{x:Nat}{ex:E}{B:List S}{R:PostS}{α:Type}(env:Option V->Option V->Env) (g:α->List V) {xs:List α}{a mk:Nat}{lv l l0:List V}{e0 f0:Option V}{H:Heap}(hset:∀ e f v,(env e f).set x (some v)=env (some v) f) (ham:mk≠a) (ha:H[a]? = some lv) (hlen:lv.length=xs.length) (hm:H[mk]? = some l0) (hex:Ev C (env e0 f0) (H.set mk l) ex (.ref a))
  (step:∀ (i:Nat) (y:α) (v:V) (l':List V) (f:Option V) (K:Env->Heap->Prop),xs[i]? = some y->lv[i]? = some v->l'=l++(xs.take i).flatMap g->(∀ f',K (env (some v) f') (H.set mk (l'++g y)))->wpSs C B (env (some v) f) (loopQ R K) (H.set mk l'))
  (fin:∀ e f,R .next (env e f) (H.set mk (l++xs.flatMap g))):wpS C (.forIn x ex B) (env e0 f0) R (H.set mk l):=by
 refine l_for (σ:=AZ) (fun z=>env z.e z.f) (fun i z G=>G=H.set mk z.l/\z.l=l++(xs.take i).flatMap g) (l:=lv) (fun i z G hI=>?_) (fun i z G v hv hI K hK=>?_) (fun z G hI=>?_) ⟨l,e0,f0⟩ hex ⟨rfl,(List.append_nil _).symm⟩
 ·rw [hI.1,List.getElem?_set_ne ham];exact ha
 ·obtain ⟨rfl,hz⟩:=hI
  have hi:i<xs.length:=by rw [<- hlen];exact (List.getElem?_eq_some_iff.mp hv).1
  have hy:xs[i]? = some xs[i]:=List.getElem?_eq_getElem hi
  rw [hset]
  exact step i _ v z.l z.f K hy hv hz fun f'=>hK ⟨_,some v,f'⟩ _ ⟨rfl,by rw [hz,flat_one hy,List.append_assoc]⟩
 ·obtain ⟨rfl,hz⟩:=hI
  rw [hlen,List.take_length] at hz
  rw [hz];exact fin _ _
mutual
noncomputable def ctI:It->List (List T)
 | .it _ ts sub=>ts::ctIs sub
noncomputable def ctIs:List It->List (List T)
 | []=>[]
 | i::is=>ctI i++ctIs is
end
noncomputable def row0 (ts:List T):Nat×List T:=(0,ts)
mutual
noncomputable def allB:Bk->List (Nat×List T)
 | .gap _=>[]
 | .head n ts=>[(n,ts)]
 | .list is=>(ctIs is).map row0
 | .para rs=>rs.map row0
 | .quote bs=>allBs bs
noncomputable def allBs:List Bk->List (Nat×List T)
 | []=>[]
 | b::bs=>allB b++allBs bs
end
theorem ct_flat:∀ is:List It,ctIs is=is.flatMap ctI
 | []=>rfl
 | i::is=>by show ctI i++ctIs is=_;rw [ct_flat is];rfl
theorem all_flat:∀ bs:List Bk,allBs bs=bs.flatMap allB
 | []=>rfl
 | b::bs=>by show allB b++allBs bs=_;rw [all_flat bs];rfl
noncomputable def lkV (ts:List T):List V:=(lks ts).map pV
noncomputable def lkIV (i:It):List V:=(ctI i).flatMap lkV
noncomputable def lkBV (b:Bk):List V:=(allB b).flatMap fun p=>lkV p.2
theorem lkV_le (ts:List T):(lkV ts).length<=(rowTs ts).length:=by unfold lkV;rw [List.length_map];exact lks_le ts
theorem sum_R:∀ rs:List (List T),(rs.flatMap lkV).length<=szR rs
 | []=>Nat.le_refl _
 | ts::rs=>by
  have h1:=lkV_le ts
  have h2:=sum_R rs
  show (lkV ts++rs.flatMap lkV).length<=(rowTs ts).length+1+szR rs
  rw [List.length_append];lia
mutual
theorem sum_I:∀ i:It,(lkIV i).length<=szI i
 | .it n ts sub=>by
  have h1:=lkV_le ts
  have h2:=sum_Is sub
  show (lkV ts++(ctIs sub).flatMap lkV).length<=(rowTs ts).length+1+szIs sub
  rw [List.length_append];lia
theorem sum_Is:∀ is:List It,((ctIs is).flatMap lkV).length<=szIs is
 | []=>Nat.le_refl _
 | i::is=>by
  have h1:=sum_I i
  have h2:=sum_Is is
  show ((ctI i++ctIs is).flatMap lkV).length<=szI i+szIs is
  rw [List.flatMap_append,List.length_append]
  exact Nat.add_le_add h1 h2
end
theorem map_flat {rs:List (List T)}:(rs.map row0).flatMap (fun p=>lkV p.2)=rs.flatMap lkV:=by
 rw [List.flatMap_map];rfl
mutual
theorem sum_B:∀ b:Bk,(lkBV b).length<=szB b
 | .gap _=>Nat.zero_le _
 | .head n ts=>by
  show (lkV ts++[]).length<=(rowTs ts).length+1
  rw [List.append_nil];exact Nat.le_succ_of_le (lkV_le ts)
 | .list is=>by
  show (((ctIs is).map row0).flatMap _).length<=szIs is+1
  rw [map_flat];exact Nat.le_succ_of_le (sum_Is is)
 | .para rs=>by
  show ((rs.map row0).flatMap _).length<=szR rs+1
  rw [map_flat];exact Nat.le_succ_of_le (sum_R rs)
 | .quote bs=>Nat.le_succ_of_le (sum_Bs bs)
theorem sum_Bs:∀ bs:List Bk,((allBs bs).flatMap fun p=>lkV p.2).length<=szBs bs
 | []=>Nat.le_refl _
 | b::bs=>by
  have h1:=sum_B b
  have h2:=sum_Bs bs
  show ((allB b++allBs bs).flatMap fun p=>lkV p.2).length<=szB b+szBs bs
  rw [List.flatMap_append,List.length_append]
  exact Nat.add_le_add h1 h2
end
theorem head_le {α:Type}{f:α->Nat}{g:α->List V}(hg:∀ y,(g y).length<=f y):∀ {xs:List α}{i:Nat}{y:α},xs[i]? = some y->((xs.take i).flatMap g).length+f y<=(xs.map f).sum
 | x::xs,0,y,h=>by
  cases h
  show 0+f x<=f x+(xs.map f).sum
  lia
 | x::xs,i+1,y,h=>by
  have ih:=head_le hg (xs:=xs) (i:=i) h
  have:=hg x
  show (g x++(xs.take i).flatMap g).length+f y<=f x+(xs.map f).sum
  rw [List.length_append];lia
theorem sumI:∀ is:List It,(is.map szI).sum=szIs is
 | []=>rfl
 | i::is=>by show szI i+(is.map szI).sum=_;rw [sumI is];rfl
theorem sumB:∀ bs:List Bk,(bs.map szB).sum=szBs bs
 | []=>rfl
 | b::bs=>by show szB b+(bs.map szB).sum=_;rw [sumB bs];rfl
theorem sumR:∀ rs:List (List T),(rs.map fun ts=>(rowTs ts).length+1).sum=szR rs
 | []=>rfl
 | b::bs=>by show _+(bs.map fun ts=>(rowTs ts).length+1).sum=_;rw [sumR bs];rfl
theorem IOs.get {above:Nat}:∀ {is:List It}{most k:Nat}{i:It},IOs above most is->is[k]? = some i->∃ m,IO1 above m i
 | i::is,most,0,_,h,e=>by cases e;exact ⟨most,h.1⟩
 | i::is,most,k+1,_,h,e=>IOs.get (is:=is) h.2 e
theorem BOs.get {deep:Nat}:∀ {bs:List Bk}{last:List Nat}{k:Nat}{b:Bk},BOs deep last bs->bs[k]? = some b->BO1 deep b
 | b::bs,last,0,_,h,e=>by cases e;exact h.1
 | b::bs,last,k+1,_,h,e=>BOs.get (bs:=bs) h.2.2 e
noncomputable def LIs (m n:Nat):Prop:=∀ (H:Heap) (is:List It) (above a lo hi mk:Nat) (l0 l:List V) (Q:PostV),dIs is<=m->IOs above 9 is->Rep H (.lst (itEs is)) lo hi (.ref a)->hi<=mk->H[mk]? = some l0->l.length+szIs is<=1000000->Q .none (H.set mk (l++is.flatMap lkIV))->callN P n "links_of_items" [.ref a,.ref mk] Q (H.set mk l)
theorem litems_body {m n:Nat}(ih:∀ m',m=m'+1->LIs m' (n+26)):LIs m (n+27):=by
 intro H is above a lo hi mk l0 l Q hd ho hr hh hm hl hQ
 obtain ⟨a',lv,p,q,e,hb,ha,hrl⟩:=hr
 cases e
 refine in_links_of_items (ss_cons (loop_app (e0:=none) (f0:=none) (fun e _=>[some (.ref a),some (.ref mk),e]) lkIV (fun _ _ _=>rfl) (Nat.ne_of_gt (Nat.lt_of_lt_of_le hb.ah hh)) ha (by rw [hrl.len,itEs_len]) hm (by exact fun _ h=>h) (fun k i v l' f K hi hv hl' hK=>?_) fun _ _=>hQ))
 obtain ⟨i',hi',hri⟩:=getI hrl hv
 rw [hi] at hi'
 cases hi'
 obtain ⟨m1,hio⟩:=ho.get hi
 have hle:=head_le (f:=szI) sum_I hi
 rw [sumI] at hle
 have hll:l'.length+szI i<=1000000:=by rw [hl',List.length_append,Nat.add_assoc];exact Nat.le_trans (Nat.add_le_add_left hle _) hl
 have hdi:=Nat.le_trans (dIs_get hi) hd
 obtain ⟨n1,ts,sub⟩:=i
 obtain ⟨a1,b1,rfl,hra,hrb⟩:=un_item hri
 have hq:q<=mk:=Nat.le_trans hb.qh hh
 replace hll:l'.length+((rowTs ts).length+1+szIs sub)<=1000000:=hll
 obtain ⟨m',rfl⟩:=pos_of (x:=dIs sub) hdi
 have hl1:=lkV_le ts
 refine c_expr (vs:=[.ref a1,.ref mk]) (by exact fun _ h=>h) (put_links_ok 12 0 n rfl H ts a1 _ _ mk l0 l' _ hio.2.1.good hra hq hm (Nat.le_trans (Nat.add_le_add_left (Nat.le_trans (Nat.le_succ _) (Nat.le_add_right _ _)) _) hll) ?_)
 refine c_expr (vs:=[.ref b1,.ref mk]) (by exact fun _ h=>h) (ih m' rfl H sub n1 b1 _ _ mk l0 _ _ (Nat.le_of_succ_le_succ hdi) hio.2.2 hrb hq hm (by rw [List.length_append,Nat.add_assoc];exact Nat.le_trans (Nat.add_le_add_left (Nat.add_le_add_right (Nat.le_succ_of_le hl1) _) _) hll) ?_)
 have e2:l'++(lks ts).map pV++sub.flatMap lkIV=l'++lkIV (.it n1 ts sub):=by
  show l'++lkV ts++sub.flatMap lkIV=l'++(lkV ts++(ctIs sub).flatMap lkV)
  rw [List.append_assoc,ct_flat,List.flatMap_assoc];rfl
 rw [e2]
 exact hK none
theorem litems_ok:∀ (m n:Nat),LIs m (n+m+27)
 | 0,n=>litems_body fun m' e=>nomatch e
 | m+1,n=>litems_body (n:=n+m+1) fun m' e=>by cases e;exact litems_ok m n
noncomputable def LBs (d deep n:Nat):Prop:=∀ (H:Heap) (bs:List Bk) (last:List Nat) (a lo hi mk:Nat) (l0 l:List V) (Q:PostV),BOs deep last bs->Rep H (.lst (bkEs bs)) lo hi (.ref a)->hi<=mk->H[mk]? = some l0->l.length+szBs bs<=1000000->Q .none (H.set mk (l++bs.flatMap lkBV))->callN P n "links_of_blocks" [.ref a,.ref mk] Q (H.set mk l)
theorem lblocks_body {n d deep:Nat}(hd:deep+d=9) (ih:∀ d',d=d'+1->LBs d' (deep+1) (n+36)):LBs d deep (n+37):=by
 intro H bs last a lo hi mk l0 l Q ho hr hh hm hl hQ
 obtain ⟨a',lv,p,q,e,hb,ha,hrl⟩:=hr
 cases e
 have hq:q<=mk:=Nat.le_trans hb.qh hh
 refine in_links_of_blocks (ss_cons (loop_app (e0:=none) (f0:=none) (fun e f=>[some (.ref a),some (.ref mk),e,f]) lkBV (fun _ _ _=>rfl) (Nat.ne_of_gt (Nat.lt_of_lt_of_le hb.ah hh)) ha (by rw [hrl.len,bkEs_len]) hm (by exact fun _ h=>h) (fun k i v l' f K hi hv hl' hK=>?_) fun _ _=>hQ))
 obtain ⟨i',hi',hri⟩:=getB hrl hv
 rw [hi] at hi'
 cases hi'
 have hio:=ho.get hi
 have hle:=head_le (f:=szB) sum_B hi
 rw [sumB] at hle
 have hll:l'.length+szB i<=1000000:=by rw [hl',List.length_append,Nat.add_assoc];exact Nat.le_trans (Nat.add_le_add_left hle _) hl
 cases i with
 | gap n1 =>
  have hv:=un_gap hri
  subst hv
  have:=hK f
  rw [show l'++lkBV (.gap n1)=l' from List.append_nil _] at this
  exact s_iteF (fun _ h=>h) (s_iteF (fun _ h=>h) (s_iteF (fun _ h=>h) (s_skip (fun _ h=>h) this)))
 | head n1 ts =>
  obtain ⟨a1,rfl,hra⟩:=un_head hri
  replace hll:l'.length+((rowTs ts).length+1)<=1000000:=hll
  refine s_iteT (fun _ h=>h) (c_expr (vs:=[.ref a1,.ref mk]) (by exact fun _ h=>h) (put_links_ok 12 0 (n+10) rfl H ts a1 _ _ mk l0 l' _ hio.2.good hra hq hm (Nat.le_trans (Nat.add_le_add_left (Nat.le_succ _) _) hll) ?_))
  have:=hK f
  rw [show lkBV (.head n1 ts)=(lks ts).map pV from List.append_nil _] at this
  exact this
 | list is =>
  obtain ⟨a1,rfl,hra⟩:=un_two hri
  replace hll:l'.length+(szIs is+1)<=1000000:=hll
  refine s_iteF (fun _ h=>h) (s_iteT (fun _ h=>h) (c_expr (vs:=[.ref a1,.ref mk]) (by exact fun _ h=>h) (litems_ok 9 n H is 0 a1 _ _ mk l0 l' _ hio.2.2 hio.2.1 hra hq hm (Nat.le_trans (Nat.add_le_add_left (Nat.le_succ _) _) hll) ?_)))
  have:=hK f
  have e2:lkBV (.list is)=is.flatMap lkIV:=by
   show ((ctIs is).map row0).flatMap _=_
   rw [map_flat,ct_flat,List.flatMap_assoc];rfl
  rw [e2] at this
  exact this
 | para rs =>
  obtain ⟨a1,rfl,hra⟩:=un_two hri
  replace hll:l'.length+(szR rs+1)<=1000000:=hll
  obtain ⟨a2,lv2,p2,q2,e2,hb2,ha2,hrl2⟩:=hra
  cases e2
  refine s_iteF (fun _ h=>h) (s_iteF (fun _ h=>h) (s_iteT (fun _ h=>h) (ss_cons (loop_app (fun e _=>[some (.ref a),some (.ref mk),some (.tup [.str [112,97,114,97],.ref a1]),e]) lkV (e0:=f) (f0:=none) (l:=l') (fun _ _ _=>rfl) (Nat.ne_of_gt (Nat.lt_of_lt_of_le hb2.ah hq)) ha2 (by rw [hrl2.len,paE_len]) hm (by exact fun _ h=>h) (fun k2 ts v2 l2 f2 K2 hi2 hv2 hl2 hK2=>?_) fun e f=>?_))))
  ·obtain ⟨ts',b1,ht',rfl,hrb⟩:=getP hrl2 hv2
   rw [hi2] at ht'
   cases ht'
   have hct:=(hio.2 ts (List.mem_of_getElem? hi2)).1
   have hle2:=head_le (f:=fun ts=>(rowTs ts).length+1) (fun ts=>Nat.le_succ_of_le (lkV_le ts)) hi2
   rw [sumR] at hle2
   have hlk:l2.length+(rowTs ts).length<=1000000:=by
    rw [hl2,List.length_append,Nat.add_assoc]
    exact Nat.le_trans (Nat.add_le_add_left (Nat.le_trans (Nat.le_succ _) (Nat.le_trans hle2 (Nat.le_succ _))) _) hll
   exact c_expr (vs:=[.ref b1,.ref mk]) (by exact fun _ h=>h) (put_links_ok 12 0 (n+10) rfl H ts b1 _ _ mk l0 l2 _ hct.good hrb (Nat.le_trans hb2.qh hq) hm hlk (hK2 none))
  ·have:=hK e
   have e3:lkBV (.para rs)=rs.flatMap lkV:=map_flat
   rw [e3] at this
   exact this
 | quote cs =>
  obtain ⟨a1,rfl,hra⟩:=un_two hri
  replace hll:l'.length+(szBs cs+1)<=1000000:=hll
  obtain ⟨d',rfl⟩:=pred_of hd hio.1
  refine s_iteF (fun _ h=>h) (s_iteF (fun _ h=>h) (s_iteF (fun _ h=>h) (s_iteT (fun _ h=>h) (c_expr (vs:=[.ref a1,.ref mk]) (by exact fun _ h=>h) (ih d' rfl H cs [] a1 _ _ mk l0 l' _ hio.2.2 hra hq hm (Nat.le_trans (Nat.add_le_add_left (Nat.le_succ _) _) hll) ?_)))))
  have:=hK f
  have e2:lkBV (.quote cs)=cs.flatMap lkBV:=by
   show (allBs cs).flatMap _=_
   rw [all_flat,List.flatMap_assoc];rfl
  rw [e2] at this
  exact this
theorem lblocks_ok:∀ (d deep n:Nat),deep+d=9->LBs d deep (n+d+37)
 | 0,deep,n,h=>lblocks_body h fun d' e=>nomatch e
 | d+1,deep,n,h=>lblocks_body (n:=n+d+1) h fun d' e=>by cases e;exact lblocks_ok d (deep+1) n ((Nat.add_right_comm deep 1 d).trans h)
noncomputable def isH (p:Nat×List T):Bool:=decide (0<p.1)
noncomputable def hV (p:Nat×List T):V:=.tup [.int (p.1:Nat),.str (sayTs p.2)]
noncomputable def hdV (b:Bk):List V:=((allB b).filter isH).map hV
theorem no_head:∀ rs:List (List T),(rs.map row0).filter isH=[]
 | []=>rfl
 | ts::rs=>no_head rs
mutual
theorem hd_le:∀ b:Bk,(hdV b).length<=szB b
 | .gap _=>Nat.zero_le _
 | .head n ts=>by
  unfold hdV;rw [List.length_map]
  exact Nat.le_trans (List.length_filter_le _ _) (Nat.succ_le_succ (Nat.zero_le _))
 | .list is=>by unfold hdV;rw [show allB (.list is)=(ctIs is).map row0 from rfl,no_head];exact Nat.zero_le _
 | .para rs=>by unfold hdV;rw [show allB (.para rs)=rs.map row0 from rfl,no_head];exact Nat.zero_le _
 | .quote bs=>Nat.le_succ_of_le (hds_le bs)
theorem hds_le:∀ bs:List Bk,(((allBs bs).filter isH).map hV).length<=szBs bs
 | []=>Nat.le_refl _
 | b::bs=>by
  have h1:=hd_le b
  have h2:=hds_le bs
  show (((allB b++allBs bs).filter isH).map hV).length<=szB b+szBs bs
  rw [List.filter_append,List.map_append,List.length_append]
  exact Nat.add_le_add h1 h2
end
theorem hd_flat:∀ bs:List Bk,((allBs bs).filter isH).map hV=bs.flatMap hdV
 | []=>rfl
 | b::bs=>by
  show ((allB b++allBs bs).filter isH).map hV=hdV b++bs.flatMap hdV
  rw [List.filter_append,List.map_append,hd_flat bs];rfl
noncomputable def PHs (d deep n:Nat):Prop:=∀ (H:Heap) (bs:List Bk) (last:List Nat) (a lo hi mk:Nat) (l0 l:List V) (Q:PostV),BOs deep last bs->Rep H (.lst (bkEs bs)) lo hi (.ref a)->hi<=mk->H[mk]? = some l0->l.length+szBs bs<=1000000->Q .none (H.set mk (l++bs.flatMap hdV))->callN P n "put_headings" [.ref a,.ref mk] Q (H.set mk l)
theorem heads_body {n d deep:Nat}(hd:deep+d=9) (ih:∀ d',d=d'+1->PHs d' (deep+1) (n+13)):PHs d deep (n+14):=by
 intro H bs last a lo hi mk l0 l Q ho hr hh hm hl hQ
 have hlim:lim=16777216:=rfl
 obtain ⟨a',lv,p,q,e,hb,ha,hrl⟩:=hr
 cases e
 have hq:q<=mk:=Nat.le_trans hb.qh hh
 refine in_put_headings (ss_cons (loop_app (e0:=none) (f0:=none) (fun e f=>[some (.ref a),some (.ref mk),e]) hdV (fun _ _ _=>rfl) (Nat.ne_of_gt (Nat.lt_of_lt_of_le hb.ah hh)) ha (by rw [hrl.len,bkEs_len]) hm (by exact fun _ h=>h) (fun k i v l' f K hi hv hl' hK=>?_) fun _ _=>hQ))
 obtain ⟨i',hi',hri⟩:=getB hrl hv
 rw [hi] at hi'
 cases hi'
 have hio:=ho.get hi
 have hle:=head_le (f:=szB) hd_le hi
 rw [sumB] at hle
 have hll:l'.length+szB i<=1000000:=by rw [hl',List.length_append,Nat.add_assoc];exact Nat.le_trans (Nat.add_le_add_left hle _) hl
 have nothing:hdV i=[]->K [some (.ref a),some (.ref mk),some v] (H.set mk l'):=fun e=>by
  have:=hK none
  rw [e,List.append_nil] at this
  exact this
 cases i with
 | gap n1 =>
  rw [un_gap hri] at nothing ⊢
  exact s_iteF (fun _ h=>h) (s_skip (fun _ h=>h) (nothing rfl))
 | head n1 ts =>
  obtain ⟨a1,rfl,hra⟩:=un_head hri
  replace hll:l'.length+((rowTs ts).length+1)<=1000000:=hll
  have hsay:=says_le ts
  refine s_iteT (fun _ h=>h) (s_append (v:=hV (n1,ts)) (by exact fun _ h=>h) (v_tup (v_cons (by exact fun _ h=>h) (v_cons (v_call (v_cons (by exact fun _ h=>h) v_nil) fun Q q=>words_at n (Nat.zero_le _) ts a1 _ _ _ Q hio.2.good (hra.to (Eqv.set (Or.inr hq))) (Nat.le_trans hsay (Nat.le_trans (Nat.le_succ _) (Nat.le_trans (Nat.le_add_left _ _) hll))) q) v_nil))) (g_set hm) (Nat.lt_of_lt_of_le (Nat.lt_of_lt_of_le (Nat.lt_add_of_pos_right (Nat.succ_pos _)) hll) lim1) ?_)
  rw [set_set]
  have e2:hdV (.head n1 ts)=[hV (n1,ts)]:=by
   have:isH (n1,ts)=true:=decide_eq_true hio.1.1
   show (([(n1,ts)]:List (Nat×List T)).filter isH).map hV=_
   rw [List.filter_cons_of_pos this];rfl
  have:=hK none
  rw [e2] at this
  exact this
 | list is =>
  obtain ⟨a1,rfl,hra⟩:=un_two hri
  exact s_iteF (fun _ h=>h) (s_skip (fun _ h=>h) (nothing (by unfold hdV;rw [show allB (.list is)=(ctIs is).map row0 from rfl,no_head];rfl)))
 | para rs =>
  obtain ⟨a1,rfl,hra⟩:=un_two hri
  exact s_iteF (fun _ h=>h) (s_skip (fun _ h=>h) (nothing (by unfold hdV;rw [show allB (.para rs)=rs.map row0 from rfl,no_head];rfl)))
 | quote cs =>
  obtain ⟨a1,rfl,hra⟩:=un_two hri
  replace hll:l'.length+(szBs cs+1)<=1000000:=hll
  obtain ⟨d',rfl⟩:=pred_of hd hio.1
  refine s_iteF (fun _ h=>h) (s_iteT (fun _ h=>h) (c_expr (vs:=[.ref a1,.ref mk]) (by exact fun _ h=>h) (ih d' rfl H cs [] a1 _ _ mk l0 l' _ hio.2.2 hra hq hm (Nat.le_trans (Nat.add_le_add_left (Nat.le_succ _) _) hll) ?_)))
  have:=hK none
  have e2:hdV (.quote cs)=cs.flatMap hdV:=hd_flat cs
  rw [e2] at this
  exact this
theorem heads_ok:∀ (d deep n:Nat),deep+d=9->PHs d deep (n+d+14)
 | 0,deep,n,h=>heads_body h fun d' e=>nomatch e
 | d+1,deep,n,h=>heads_body (n:=n+d+1) h fun d' e=>by cases e;exact heads_ok d (deep+1) n ((Nat.add_right_comm deep 1 d).trans h)
section
variable {n a lo hi:Nat}{bs:List Bk}{H:Heap}
theorem normal_ok (hne:bs≠[]) (hb:BOs 0 [] bs) (hf:Fit W 65 (.lst (bkEs bs))) (hr:Rep H (.lst (bkEs bs)) lo hi (.ref a)) (hh:hi<=H.length) (Q:PostV) (h:∀ G,Grow H G->Q (.bool true) G):callN P (n+61) "normal" [.ref a] Q H :=
 in_normal (c_ret (fun _ h=>h) (are_blocks_ok 9 0 n rfl bs a lo hi H _ hne hb hf hr hh h))
theorem need_ok {Q:PostV}(hne:bs≠[]) (hb:BOs 0 [] bs) (hf:Fit W 65 (.lst (bkEs bs))) (hr:Rep H (.lst (bkEs bs)) lo hi (.ref a)) (hh:hi<=H.length) (h:∀ G,Grow H G->Q .none G):callN P (n+62) "need_normal" [.ref a] Q H :=
 in_need_normal (hs_skip (Φ:=Grow H) (h_not (t:=true) (h_call (fun _ h=>h) fun Q k=>normal_ok hne hb hf hr hh Q k)) h)
end
structure AskT (bs:List Bk):Prop where
 bo:BOs 0 [] bs
 ne:bs≠[]
 fit:Fit W 65 (.lst (bkEs bs))
 sz:szBs bs<=900000
structure OL (H:Heap) (l:List V) (c:Nat) (G:Heap):Prop where
 gr:Grow H G
 new:H.length<=c
 get:G[c]? = some l
theorem set_last {G:Heap}{x y:List V}:(G++[x]).set G.length y=G++[y]:=by rw [List.set_append_right _ _ (Nat.le_refl _),Nat.sub_self];rfl
theorem outline_ok {n a lo hi:Nat}{bs:List Bk}{H:Heap}{Q:PostV}(ht:AskT bs) (hr:Rep H (.lst (bkEs bs)) lo hi (.ref a)) (hh:hi<=H.length) (h:∀ c G,OL H (bs.flatMap hdV) c G->Q (.ref c) G):callN P (n+63) "outline" [.ref a] Q H:=by
 have hW:W=1000000:=rfl
 refine in_outline (c_expr (by exact fun _ h=>h) (need_ok ht.ne ht.bo ht.fit hr hh fun G g=>s_assignG (H1:=G++[[]]) (by exact fun _ h=>h) (c_expr (vs:=[.ref a,.ref G.length]) (by exact fun _ h=>h) ?_)))
 have:=heads_ok 9 0 (n+39) rfl (G++[[]]) bs [] a lo hi G.length [] [] (fun v H₁=>wpSs (callN P (n+62)) [.ret (.var 1)] [some (.ref a),some (.ref G.length)] (callQ Q) H₁) ht.bo (hr.grow (g.trans .one) hh) (Nat.le_trans hh g.len) g_last (by have:=ht.sz;show 0+_<=_;lia) (by
  rw [set_last]
  exact s_ret (by exact fun _ h=>h) (h _ _ ⟨g.trans .one,g.len,g_last⟩))
 rw [set_last] at this
 exact this
theorem links_ok {n a lo hi:Nat}{bs:List Bk}{H:Heap}{Q:PostV}(ht:AskT bs) (hr:Rep H (.lst (bkEs bs)) lo hi (.ref a)) (hh:hi<=H.length) (h:∀ c G,OL H (bs.flatMap lkBV) c G->Q (.ref c) G):callN P (n+63) "links" [.ref a] Q H:=by
 have hW:W=1000000:=rfl
 refine in_links (c_expr (by exact fun _ h=>h) (need_ok ht.ne ht.bo ht.fit hr hh fun G g=>s_assignG (H1:=G++[[]]) (by exact fun _ h=>h) (c_expr (vs:=[.ref a,.ref G.length]) (by exact fun _ h=>h) ?_)))
 have:=lblocks_ok 9 0 (n+16) rfl (G++[[]]) bs [] a lo hi G.length [] [] (fun v H₁=>wpSs (callN P (n+62)) [.ret (.var 1)] [some (.ref a),some (.ref G.length)] (callQ Q) H₁) ht.bo (hr.grow (g.trans .one) hh) (Nat.le_trans hh g.len) g_last (by have:=ht.sz;show 0+_<=_;lia) (by
  rw [set_last]
  exact s_ret (by exact fun _ h=>h) (h _ _ ⟨g.trans .one,g.len,g_last⟩))
 rw [set_last] at this
 exact this
theorem OL.add {H G G2:Heap}{l1 l2:List V}{c1:Nat}(h:OL H l1 c1 G) (g:Grow G G2):OL H (l1++l2) G2.length (G2++[l1++l2]):=⟨(h.gr.trans g).trans .one,Nat.le_trans h.gr.len g.len,g_last⟩
theorem OL.set {H G:Heap}{l:List V}{c:Nat}{l':List V}(h:OL H l c G):OL H l' c (G.set c l') :=
 ⟨⟨by rw [List.length_set];exact h.gr.len,h.gr.old.trans (Eqv.set (Or.inr h.new))⟩,h.new,g_set h.get⟩
theorem OL.up {H G G2:Heap}{l:List V}{c:Nat}(h:OL H l c G) (g:Grow G G2):OL H l c G2:=⟨h.gr.trans g,h.new,g.get h.get⟩
noncomputable def LLs (d n:Nat):Prop:=∀ (ts:List T) (a lo hi:Nat) (H:Heap) (Q:PostV),GTs d ts->Rep H (.lst (encs ts)) lo hi (.ref a)->hi<=H.length->(rowTs ts).length<=1000000->(∀ c G,OL H (lkV ts) c G->Q (.ref c) G)->callN P n "_law_links" [.ref a] Q H
structure KZ where
 c:Nat
 e:Option V
theorem llinks_body {n d:Nat}(ih:d<12->LLs (d+1) (n+13)):LLs d (n+14):=by
 intro ts a lo hi H Q hg hr hh hl hQ
 obtain ⟨a',lv,p,q,e,hb,ha,hrl⟩:=hr
 cases e
 refine in_law_links (s_assignG (H1:=H++[[]]) (by exact fun _ h=>h) (ss_cons (l_for (σ:=KZ) (fun z=>[some (.ref a),some (.ref z.c),z.e]) (fun i z G=>OL H (((ts.take i).flatMap lkT).map pV) z.c G) (l:=lv) (fun i z G hI=>hI.gr.get ha) (fun i z G v hv hI K hK=>?_) (fun z G hI=>?_) ⟨H.length,none⟩ (by exact fun _ h=>h) ⟨.one,Nat.le_refl _,g_last⟩)))
 ·obtain ⟨t,p',q',ht,hp',hq',hrt⟩:=getT hrl hv
  have hgt:=hg.get ht
  have hle:=part_le ht
  have hz:(((ts.take i).flatMap lkT).map pV).length<=(rowTs (ts.take i)).length:=by
   have h1:=lks_le (ts.take i)
   rw [lk_flat] at h1
   rw [List.length_map];exact h1
  have hqH:q'<=H.length:=Nat.le_trans hq' (Nat.le_trans hb.qh hh)
  have hqG:q'<=G.length:=Nat.le_trans hqH hI.gr.len
  replace hrt:=hrt.grow hI.gr hqH
  have et:((ts.take (i+1)).flatMap lkT).map pV=((ts.take i).flatMap lkT).map pV++(lkT t).map pV:=by rw [take_flat ht,List.map_append]
  rw [et] at hK
  generalize ((ts.take i).flatMap lkT).map pV=lf at hI hz hK
  have nothing:lkT t=[]->K [some (.ref a),some (.ref z.c),some v] G:=fun e=>hK ⟨z.c,some v⟩ _ (by rw [e,List.map_nil,List.append_nil];exact hI)
  cases t with
  | txt w =>
   rw [show v=.str w from hrt] at nothing ⊢
   exact s_skip (fun _ h=>h) (s_skip (fun _ h=>h) (nothing rfl))
  | kept w =>
   rw [un_kept hrt] at nothing ⊢
   exact s_skip (fun _ h=>h) (s_skip (fun _ h=>h) (nothing rfl))
  | code w b =>
   rw [un_code hrt] at nothing ⊢
   exact s_skip (fun _ h=>h) (s_skip (fun _ h=>h) (nothing rfl))
  | span c us b =>
   obtain ⟨a2,rfl,hra⟩:=un_span hrt
   have hru:(rowTs us).length<=1000000:=Nat.le_trans (Nat.le_of_succ_le row_span) (Nat.le_trans (Nat.le_add_left _ _) (Nat.le_trans hle hl))
   have hbd:lf.length+(lkV us).length<=lim:=Nat.le_trans (Nat.add_le_add hz (Nat.le_trans (lkV_le us) (Nat.le_of_succ_le row_span))) (Nat.le_trans hle (Nat.le_trans hl lim1))
   have hk:=lkV_le us
   refine s_iteT (fun _ h=>h) (ss_assign (e_bin (e_var rfl (e_call (es_ev (v:=.ref a2) (by exact fun _ h=>h) (es_nil (ih hgt.1 us a2 _ _ G _ hgt.2.2 hra hqG hru fun c2 G2 o2=>r_addR (o2.gr.get hI.get) o2.get hbd ?_)))))))
   exact s_skip (fun _ h=>h) (hK ⟨G2.length,_⟩ _ (hI.add o2.gr))
  | link us g b =>
   obtain ⟨a2,rfl,hra⟩:=un_link hrt
   have hru:(rowTs us).length+1<=1000000:=Nat.le_trans row_link (Nat.le_trans (Nat.le_add_left _ _) (Nat.le_trans hle hl))
   have hbd:lf.length+((lkV us).length+1)<=1000000:=Nat.le_trans (Nat.add_le_add hz (Nat.le_trans (Nat.succ_le_succ (lkV_le us)) row_link)) (Nat.le_trans hle hl)
   have hk:=lkV_le us
   have rest:∀ {l1:List V}{G1:Heap}{R:PostS},(∀ ρ G,K ρ G->R .next ρ G)->OL H l1 z.c G1->Rep G1 (.lst (encs us)) p' q' (.ref a2)->q'<=G1.length->l1.length+(lkV us).length<=1000000->l1++lkV us=lf++(lkT (.link us g b)).map pV->wpSs (callN P (n+13)) [.assign 1 (.bin .add (.var 1) (.call "_law_links" [.idx (.var 2) (.int 1)]))] [some (.ref a),some (.ref z.c),some (linkV a2 g b)] R G1:=fun {l1 G1 R} hR hO hr1 hq1 hll e=>by
    refine ss_assign (e_bin (e_var rfl (e_call (es_ev (v:=.ref a2) (by exact fun _ h=>h) (es_nil (ih hgt.1 us a2 _ _ G1 _ hgt.2.2 hr1 hq1 (Nat.le_of_succ_le hru) fun c2 G2 o2=>r_addR (o2.gr.get hO.get) o2.get (Nat.le_trans hll lim1) ?_))))))
    have:=hO.add (l2:=lkV us) o2.gr
    rw [e] at this
    exact hR _ _ (hK ⟨G2.length,_⟩ _ (by rw [<- e] at this ⊢;exact this))
   cases g with
   | none=>exact s_skip (fun _ h=>h) (s_iteT (fun _ h=>h) (s_skip (fun _ h=>h) (rest (fun _ _ h=>h) hI hra hqG (Nat.le_of_succ_le hbd) rfl)))
   | some g =>
    have hsay:=says_le us
    refine s_skip (fun _ h=>h) (s_iteT (fun _ h=>h) (s_iteT (fun _ h=>h) (s_append (v:=pV (sayTs us,g)) (by exact fun _ h=>h) (v_tup (v_cons (v_call (v_cons (by exact fun _ h=>h) v_nil) fun Q q=>said_at n hgt.1 us a2 _ _ _ Q hgt.2.2 hra (Nat.le_trans hsay (Nat.le_of_succ_le hru)) q) (v_cons (by exact fun _ h=>h) v_nil))) hI.get (Nat.lt_of_lt_of_le (Nat.le_trans (Nat.add_le_add_left (Nat.succ_le_succ (Nat.zero_le _)) _) hbd) lim1) ?_)))
    refine rest (l1:=lf++[pV (sayTs us,g)]) (fun _ _ h=>h) hI.set ((hra.to (Eqv.set (Or.inr (Nat.le_trans hqH hI.new))))) (by rw [List.length_set];exact hqG) (by rw [List.length_append,Nat.add_assoc,Nat.add_comm [pV (sayTs us,g)].length];exact hbd) ?_
    rw [List.append_assoc];rfl
 ·rw [hrl.len,encs_len,List.take_length,<- lk_flat] at hI
  exact s_ret (by exact fun _ h=>h) (hQ _ _ hI)
theorem llinks_ok:∀ (m d n:Nat),d+m=12->LLs d (n+m+14)
 | 0,d,n,h=>llinks_body fun q=>absurd h (Nat.ne_of_lt q)
 | m+1,d,n,h=>llinks_body (n:=n+m+1) fun _=>llinks_ok m (d+1) n ((Nat.add_right_comm d 1 m).trans h)
noncomputable def RL (H:Heap) (lo hi:Nat):List (List T)->List V->Prop
 | [],l=>l=[]
 | ts::rs,l=>∃ a r,l=.ref a::r/\Rep H (.lst (encs ts)) lo hi (.ref a)/\RL H lo hi rs r
noncomputable def AL (H:Heap) (lo hi:Nat):List (Nat×List T)->List V->Prop
 | [],l=>l=[]
 | p::ps,l=>∃ a r,l=.tup [.int (p.1:Nat),.ref a]::r/\Rep H (.lst (encs p.2)) lo hi (.ref a)/\AL H lo hi ps r
section
variable {H G:Heap}{lo hi:Nat}
theorem RL.to (k:Eqv H G lo hi):∀ {rs:List (List T)}{l:List V},RL H lo hi rs l->RL G lo hi rs l
 | [],_,h=>h
 | ts::rs,_,h=>by
  obtain ⟨a,r,rfl,h1,h2⟩:=h
  exact ⟨a,r,rfl,h1.to k,RL.to k h2⟩
theorem RL.app {qs:List (List T)}{m:List V}(k:RL H lo hi qs m):∀ {rs:List (List T)}{l:List V},RL H lo hi rs l->RL H lo hi (rs++qs) (l++m)
 | [],_,h=>by rw [show _=[] from h];exact k
 | ts::rs,_,h=>by
  obtain ⟨a,r,rfl,h1,h2⟩:=h
  exact ⟨a,_,rfl,h1,RL.app k h2⟩
theorem RL.len:∀ {rs:List (List T)}{l:List V},RL H lo hi rs l->l.length=rs.length
 | [],_,h=>by rw [show _=[] from h];rfl
 | ts::rs,_,h=>by
  obtain ⟨a,r,rfl,h1,h2⟩:=h
  exact congrArg (· + 1) (RL.len h2)
theorem AL.to (k:Eqv H G lo hi):∀ {rs:List (Nat×List T)}{l:List V},AL H lo hi rs l->AL G lo hi rs l
 | [],_,h=>h
 | ts::rs,_,h=>by
  obtain ⟨a,r,rfl,h1,h2⟩:=h
  exact ⟨a,r,rfl,h1.to k,AL.to k h2⟩
theorem AL.app {qs:List (Nat×List T)}{m:List V}(k:AL H lo hi qs m):∀ {rs:List (Nat×List T)}{l:List V},AL H lo hi rs l->AL H lo hi (rs++qs) (l++m)
 | [],_,h=>by rw [show _=[] from h];exact k
 | ts::rs,_,h=>by
  obtain ⟨a,r,rfl,h1,h2⟩:=h
  exact ⟨a,_,rfl,h1,AL.app k h2⟩
theorem AL.len:∀ {rs:List (Nat×List T)}{l:List V},AL H lo hi rs l->l.length=rs.length
 | [],_,h=>by rw [show _=[] from h];rfl
 | ts::rs,_,h=>by
  obtain ⟨a,r,rfl,h1,h2⟩:=h
  exact congrArg (· + 1) (AL.len h2)
theorem AL.get:∀ {rs:List (Nat×List T)}{l:List V}{i:Nat}{v:V},AL H lo hi rs l->l[i]? = some v->∃ p a,rs[i]? = some p/\v=.tup [.int (p.1:Nat),.ref a]/\Rep H (.lst (encs p.2)) lo hi (.ref a)
 | [],_,i,v,h,hv=>by rw [show _=[] from h] at hv;cases hv
 | p::rs,_,i,v,h,hv=>by
  obtain ⟨a,r,rfl,h1,h2⟩:=h
  cases i with
  | zero=>cases hv;exact ⟨p,a,rfl,rfl,h1⟩
  | succ i=>exact AL.get (i:=i) h2 hv
theorem RL.zero:∀ {rs:List (List T)}{l:List V},RL H lo hi rs l->AL H lo hi (rs.map row0) (l.map fun v=>.tup [.int 0,v])
 | [],_,h=>by rw [show _=[] from h];rfl
 | ts::rs,_,h=>by
  obtain ⟨a,r,rfl,h1,h2⟩:=h
  exact ⟨a,_,rfl,h1,RL.zero h2⟩
theorem Reps.rl:∀ {rs:List (List T)}{p q:Nat}{l:List V},Reps H (paE rs) p q l->lo<=p->q<=hi->RL H lo hi rs l
 | [],_,_,_,h,_,_=>h.2
 | ts::rs,p,q,_,h,h1,h2=>by
  obtain ⟨a,r,m,rfl,hr,hm,h3⟩:=rep_ls h
  exact ⟨a,r,rfl,hr.wide h1 (Nat.le_trans h3.le h2),Reps.rl h3 (Nat.le_trans h1 hm) h2⟩
end
mutual
theorem ct_len:∀ i:It,(ctI i).length<=szI i
 | .it n ts sub=>by
  have:=cts_len sub
  show (ctIs sub).length+1<=(rowTs ts).length+1+szIs sub
  lia
theorem cts_len:∀ is:List It,(ctIs is).length<=szIs is
 | []=>Nat.le_refl _
 | i::is=>by
  show (ctI i++ctIs is).length<=szI i+szIs is
  rw [List.length_append];exact Nat.add_le_add (ct_len i) (cts_len is)
end
mutual
theorem all_len:∀ b:Bk,(allB b).length<=szB b
 | .gap _=>Nat.zero_le _
 | .head n ts=>Nat.succ_le_succ (Nat.zero_le _)
 | .list is=>by show ((ctIs is).map row0).length<=szIs is+1;rw [List.length_map];exact Nat.le_succ_of_le (cts_len is)
 | .para rs=>by show (rs.map row0).length<=szR rs+1;rw [List.length_map];exact Nat.le_succ_of_le (len_szR rs)
 | .quote bs=>Nat.le_succ_of_le (alls_len bs)
theorem alls_len:∀ bs:List Bk,(allBs bs).length<=szBs bs
 | []=>Nat.le_refl _
 | b::bs=>by
  show (allB b++allBs bs).length<=szB b+szBs bs
  rw [List.length_append];exact Nat.add_le_add (all_len b) (alls_len bs)
end
theorem head_len {α β:Type}{f:α->Nat}{g:α->List β}(hg:∀ y,(g y).length<=f y):∀ {xs:List α}{i:Nat}{y:α},xs[i]? = some y->((xs.take i).flatMap g).length+f y<=(xs.map f).sum
 | x::xs,0,y,h=>by
  cases h
  show 0+f x<=f x+(xs.map f).sum
  lia
 | x::xs,i+1,y,h=>by
  have ih:=head_len hg (xs:=xs) (i:=i) h
  have:=hg x
  show (g x++(xs.take i).flatMap g).length+f y<=f x+(xs.map f).sum
  rw [List.length_append];lia
noncomputable def CTs (m n:Nat):Prop:=∀ (is:List It) (a lo hi:Nat) (H:Heap) (Q:PostV),dIs is<=m->Rep H (.lst (itEs is)) lo hi (.ref a)->hi<=H.length->szIs is<=1000000->(∀ c l G,OL H l c G->RL G lo hi (ctIs is) l->Q (.ref c) G)->callN P n "_law_contents" [.ref a] Q H
theorem conts_body {m n:Nat}(ih:∀ m',m=m'+1->CTs m' n):CTs m (n+1):=by
 intro is a lo hi H Q hd hr hh hs hQ
 have hlim:lim=16777216:=rfl
 obtain ⟨a',lv,p,q,e,hb,ha,hrl⟩:=hr
 cases e
 have hq:q<=H.length:=Nat.le_trans hb.qh hh
 refine in_law_contents (s_assignG (H1:=H++[[]]) (by exact fun _ h=>h) (ss_cons (l_for (σ:=KZ) (fun z=>[some (.ref a),some (.ref z.c),z.e]) (fun i z G=>∃ l,OL H l z.c G/\RL G lo hi ((is.take i).flatMap ctI) l) (l:=lv) (fun i z G hI=>by obtain ⟨l,hI,_⟩:=hI;exact hI.gr.get ha) (fun k z G v hv hI K hK=>?_) (fun z G hI=>?_) ⟨H.length,none⟩ (by exact fun _ h=>h) ⟨[],⟨.one,Nat.le_refl _,g_last⟩,rfl⟩)))
 ·obtain ⟨l,hO,hR⟩:=hI
  obtain ⟨i,hix,hri⟩:=getI hrl hv
  have hle:=head_len (f:=szI) ct_len hix
  rw [sumI] at hle
  have hll:=hR.len
  have hdi:=Nat.le_trans (dIs_get hix) hd
  obtain ⟨n1,ts,sub⟩:=i
  obtain ⟨a1,b1,rfl,hra,hrb⟩:=un_item hri
  have hT:l.length+(1+szIs sub)<=1000000:=by
   rw [hll]
   exact Nat.le_trans (Nat.add_le_add_left (Nat.add_le_add_right (Nat.le_add_left _ _) _) _) (Nat.le_trans hle hs)
  have hsub:szIs sub<=1000000:=Nat.le_trans (Nat.le_add_left _ _) (Nat.le_trans (Nat.le_add_left _ _) hT)
  obtain ⟨m',rfl⟩:=pos_of (x:=dIs sub) hdi
  refine ss_assign (e_bin (e_bin (e_var rfl (e_list (es_ev (v:=.ref a1) (by exact fun _ h=>h) (es_nil (r_addR (g_skip hO.get) g_last (Nat.le_trans (Nat.le_trans (Nat.add_le_add_left (Nat.le_add_right 1 _) _) hT) lim1) ?_)))))))
  have g1:Grow G (G++[[V.ref a1]]++[l++[V.ref a1]]):=grow2
  have hO1:OL H (l++[V.ref a1]) (G++[[V.ref a1]]:Heap).length (G++[[V.ref a1]]++[l++[V.ref a1]]):=hO.add .one
  have eqv1:Eqv H (G++[[V.ref a1]]++[l++[V.ref a1]]) lo hi:=hO1.gr.old.sub (Nat.zero_le _) hh
  refine e_call (es_ev (v:=.ref b1) (by exact fun _ h=>h) (es_nil (ih m' rfl sub b1 lo hi _ _ (Nat.le_of_succ_le_succ hdi) ((hrb.wide hb.lp hb.qh).to eqv1) (Nat.le_trans hh hO1.gr.len) hsub fun c2 l2 G2 o2 r2=>?_)))
  have hl2:=r2.len
  have hcs:=cts_len sub
  refine r_addR (o2.gr.get hO1.get) o2.get (by rw [List.length_append,hl2,Nat.add_assoc];exact Nat.le_trans (Nat.add_le_add_left (Nat.add_le_add_left hcs 1) _) (Nat.le_trans hT lim1)) (hK ⟨G2.length,_⟩ _ ⟨_,hO1.add o2.gr,?_⟩)
  have eqv2:Eqv G (G2++[l++[V.ref a1]++l2]) lo hi:=((g1.trans o2.gr).trans .one).old.sub (Nat.zero_le _) (Nat.le_trans hh hO.gr.len)
  have eqvH:Eqv H (G2++[l++[V.ref a1]++l2]) lo hi:=((hO1.gr.trans o2.gr).trans .one).old.sub (Nat.zero_le _) hh
  have eqv3:Eqv G2 (G2++[l++[V.ref a1]++l2]) lo hi:=Eqv.one (Nat.le_trans hh (hO1.gr.trans o2.gr).len)
  rw [flat_one hix]
  have h:=RL.app (RL.app (rs:=[ts]) (r2.to eqv3) ⟨a1,[],rfl,(hra.wide hb.lp hb.qh).to eqvH,rfl⟩) (hR.to eqv2)
  rw [<- List.append_assoc l [V.ref a1] l2] at h
  exact h
 ·obtain ⟨l,hO,hR⟩:=hI
  rw [hrl.len,itEs_len,List.take_length,<- ct_flat] at hR
  exact s_ret (by exact fun _ h=>h) (hQ _ _ _ hO hR)
theorem conts_ok:∀ (m n:Nat),CTs m (n+m+1)
 | 0,n=>conts_body fun m' e=>nomatch e
 | m+1,n=>conts_body (n:=n+m+1) fun m' e=>by cases e;exact conts_ok m n
theorem s_extendE {C:Calls}{ρ:Env}{H:Heap}{R:PostS}{ss:List S}{o e:E}{a:Nat}(ho:Ev C ρ H o (.ref a)) (k:wpE C e ρ (fun v H₁=>hea (extendV (.ref a) v H₁) (fun _ H₂=>wpSs C ss ρ R H₂)) H):wpSs C (.expr (.extend o e)::ss) ρ R H:=ho _ k
theorem h_extend {H:Heap}{Q:PostV}{a b:Nat}{l r:List V}(ha:H[a]? = some l) (hb:H[b]? = some r) (hn:a≠b) (hl:l.length+r.length<=lim) (h:Q .none (H.set a (l++r))):hea (extendV (.ref a) (.ref b) H) Q:=by
 show hea ((H[a]?).bind fun l=>(H[b]?).bind fun r=>if a≠b/\l.length+r.length<=lim then some (H.set a (l++r)) else none) _
 rw [ha,hb]
 show hea (if a≠b/\l.length+r.length<=lim then some (H.set a (l++r)) else none) _
 rw [if_pos ⟨hn,hl⟩];exact h
theorem zeros_at {C:Calls}{ρ:Env}{H:Heap}{e:E}{Q:PostV} (Φ:Nat->List V->Heap->Prop) (hρ:3<ρ.length) (he:∀ K:PostV,(∀ c l G,Φ c l G->K (.ref c) G)->wpE C e ρ K H) (hΦ:∀ c l G,Φ c l G->G[c]? = some l/\l.length<=lim) (fin:∀ c l G,Φ c l G->Q (.ref G.length) (G++[l.map fun v=>.tup [.int 0,v]])):wpE C (.comp (.tup [.int 0,.var 3]) 3 e []) ρ Q H:=by
 refine he (fun v H₁=>match iterV v with | some it=>∃ n,compN (wpTest C []) (wpE C (.tup [.int 0,.var 3])) 3 ρ it n 0 [] (fun vs H₂=>Q (.ref H₂.length) (H₂++[vs])) H₁ | none=>False) fun a l H hφ=>?_
 obtain ⟨ha,hn⟩:=hΦ a l H hφ
 refine ⟨l.length+1,compL_inv hn (fun i acc G=>G=H/\acc=(l.take i).map fun v=>.tup [.int 0,v]) (fun i acc G h=>h.1▸ha) (fun i acc G v hv _ hI K hK=>?_) (fun acc G _ hI=>?_) (l.length+1) 0 [] H (by lia) (Nat.zero_le _) rfl ⟨rfl,rfl⟩⟩
 ·obtain ⟨rfl,rfl⟩:=hI
  have h3:(ρ.set 3 (some v))[3]? = some (some v):=List.getElem?_set_self hρ
  exact v_tup (v_cons v_int (v_cons (v_var h3) v_nil)) K (hK _ _ ⟨rfl,by rw [List.take_add_one,hv,List.map_append];rfl⟩)
 ·obtain ⟨rfl,rfl⟩:=hI
  rw [List.take_length];exact fin _ _ _ hφ
noncomputable def LAs (d deep n:Nat):Prop:=∀ (bs:List Bk) (last:List Nat) (a lo hi:Nat) (H:Heap) (Q:PostV),BOs deep last bs->Rep H (.lst (bkEs bs)) lo hi (.ref a)->hi<=H.length->szBs bs<=1000000->(∀ c l G,OL H l c G->AL G lo hi (allBs bs) l->Q (.ref c) G)->callN P n "_law_all" [.ref a] Q H
theorem lall_body {n d deep:Nat}(hd:deep+d=9) (ih:∀ d',d=d'+1->LAs d' (deep+1) (n+10)):LAs d deep (n+11):=by
 intro bs last a lo hi H Q ho hr hh hs hQ
 have hlim:lim=16777216:=rfl
 obtain ⟨a',lv,p,q,e,hb,ha,hrl⟩:=hr
 cases e
 refine in_law_all (s_assignG (H1:=H++[[]]) (by exact fun _ h=>h) (ss_cons (l_for (σ:=AZ) (fun z=>[some (.ref a),some (.ref H.length),z.e,z.f]) (fun i z G=>∃ l,OL H l H.length G/\AL G lo hi ((bs.take i).flatMap allB) l) (l:=lv) (fun i z G hI=>by obtain ⟨l,hI,_⟩:=hI;exact hI.gr.get ha) (fun k z G v hv hI K hK=>?_) (fun z G hI=>?_) ⟨[],none,none⟩ (by exact fun _ h=>h) ⟨[],⟨.one,Nat.le_refl _,g_last⟩,rfl⟩)))
 ·obtain ⟨l,hO,hA⟩:=hI
  obtain ⟨i,hix,hri⟩:=getB hrl hv
  have hio:=ho.get hix
  have hle:=head_len (f:=szB) all_len hix
  rw [sumB] at hle
  have hll:=hA.len
  have hal:=all_len i
  have hT:l.length+szB i<=lim:=Nat.le_trans (by rw [hll];exact hle) (Nat.le_trans hs lim1)
  have hszi:szB i<=1000000:=Nat.le_trans (Nat.le_trans (Nat.le_add_left _ _) hle) hs
  replace hri:=(hri.wide hb.lp hb.qh).to (hO.gr.old.sub (Nat.zero_le _) hh)
  have hhG:hi<=G.length:=Nat.le_trans hh hO.gr.len
  rw [flat_one hix] at hK
  have turn:∀ {G1:Heap}{r:List V}{z':AZ},Grow G G1->AL G1 lo hi (allB i) r->(∀ ρ,ρ=[some (.ref a),some (.ref H.length),z'.e,z'.f]->K ρ (G1.set H.length (l++r))):=fun {G1 r z'} g1 hr1 ρ hρ=>by
   subst hρ
   have eqv:Eqv G1 (G1.set H.length (l++r)) lo hi:=Eqv.set (Or.inr hh)
   exact hK z' _ ⟨l++r,(hO.up g1).set,AL.app (hr1.to eqv) ((hA.to (g1.old.sub (Nat.zero_le _) hhG)).to eqv)⟩
  cases i with
  | gap n1 =>
   rw [un_gap hri]
   have:=hK ⟨[],some (.tup [.str [103,97,112],.int (n1:Nat)]),z.f⟩ G ⟨l,hO,by show AL G lo hi (_++[]) l;rw [List.append_nil];exact hA⟩
   exact s_skip (fun _ h=>h) (s_skip (fun _ h=>h) (s_skip (fun _ h=>h) (s_skip (fun _ h=>h) this)))
  | head n1 ts =>
   obtain ⟨a1,rfl,hra⟩:=un_head hri
   refine s_iteT (fun _ h=>h) (s_append (v:=.tup [.int (n1:Nat),.ref a1]) (by exact fun _ h=>h) (by exact fun _ h=>h) hO.get (Nat.lt_of_lt_of_le (Nat.lt_add_of_pos_right (Nat.succ_pos _)) hT) (s_skip (fun _ h=>h) (s_skip (fun _ h=>h) (s_skip (fun _ h=>h) ?_))))
   exact turn (z':=⟨[],_,_⟩) .refl ⟨a1,[],rfl,hra,rfl⟩ _ rfl
  | list is =>
   obtain ⟨a1,rfl,hra⟩:=un_two hri
   refine s_skip (fun _ h=>h) (s_skip (fun _ h=>h) (s_iteT (fun _ h=>h) (s_extendE (a:=H.length) (by exact fun _ h=>h) ?_)))
   have hcs:=cts_len is
   refine zeros_at (fun c l2 G2=>OL G l2 c G2/\RL G2 lo hi (ctIs is) l2) (by show 3<4;decide) (fun K k=>e_call (es_ev (v:=.ref a1) (by exact fun _ h=>h) (es_nil (conts_ok 9 n is a1 lo hi G _ hio.2.2 hra hhG (Nat.le_of_succ_le hszi) fun c2 l2 G2 o2 r2=>k c2 l2 G2 ⟨o2,r2⟩)))) (fun c2 l2 G2 h=>⟨h.1.get,by rw [h.2.len];exact Nat.le_trans hcs (Nat.le_trans (Nat.le_of_succ_le hszi) lim1)⟩) fun c2 l2 G2 h=>?_
   obtain ⟨o2,r2⟩:=h
   have hl2:=r2.len
   have hg2:Grow G (G2++[l2.map fun v=>V.tup [.int 0,v]]):=o2.gr.trans .one
   have hne:H.length≠G2.length:=Nat.ne_of_lt (List.getElem?_eq_some_iff.mp (o2.gr.get hO.get)).1
   refine h_extend (hg2.get hO.get) g_last hne (by rw [List.length_map,hl2];exact Nat.le_trans (Nat.add_le_add_left (Nat.le_succ_of_le hcs) _) hT) (s_skip (fun _ h=>h) ?_)
   exact turn (z':=⟨[],_,_⟩) hg2 ((r2.to (Eqv.one (Nat.le_trans hhG o2.gr.len))).zero) _ rfl
  | para rs =>
   obtain ⟨a1,rfl,hra⟩:=un_two hri
   obtain ⟨a2,l2,p2,q2,e2,hb2,ha2,hrl2⟩:=hra
   cases e2
   have hl2:=hrl2.len
   rw [paE_len] at hl2
   have hrs:=len_szR rs
   have r2:RL G lo hi rs l2:=Reps.rl hrl2 hb2.lp hb2.qh
   refine s_skip (fun _ h=>h) (s_iteT (fun _ h=>h) (s_extendE (a:=H.length) (by exact fun _ h=>h) ?_))
   refine zeros_at (fun c l G'=>a1=c/\l2=l/\G=G') (by show 3<4;decide) (fun K k=>v_idx (by exact fun _ h=>h) v_int (c:=.ref a1) rfl _ (k a1 l2 G ⟨rfl,rfl,rfl⟩)) (fun c l G' h=>by obtain ⟨rfl,rfl,rfl⟩:=h;exact ⟨ha2,by rw [hl2];exact Nat.le_trans hrs (Nat.le_trans (Nat.le_of_succ_le hszi) lim1)⟩) fun c l' G' h=>?_
   obtain ⟨rfl,rfl,rfl⟩:=h
   have hne:H.length≠G.length:=Nat.ne_of_lt (List.getElem?_eq_some_iff.mp hO.get).1
   refine h_extend (Grow.one.get hO.get) g_last hne (by rw [List.length_map,hl2];exact Nat.le_trans (Nat.add_le_add_left (Nat.le_succ_of_le hrs) _) hT) (s_skip (fun _ h=>h) (s_skip (fun _ h=>h) ?_))
   exact turn (z':=⟨[],_,_⟩) .one ((r2.to (Eqv.one hhG)).zero) _ rfl
  | quote cs =>
   obtain ⟨a1,rfl,hra⟩:=un_two hri
   obtain ⟨d',rfl⟩:=pred_of hd hio.1
   refine s_skip (fun _ h=>h) (s_skip (fun _ h=>h) (s_skip (fun _ h=>h) (s_iteT (fun _ h=>h) (s_extendE (a:=H.length) (by exact fun _ h=>h) ?_))))
   refine e_call (es_ev (v:=.ref a1) (by exact fun _ h=>h) (es_nil (ih d' rfl cs [] a1 lo hi G _ hio.2.2 hra hhG (Nat.le_of_succ_le hszi) fun c2 l2 G2 o2 r2=>?_)))
   have hl2:=r2.len
   have hcs:=alls_len cs
   have hne:H.length≠c2:=Nat.ne_of_lt (Nat.lt_of_lt_of_le (List.getElem?_eq_some_iff.mp hO.get).1 o2.new)
   refine h_extend (o2.gr.get hO.get) o2.get hne (by rw [hl2];exact Nat.le_trans (Nat.add_le_add_left (Nat.le_succ_of_le hcs) _) hT) ?_
   exact turn (z':=⟨[],_,_⟩) o2.gr r2 _ rfl
 ·obtain ⟨l,hO,hA⟩:=hI
  rw [hrl.len,bkEs_len,List.take_length,<- all_flat] at hA
  exact s_ret (by exact fun _ h=>h) (hQ _ _ _ hO hA)
theorem lall_ok:∀ (d deep n:Nat),deep+d=9->LAs d deep (n+d+11)
 | 0,deep,n,h=>lall_body h fun d' e=>nomatch e
 | d+1,deep,n,h=>lall_body (n:=n+d+1) h fun d' e=>by cases e;exact lall_ok d (deep+1) n ((Nat.add_right_comm deep 1 d).trans h)
mutual
theorem ct_I:∀ {above most:Nat}{i:It},IO1 above most i->∀ ts∈ctI i,Ct ts
 | _,_,.it n ts sub,h=>fun us hu=>by
  rcases List.mem_cons.mp hu with rfl | hu
  ·exact h.2.1
  ·exact ct_Is h.2.2 us hu
theorem ct_Is:∀ {above most:Nat}{is:List It},IOs above most is->∀ ts∈ctIs is,Ct ts
 | _,_,[],_=>fun us hu=>nomatch hu
 | _,_,i::is,h=>fun us hu=>by
  rcases List.mem_append.mp hu with hu | hu
  ·exact ct_I h.1 us hu
  ·exact ct_Is h.2 us hu
end
mutual
theorem ct_B:∀ {deep:Nat}{b:Bk},BO1 deep b->∀ p∈allB b,Ct p.2
 | _,.gap _,_=>fun p hp=>nomatch hp
 | _,.head n ts,h=>fun p hp=>by rw [List.mem_singleton.mp hp];exact h.2
 | _,.list is,h=>fun p hp=>by
  obtain ⟨ts,ht,rfl⟩:=List.mem_map.mp hp
  exact ct_Is h.2.1 ts ht
 | _,.para rs,h=>fun p hp=>by
  obtain ⟨ts,ht,rfl⟩:=List.mem_map.mp hp
  exact (h.2 ts ht).1
 | _,.quote bs,h=>ct_Bs (bs:=bs) h.2.2
theorem ct_Bs:∀ {deep:Nat}{last:List Nat}{bs:List Bk},BOs deep last bs->∀ p∈allBs bs,Ct p.2
 | _,_,[],_=>fun p hp=>nomatch hp
 | _,_,b::bs,h=>fun p hp=>by
  rcases List.mem_append.mp hp with hp | hp
  ·exact ct_B h.1 p hp
  ·exact ct_Bs h.2.2 p hp
end
theorem heads_comp {n c lo hi:Nat}{H:Heap}{l:List V}{Q:List V->Heap->Prop}{x0 x1 x2 x3 x4 x5 x6:Option V}(ha:H[c]? = some l):∀ (ps:List (Nat×List T)) (m i:Nat) (acc:List V),AL H lo hi ps (l.drop i)->ps.length<m->acc.length+ps.length<=1000000->(∀ p∈ps,Ct p.2)->Q (acc++(ps.filter isH).map hV) H ->
  compN (wpTest (callN P (n+13)) [.cmp .gt (.idx (.var 4) (.int 0)) (.int 0)]) (wpE (callN P (n+13)) (.tup [.idx (.var 4) (.int 0),.call "_law_said" [.idx (.var 4) (.int 1)]])) 4 [x0,x1,x2,x3,x4,x5,x6] (.lst c) m i acc Q H
 | _,0,_,_,_,h,_,_,_=>absurd h (Nat.not_lt_zero _)
 | [],m+1,i,acc,hA,_,_,_,hQ=>by
  show (match (It.lst c).at H i with | none=>_ | some v=>_)
  have hat:(It.lst c).at H i=l[i]?:=by unfold It.at;simp only [ha]
  have hn:l[i]? = none:=List.getElem?_eq_none (List.drop_eq_nil_iff.mp hA)
  rw [hat,hn]
  rw [show ([]:List (Nat×List T)).filter isH=[] from rfl,List.map_nil,List.append_nil] at hQ
  exact hQ
 | p::ps,m+1,i,acc,hA,hm,hl,hc,hQ=>by
  have hlim:lim=16777216:=rfl
  obtain ⟨a,r,e,hr,hA'⟩:=hA
  have hix:l[i]? = some (.tup [.int (p.1:Nat),.ref a]):=by
   have:=congrArg (fun x=>x[0]?) e
   simpa using this
  have hd:l.drop (i+1)=r:=by
   rw [<- List.drop_drop,e];rfl
  show (match (It.lst c).at H i with | none=>_ | some v=>_)
  have hat:(It.lst c).at H i=l[i]?:=by unfold It.at;simp only [ha]
  rw [hat,hix]
  replace hl:acc.length+(ps.length+1)<=1000000:=hl
  have ih:=heads_comp (n:=n) (lo:=lo) (hi:=hi) (Q:=Q) (x0:=x0) (x1:=x1) (x2:=x2) (x3:=x3) (x4:=x4) (x5:=x5) (x6:=x6) ha ps m (i+1)
  rw [hd] at ih
  have hct:=hc p (.head _)
  have ev:Ev (callN P (n+13)) [x0,x1,x2,x3,some (.tup [.int (p.1:Nat),.ref a]),x5,x6] H (.cmp .gt (.idx (.var 4) (.int 0)) (.int 0)) (.bool (isH p)):=v_b (v_cmp (by exact fun _ h=>h) v_int o_gt) (decide_eq_decide.mpr Int.natCast_pos)
  refine ev _ ?_
  cases hp:isH p with
  | true =>
   rw [List.filter_cons_of_pos hp] at hQ
   have hsay:=says_le p.2
   have e2:Ev (callN P (n+13)) [x0,x1,x2,x3,some (.tup [.int (p.1:Nat),.ref a]),x5,x6] H (.tup [.idx (.var 4) (.int 0),.call "_law_said" [.idx (.var 4) (.int 1)]]) (hV p):=v_tup (v_cons (by exact fun _ h=>h) (v_cons (v_call (v_cons (by exact fun _ h=>h) v_nil) fun Q q=>said_at n (Nat.zero_le _) p.2 a _ _ H Q hct.good hr (Nat.le_trans hsay (Nat.le_trans hct.len (by decide))) q) v_nil))
   have hlt:acc.length<lim:=ltl (Nat.le_trans (Nat.le_add_right _ _) hl)
   have hih:=ih (acc++[hV p]) hA' (Nat.lt_of_succ_lt_succ hm) (by rw [List.length_append,Nat.add_assoc,Nat.add_comm [hV p].length];exact hl) (fun q hq=>hc q (.tail _ hq)) (by rw [List.append_assoc];exact hQ)
   exact e2 (fun y H₂=>acc.length<lim/\compN (wpTest (callN P (n+13)) [.cmp .gt (.idx (.var 4) (.int 0)) (.int 0)]) (wpE (callN P (n+13)) (.tup [.idx (.var 4) (.int 0),.call "_law_said" [.idx (.var 4) (.int 1)]])) 4 [x0,x1,x2,x3,x4,x5,x6] (.lst c) m (i+1) (acc++[y]) Q H₂) ⟨hlt,hih⟩
  | false =>
   rw [List.filter_cons_of_neg (by rw [hp];exact Bool.false_ne_true)] at hQ
   exact ih acc hA' (Nat.lt_of_succ_lt_succ hm) (Nat.le_of_succ_le hl) (fun q hq=>hc q (.tail _ hq)) hQ
noncomputable def hX (p:Nat×List T):X:=.tup [.at (.i (p.1:Nat)),.at (.s (sayTs p.2))]
noncomputable def pX (p:List Nat×List Nat):X:=.tup [.at (.s p.1),.at (.s p.2)]
theorem reps_map {α:Type}{f:α->X}{g:α->V}{H:Heap}(hfg:∀ p lo,Rep H (f p) lo lo (g p)):∀ {ps:List α}{lo hi:Nat},lo<=hi->Reps H (ps.map f) lo hi (ps.map g)
 | [],lo,hi,h=>.nil h
 | p::ps,lo,hi,h=>.cons (Nat.le_refl _) (hfg p lo) (reps_map hfg h)
theorem rep_map {α:Type}{f:α->X}{g:α->V}{H:Heap}(hfg:∀ p lo,Rep H (f p) lo lo (g p)) {ps:List α}{c:Nat}(h:H[c]? = some (ps.map g)):Rep H (.lst (ps.map f)) 0 H.length (.ref c) :=
 rep_lst ⟨Nat.zero_le _,(List.getElem?_eq_some_iff.mp h).1,Nat.le_refl _,Nat.le_refl _⟩ h (reps_map hfg (Nat.zero_le _))
theorem fit_map {α:Type}{f:α->X}(hf:∀ p,Fit W 1 (f p)) {ps:List α}(h:ps.length<=W):Fit W 2 (.lst (ps.map f)):=Fit.lst (by rw [List.length_map];exact h) fun y hy=>by
 obtain ⟨p,_,rfl⟩:=List.mem_map.mp hy
 exact hf p
theorem fit_two {x y:A}:Fit W 1 (.tup [.at x,.at y]):=Fit.tup (Nat.le_trans (by decide:(2:Nat)<=4) W4) fun z hz=>by
 rcases List.mem_cons.mp hz with rfl | hz
 ·exact Fit.at
 ·rw [List.mem_singleton.mp hz];exact Fit.at
theorem rep_h {H:Heap}(p:Nat×List T) (lo:Nat):Rep H (hX p) lo lo (hV p):=⟨_,rfl,.atom (a:=.i _) (.atom (a:=.s _) (.nil (Nat.le_refl _)))⟩
theorem rep_p {H:Heap}(p:List Nat×List Nat) (lo:Nat):Rep H (pX p) lo lo (pV p):=⟨_,rfl,.atom (a:=.s _) (.atom (a:=.s _) (.nil (Nat.le_refl _)))⟩
theorem alike_heads {k c c':Nat}{ps:List (Nat×List T)}{H:Heap}(h:H[c]? = some (ps.map hV)) (h':H[c']? = some (ps.map hV)) (hl:ps.length<=W) (K:PostV) (hK:K (.bool true) H):callN P (k+3) "_law_alike" [.ref c,.ref c'] K H :=
 alike_X (w:=W) (k:=k) (by decide) 2 _ _ _ _ _ _ _ (fit_map (f:=hX) (fun _=>fit_two) hl) (rep_map rep_h h) (rep_map rep_h h') K hK
theorem alike_links {k c c':Nat}{ps:List (List Nat×List Nat)}{H:Heap}(h:H[c]? = some (ps.map pV)) (h':H[c']? = some (ps.map pV)) (hl:ps.length<=W) (K:PostV) (hK:K (.bool true) H):callN P (k+3) "_law_alike" [.ref c,.ref c'] K H :=
 alike_X (w:=W) (k:=k) (by decide) 2 _ _ _ _ _ _ _ (fit_map (f:=pX) (fun _=>fit_two) hl) (rep_map rep_p h) (rep_map rep_p h') K hK
theorem links_flat (bs:List Bk):bs.flatMap lkBV=((allBs bs).flatMap fun p=>lks p.2).map pV:=by
 rw [List.map_flatMap,all_flat,List.flatMap_assoc];rfl
theorem ask_one {ts:List T}(h:PT ts 100):AskT [.head 1 ts]:=by
 have hct:=h.ct (by decide)
 have hbo:BOs 0 [] [.head 1 ts]:=⟨⟨⟨Nat.le_refl _,by decide⟩,hct⟩,Or.inl (by show ([104,101,97,100,105,110,103]:List Nat)≠[];decide),trivial⟩
 have hsz:szBs [.head 1 ts]<=900000:=by
  exact Nat.le_trans (Nat.succ_le_succ h.len) (by decide)
 exact ⟨hbo,(fun q=>nomatch q),(fit_bs (deep:=0) (Nat.zero_le _) hbo (Nat.le_trans hsz (by decide))).up (Nat.le_refl _) (by decide),hsz⟩
theorem s_appC {C:Calls}{ρ:Env}{H:Heap}{R:PostS}{ss:List S}{f:String}{es:List E}{e:E}(k:wpEs C es ρ (fun vs H₁=>C f vs (fun vo H₂=>match vo with | .ref a=>wpE C e ρ (fun v H₃=>hea (appendV (.ref a) v H₃) (fun _ H₄=>wpSs C ss ρ R H₄)) H₂ | _=>False) H₁) H):wpSs C (.expr (.append (.call f es) e)::ss) ρ R H:=k
theorem g_compC {C:Calls}{elt e:E}{ifs:List E}{x a:Nat}{ρ:Env}{H:Heap}{Q:PostV}(he:Ev C ρ H e (.ref a)) (k:∃ n,compN (wpTest C ifs) (wpE C elt) x ρ (.lst a) n 0 [] (fun vs H₂=>Q (.ref H₂.length) (H₂++[vs])) H):wpE C (.comp elt x e ifs) ρ Q H :=
 he (fun v H₁=>match iterV v with | some it=>∃ n,compN (wpTest C ifs) (wpE C elt) x ρ it n 0 [] (fun vs H₂=>Q (.ref H₂.length) (H₂++[vs])) H₁ | none=>False) k
theorem law_ok (ns:List Int) (hns:ns.length<=63):callN P 100 "law" [.frz ns] (fun v _=>v=.bool true) []:=by
 have hlim:lim=16777216:=rfl
 have hW:W=1000000:=rfl
 refine in_law (n:=99) (c_assign (vs:=[.frz ns]) (by exact fun _ h=>h) (tree_ok (n:=83) hns fun G1 t1=>?_))
 refine ss_assign (e_call (es_call (vs:=[.frz ns]) (by exact fun _ h=>h) (tree_ok (n:=83) hns fun G2 t2=>es_nil ?_)))
 have hask:AskT (treeF ns):=⟨t1.bo,t1.ne,t1.fit,t1.sz⟩
 generalize hbs:treeF ns=bs at t1 t2 hask
 have hcts:=ct_Bs hask.bo
 have hsz:=hask.sz
 have hall:=alls_len bs
 refine lall_ok 9 0 79 rfl bs [] _ _ _ G2 _ hask.bo t2.rep (Nat.le_refl _) (Nat.le_trans hsz (by decide)) fun c l G3 o3 a3=>?_
 have hl3:=a3.len
 refine ss_assign (g_compC (a:=c) (by exact fun _ h=>h) ⟨(allBs bs).length+1,heads_comp (n:=86) o3.get (allBs bs) _ 0 [] a3 (Nat.lt_succ_self _) (by rw [List.length_nil,Nat.zero_add];exact Nat.le_trans hall (Nat.le_trans hsz (by decide))) hcts ?_⟩)
 rw [List.nil_append]
 have r1:Rep G1 (.lst (bkEs bs)) 0 G1.length (.ref 0):=t1.rep
 have hch:(G3++[((allBs bs).filter isH).map hV])[G3.length]? = some (((allBs bs).filter isH).map hV):=g_last
 have g14:Grow G1 (G3++[((allBs bs).filter isH).map hV]):=(t2.gr.trans o3.gr).trans .one
 have o4:=o3.up (G2:=G3++[((allBs bs).filter isH).map hV]) .one
 have a4:=a3.to (Eqv.one (H:=G3) (x:=((allBs bs).filter isH).map hV) (lo:=G1.length) (hi:=G2.length) o3.gr.len)
 have hh4:G2.length<=(G3++[((allBs bs).filter isH).map hV]).length:=o4.gr.len
 generalize G3.length=ch at hch
 generalize (G3++[((allBs bs).filter isH).map hV]:Heap)=G4 at hch g14 o4 a4 hh4
 have hlk:=sum_Bs bs
 refine s_assignG (H1:=G4++[[]]) (by exact fun _ h=>h) (ss_cons (l_for (σ:=KZ) (fun z=>[some (.frz ns),some (.ref 0),some (.ref c),some (.ref ch),z.e,some (.ref z.c),none]) (fun i z G=>OL G4 (((allBs bs).take i).flatMap fun p=>lkV p.2) z.c G) (l:=l) (fun i z G hI=>hI.gr.get o4.get) (fun i z G v hv hI K hK=>?_) (fun z G hI=>?_) ⟨G4.length,none⟩ (by exact fun _ h=>h) ⟨.one,Nat.le_refl _,g_last⟩))
 ·obtain ⟨p,a,hp,rfl,hr⟩:=a4.get hv
  have hct:=hcts p (List.mem_of_getElem? hp)
  have hle:=head_len (f:=fun p:Nat×List T=>(lkV p.2).length) (g:=fun p=>lkV p.2) (fun _=>Nat.le_refl _) hp
  have hsum:((allBs bs).map fun p=>(lkV p.2).length).sum=((allBs bs).flatMap fun p=>lkV p.2).length:=by rw [List.length_flatMap]
  rw [hsum] at hle
  refine ss_assign (e_bin (e_var (v:=.ref z.c) rfl (e_call (es_ev (v:=.ref a) (by exact fun _ h=>h) (es_nil (llinks_ok 12 0 73 rfl p.2 a _ _ G _ hct.good (hr.grow hI.gr hh4) (Nat.le_trans hh4 hI.gr.len) (Nat.le_trans hct.len (by decide)) fun c2 G5 o5=>r_addR (o5.gr.get hI.get) o5.get (Nat.le_trans hle (Nat.le_trans hlk (Nat.le_trans hsz (by show 900000<=16777216;decide)))) ?_))))))
  refine hK ⟨G5.length,_⟩ _ ?_
  rw [flat_one hp]
  exact hI.add o5.gr
 rw [hl3,List.take_length] at hI
 have hct0:((allBs bs).flatMap fun p=>lkV p.2)=((allBs bs).flatMap fun p=>lks p.2).map pV:=by rw [List.map_flatMap];rfl
 have hll:((allBs bs).flatMap fun p=>lks p.2).length<=W:=by
  have:=congrArg List.length hct0
  rw [List.length_map] at this
  rw [<- this];exact Nat.le_trans hlk (Nat.le_trans hsz (by decide))
 have hhl:((allBs bs).filter isH).length<=W:=Nat.le_trans (List.length_filter_le _ _) (Nat.le_trans hall (Nat.le_trans hsz (by decide)))
 have htg:=hI.get
 rw [hct0] at htg
 have hch5:=hI.gr.get hch
 have r5:=r1.grow (g14.trans hI.gr) (Nat.le_refl _)
 have hh5:G1.length<=G.length:=(g14.trans hI.gr).len
 obtain ⟨tg,e4⟩:=z
 replace htg:G[tg]? = some (((allBs bs).flatMap fun p=>lks p.2).map pV):=htg
 clear hI hh4 a4 o4 g14 hch r1 a3 o3 t2 hl3 hct0 hlk
 have hof:bs.flatMap hdV=((allBs bs).filter isH).map hV:=(hd_flat bs).symm
 have hlf:=links_flat bs
 refine ss_assign (e_list (es_call (vs:=[.ref 0]) (by exact fun _ h=>h) (outline_ok (n:=36) hask r5 hh5 fun oc G6 o6=>es_call (vs:=[.ref 0]) (by exact fun _ h=>h) (links_ok (n:=36) hask (r5.grow o6.gr hh5) (Nat.le_trans hh5 o6.gr.len) fun lc G7 o7=>es_nil ?_))))
 have g7:=o6.gr.trans o7.gr
 have hoc:=(o7.gr.trans (.one (x:=[V.ref oc,V.ref lc]))).get o6.get
 have hlc:=(Grow.one (x:=[V.ref oc,V.ref lc])).get o7.get
 have g8:Grow G (G7++[[V.ref oc,V.ref lc]]):=g7.trans .one
 have hhd:(G7++[[V.ref oc,V.ref lc]])[G7.length]? = some [V.ref oc,V.ref lc]:=g_last
 rw [hof] at hoc
 rw [hlf] at hlc
 generalize G7.length=hd at hhd
 generalize (G7++[[V.ref oc,V.ref lc]]:Heap)=G8 at g8 hoc hlc hhd
 refine s_callE (es_cons (exX_ok (.lst (bkEs [.head 1 [.txt [109,111,114,101]]])) _ _ fun v9 G9 g9 r9=>es_nil ?_))
 have r9':=r9
 obtain ⟨b9,l9,p9,q9,rfl,_,_,_⟩:=r9
 refine outline_ok (n:=36) (ask_one ⟨.good (good1 rfl),(sgAll_ok rfl).1,Nat.le_trans (sgAll_ok (s:=[109,111,114,101]) rfl).2 (by decide)⟩) r9' (Nat.le_refl _) fun _ G10 o10=>?_
 refine s_callE (es_cons (exX_ok (.lst (bkEs [.head 1 [.link [] (some [109,111,114,101]) true]])) _ _ fun v11 G11 g11 r11=>es_nil ?_))
 have r11':=r11
 obtain ⟨b11,l11,p11,q11,rfl,_,_,_⟩:=r11
 refine links_ok (n:=36) (ask_one (ts:=[.link [] (some [109,111,114,101]) true]) ⟨.good (.link (ts:=[]) (g:=some [109,111,114,101]) .nil (by decide) (fun s q=>by cases q;decide) .nil),(sgAll_ok (s:=[91,93,40,109,111,114,101,41]) rfl).1,Nat.le_trans (sgAll_ok (s:=[91,93,40,109,111,114,101,41]) rfl).2 (by decide)⟩) r11' (Nat.le_refl _) fun _ G12 o12=>?_
 have g12:Grow G8 G12:=((g9.trans o10.gr).trans g11).trans o12.gr
 have g13:=g8.trans g12
 have hch12:=g13.get hch5
 have htg12:=g13.get htg
 have hhd12:=g12.get hhd
 refine s_skip (v_or2 (b:=false) (b2:=false) (v_not (t:=true) (v_call (v_cons (v_idx (by exact fun _ h=>h) v_int (i_ref (i:=0) hhd12 rfl)) (v_cons (by exact fun _ h=>h) v_nil)) fun Q q=>alike_heads (k:=96) (g12.get hoc) hch12 hhl Q q)) fun _=>v_or1 (v_not (t:=true) (v_call (v_cons (v_idx (by exact fun _ h=>h) v_int (i_ref (i:=1) hhd12 rfl)) (v_cons (by exact fun _ h=>h) v_nil)) fun Q q=>alike_links (k:=96) (g12.get hlc) htg12 hll Q q))) ?_
 have r12:=r5.grow g13 hh5
 have hh12:=Nat.le_trans hh5 g13.len
 refine s_appC (es_ev (v:=.ref 0) (by exact fun _ h=>h) (es_nil (outline_ok (n:=36) hask r12 hh12 fun c14 G14 o14=>?_)))
 refine v_tup (vs:=[.int 1,.str [109,111,114,101]]) (by exact fun _ h=>h) _ (h_append o14.get (by rw [hof,List.length_map];exact Nat.lt_of_le_of_lt hhl (by show 1000000<16777216;decide)) ?_)
 have g15:=(o14.set (l':=bs.flatMap hdV++[.tup [.int 1,.str [109,111,114,101]]])).gr
 generalize G14.set c14 (bs.flatMap hdV++[.tup [.int 1,.str [109,111,114,101]]])=G15 at g15
 have r15:=r12.grow g15 hh12
 have hh15:=Nat.le_trans hh12 g15.len
 refine s_appC (es_ev (v:=.ref 0) (by exact fun _ h=>h) (es_nil (links_ok (n:=36) hask r15 hh15 fun c16 G16 o16=>?_)))
 refine v_tup (vs:=[.str [109,111,114,101],.str [109,111,114,101]]) (by exact fun _ h=>h) _ (h_append o16.get (by rw [hlf,List.length_map];exact Nat.lt_of_le_of_lt hll (by show 1000000<16777216;decide)) ?_)
 have g17:=g15.trans (o16.set (l':=bs.flatMap lkBV++[.tup [.str [109,111,114,101],.str [109,111,114,101]]])).gr
 generalize G16.set c16 (bs.flatMap lkBV++[.tup [.str [109,111,114,101],.str [109,111,114,101]]])=G17 at g17
 have r17:=r12.grow g17 hh12
 have hh17:=Nat.le_trans hh12 g17.len
 have hch17:=g17.get hch12
 have htg17:=g17.get htg12
 have q1:EvH (callN P 99) [some (.frz ns),some (.ref 0),some (.ref c),some (.ref ch),e4,some (.ref tg),some (.ref hd)] G17 (.call "_law_alike" [.call "outline" [.var 1],.var 3]) (.bool true) (fun G'=>Grow G17 G'):=fun Q k=>by
  refine e_call (es_cons (e_call (es_ev (v:=.ref 0) (by exact fun _ h=>h) (es_nil (outline_ok (n:=36) hask r17 hh17 fun c18 G18 o18=>es_ev (v:=.ref ch) (by exact fun _ h=>h) (es_nil ?_))))))
  have ho:=o18.get
  rw [hof] at ho
  exact alike_heads (k:=96) ho (o18.gr.get hch17) hhl _ (k _ o18.gr)
 have q2:∀ G18,Grow G17 G18->EvH (callN P 99) [some (.frz ns),some (.ref 0),some (.ref c),some (.ref ch),e4,some (.ref tg),some (.ref hd)] G18 (.call "_law_alike" [.call "links" [.var 1],.var 5]) (.bool true) (fun G'=>Grow G17 G'):=fun G18 g18 Q k=>by
  refine e_call (es_cons (e_call (es_ev (v:=.ref 0) (by exact fun _ h=>h) (es_nil (links_ok (n:=36) hask (r17.grow g18 hh17) (Nat.le_trans hh17 g18.len) fun c19 G19 o19=>es_ev (v:=.ref tg) (by exact fun _ h=>h) (es_nil ?_))))))
  have ho:=o19.get
  rw [hlf] at ho
  exact alike_links (k:=96) ho ((g18.trans o19.gr).get htg17) hll _ (k _ (g18.trans o19.gr))
 refine hs_skip (h_or2 (h_not q1) fun G18 g18=>h_or1 (h_not (q2 G18 g18))) fun G19 g19=>?_
 refine ss_ret (e_call (es_ev (v:=.ref 0) (by exact fun _ h=>h) (es_call (vs:=[.frz ns]) (by exact fun _ h=>h) (tree_ok (n:=83) hns fun G20 t20=>es_nil ?_))))
 rw [hbs] at t20
 exact alike_X (k:=33) (by decide) 65 _ _ _ _ _ _ _ hask.fit ((r17.grow g19 hh17).grow t20.gr (Nat.le_trans hh17 g19.len)) t20.rep _ rfl
end L10
open PySem PySem.W PyProof.Rows
namespace L10
theorem said:PySem.Challenge.rw_uf010012_10.wellSaid=true:=by decide +kernel
end L10
set_option maxHeartbeats 8000000 in
theorem PySem.Challenge.cw_uf010012_10_holds : PySem.Challenge.rw_uf010012_10.Holds := by
 refine holds_law L10.said fun said=>?_
 refine holds_open (q:=L10.vw) (loose:=[]) (Xt:=fun s=>xlAt L10.vw [] s&&recOk [] s) (XP:=XL L10.vw []) (Yf:=Hook.obs Hook.none) (Ya:=Hook.val Hook.none) (YP:=Hook.says Hook.none) (N:=3000) L10.left (Hook.of Hook.none) (Hook.keeps Hook.none) (fun s e=>xl_of s (Bool.and_eq_true_iff.mp e).1) XL.keeps (by rfl) (by rfl) (by rfl) (fun s e=>recFacts_of (Bool.and_eq_true_iff.mp e).2) (by rfl) said (by decide +kernel) ⟨rfl,rfl,rfl,rfl,rfl,by decide +kernel⟩ ?hw ?hc
 case hw=>w_witness2
 intro w s₀ s₁ mg mb G Y fa o pm cd doc dV kV ho hd hcd hD hmg hg args vals as hpre hlay hrd hwl hlo
 exact MiniS.law_call (l:=PySem.Challenge.rw_uf010012_10) rfl G.T hg hmg hpre hrd L10.gl L10.prg 100 (by decide) (by decide +kernel) rfl (fun _=>⟨_,rfl,rfl⟩) (fun ns h=>L10.law_ok ns h)

