import PyProof.Rows.All
import KE.KItem
import Open.Line
import PySem.Challenge.RW_uf010012_09
set_option tactic.hygienic false
set_option Elab.async false
set_option maxRecDepth 100000
set_option genSizeOf false
set_option genInjectivity false
universe u v
theorem A3 {n m k:Nat}(h:n≤m) (g:m≤k):n≤k:=Nat.le_trans h g
theorem A4 (a:Nat):a≤a:=Nat.le_refl a
theorem A6 {α:Type u}{as bs:List α}:(as++bs).length=as.length+bs.length:=List.length_append
theorem A7 {α:Type u}(as bs cs:List α):as++bs++cs=as++(bs++cs):=List.append_assoc as bs cs
theorem A8 {a b c:Nat}(h:a<b) (k:b≤c):a<c:=Nat.lt_of_lt_of_le h k
theorem A9 {a b c:Nat}(h:a≤b) (k:b<c):a<c:=Nat.lt_of_le_of_lt h k
theorem B0 (a:Nat):0≤a:=Nat.zero_le a
theorem B1 (a:Nat):a<a+1:=Nat.lt_succ_self a
theorem B3 {a b:Nat}(h:a≤b):a+1≤b+1:=Nat.succ_le_succ h
theorem B4 (a b:Nat):a≤a+b:=Nat.le_add_right a b
theorem B5 {a b:Nat}(h:a<b):a≤b:=Nat.le_of_lt h
theorem B6 {α:Type u}{β:Type v}{l:List α}(f:α → β):(l.map f).length=l.length:=List.length_map f
theorem B8 (a:Nat):a≤a+1:=Nat.le_succ a
theorem B9 {α:Type u}{l:List α}{i:Nat}{a:α}(e:l[i]? = some a):a∈l:=List.mem_of_getElem? e
theorem C0 {α:Type u}{β:Type v}{f:α → β}{l:List α}{i:Nat}:(l.map f)[i]? = (l[i]?).map f:=List.getElem?_map
namespace Mini
theorem G9 {A B L R:Nat}(h:A<=B) (e:L+B<=R+A:=by simp +arith only):L<=R:=Nat.le_of_add_le_add_right (A3 e (Nat.add_le_add_left h R))
theorem fG {L R:Nat}(e:L<=R:=by simp +arith only):L<=R:=e
theorem fkf {A B:Nat}{p:Prop}(h:A<=B) (e:B+1<=A:=by simp +arith only):p:=absurd (A3 e h) (Nat.not_succ_le_self B)
theorem I6 {a b c d:Nat}(h:a<=b) (k:c<=d):a+c<=b+d:=Nat.add_le_add h k
inductive V where
 | none
 | bool (b:Bool)
 | int (i:Int)
 | str (s:List Nat)
 | ref (a:Nat)
 | tup (vs:List V)
 | frz (ns:List Int)
abbrev Heap:=List (List V)
abbrev D7:=List (Option V)
noncomputable def I3:Nat:=16777216
inductive Op where
 | add | sub | mul | fdiv | mod | pow
inductive Cmp where
 | eq | ne | lt | le | gt | ge | isin | notin
inductive Cst where
 | none | tt | ff
inductive Ty where
 | str | int | bool | list | tuple
inductive E where
 | none
 | bool (b:Bool)
 | int (i:Int)
 | str (s:List Nat)
 | var (x:Nat)
 | glob (g:String) (i:Int)
 | bin (o:Op) (l r:E)
 | neg (i:Int)
 | cmp (o:Cmp) (l r:E)
 | cmp2 (o₁ o₂:Cmp) (a b c:E)
 | is (e:E) (c:Cst)
 | isnot (e:E) (c:Cst)
 | and (es:List E)
 | or (es:List E)
 | not (e:E)
 | idx (o i:E)
 | slc (o l h:E)
 | slcL (o l:E)
 | slcH (o h:E)
 | call (f:String) (es:List E)
 | isinst (e:E) (t:Ty)
 | len (e:E)
 | toInt (e:E)
 | ord (e:E)
 | sortedDown (e:E)
 | append (o e:E)
 | extend (o e:E)
 | pop (o:E)
 | find (o a b:E)
 | join (o a:E)
 | split (o a:E)
 | list (es:List E)
 | tup (es:List E)
 | comp (elt:E) (x:Nat) (src:E) (ifs:List E)
 | compR (elt:E) (x:Nat) (n:E) (ifs:List E)
inductive S where
 | assign (x:Nat) (e:E)
 | setIdx (o i e:E)
 | expr (e:E)
 | ite (c:E) (t f:List S)
 | whl (c:E) (b:List S)
 | forIn (x:Nat) (e:E) (b:List S)
 | forR (x:Nat) (e:E) (b:List S)
 | forEnum (x y:Nat) (e:E) (b:List S)
 | ret (e:E)
 | retNone
 | cont
 | pass
 | raise (c:String) (m:List Nat)
structure Fn where
 names:List String
 params:Nat
 lits:List Nat:=[]
 bump:Bool:=false
 body:List S
abbrev Prg:=String->Option Fn
noncomputable def K6 (i:Int) (n:Nat):Option Nat :=
 if 0<=i then (if i<n then some i.toNat else none)
 else if -(n:Int)<=i then some (i+n).toNat else none
noncomputable def tM (i:Int) (n:Nat):Nat :=
 if i<0 then (i+n).toNat else min i.toNat n
noncomputable def Bc7 (lo:Option Int) (n:Nat):Nat:=match lo with
 | some i=>tM i n
 | none=>0
noncomputable def Ak1 (hi:Option Int) (n:Nat):Nat:=match hi with
 | some i=>tM i n
 | none=>n
noncomputable def slice {α:Type}(l:List α) (lo hi:Option Int):List α:=(l.take (Ak1 hi l.length)).drop (Bc7 lo l.length)
noncomputable def idx? (c:Nat):List Nat->Option Nat
 | []=>none
 | x::l=>if x=c then some 0 else (idx? c l).map (· + 1)
noncomputable def tL (s:List Nat) (c:Nat) (i:Nat):Int:=match idx? c (s.drop i) with
 | some k=>((i+k:Nat):Int)
 | none=>-1
noncomputable def Bu5 (s:List Nat) (a b:Nat):List Nat:=s.map fun c=>if c=a then b else c
noncomputable def splitAt (c:Nat):List Nat->List (List Nat)
 | []=>[[]]
 | x::l=>if x=c then []::splitAt c l else match splitAt c l with
  | []=>[[x]]
  | w::r=>(x::w)::r
noncomputable def D8 (sep:List Nat):List (List Nat)->List Nat
 | []=>[]
 | [w]=>w
 | w::r=>w++sep++D8 sep r
noncomputable def sX:List V->Option (List (List Nat))
 | []=>some []
 | .str s::r=>(sX r).map (s::·)
 | _::_=>Option.none
noncomputable def intL:List V->Option (List Int)
 | []=>some []
 | .int s::r=>(intL r).map (s::·)
 | _::_=>Option.none
inductive D where
 | none
 | bool (b:Bool)
 | int (i:Int)
 | str (s:List Nat)
 | list (l:List D)
 | tup (l:List D)
noncomputable def yR (f:V->Option D):List V->Option (List D)
 | []=>some []
 | v::l=>match f v with
  | some d=>(yR f l).map (d::·)
  | Option.none=>Option.none
noncomputable def rd (H:Heap):Nat->V->Option D
 | 0,_=>Option.none
 | n+1,v=>match v with
  | .none=>some .none
  | .bool b=>some (.bool b)
  | .int i=>some (.int i)
  | .str s=>if s.all (fun c=>decide (c<1114112)) then some (.str s) else Option.none
  | .tup l=>(yR (rd H n) l).map .tup
  | .ref a=>match H[a]? with
   | some l=>(yR (rd H n) l).map .list
   | Option.none=>Option.none
  | .frz _=>Option.none
mutual
noncomputable def sS:D->D->Bool
 | .none,e=>match e with | .none=>true | _=>false
 | .bool a,e=>match e with | .bool b=>a==b | .int j=>(if a then 1 else 0)==j | _=>false
 | .int i,e=>match e with | .int j=>i==j | .bool b=>i==(if b then 1 else 0) | _=>false
 | .str a,e=>match e with | .str b=>a==b | _=>false
 | .list a,e=>match e with | .list b=>sY a b | _=>false
 | .tup a,e=>match e with | .tup b=>sY a b | _=>false
noncomputable def sY:List D->List D->Bool
 | [],e=>match e with | []=>true | _=>false
 | x::l,e=>match e with | y::r=>sS x y&&sY l r | _=>false
end
noncomputable def K0:Nat:=100
abbrev Res:=Option (V×Heap)
section
variable {α:Type}
noncomputable def P9 (v:V) (f:Int->Option α):Option α:=match v with
 | .int i=>f i
 | _=>Option.none
noncomputable def At9 (v:V) (f:List Nat->Option α):Option α:=match v with
 | .str i=>f i
 | _=>Option.none
noncomputable def zG (v:V) (f:Nat->Option α):Option α:=match v with
 | .ref i=>f i
 | _=>Option.none
noncomputable def Bn0 (v:V) (f:Bool->Option α):Option α:=match v with
 | .bool i=>f i
 | _=>Option.none
noncomputable def Cm4 (s:List Nat) (f:Nat->Option α):Option α:=match s with
 | [c]=>f c
 | _=>Option.none
theorem I9 {v:V}{f:Int->Option α}{r:α}(h:P9 v f=some r):∃ i,v=.int i/\f i=some r:=by
 cases v with
 | int i=>exact ⟨i,rfl,h⟩
 | _=>exact nomatch (show Option.none=some r from h)
theorem qC {v:V}{f:List Nat->Option α}{r:α}(h:At9 v f=some r):∃ i,v=.str i/\f i=some r:=by
 cases v with
 | str i=>exact ⟨i,rfl,h⟩
 | _=>exact nomatch (show Option.none=some r from h)
theorem jE {v:V}{f:Nat->Option α}{r:α}(h:zG v f=some r):∃ i,v=.ref i/\f i=some r:=by
 cases v with
 | ref i=>exact ⟨i,rfl,h⟩
 | _=>exact nomatch (show Option.none=some r from h)
theorem Bf3 {v:V}{f:Bool->Option α}{r:α}(h:Bn0 v f=some r):∃ i,v=.bool i/\f i=some r:=by
 cases v with
 | bool i=>exact ⟨i,rfl,h⟩
 | _=>exact nomatch (show Option.none=some r from h)
theorem Bv0 {s:List Nat}{f:Nat->Option α}{r:α}(h:Cm4 s f=some r):∃ c,s=[c]/\f c=some r:=by
 match s,h with
 | [c],h=>exact ⟨c,rfl,h⟩
 | [],h=>exact nomatch (show Option.none=some r from h)
 | _::_::_,h=>exact nomatch (show Option.none=some r from h)
theorem aM {c:Prop} [Decidable c] {x r:α}(h:(if c then some x else Option.none)=some r):c/\x=r:=by
 by_cases hc:c
 ·rw [if_pos hc] at h;cases h;exact ⟨hc,rfl⟩
 ·rw [if_neg hc] at h;cases h
end
noncomputable def yX (v:V) (f:Nat->Prop):Prop:=match v with
 | .str [c]=>f c
 | _=>False
noncomputable def Cx1 (v:V) (f:Int->Prop):Prop:=match v with
 | .int c=>f c
 | _=>False
theorem Z8 {v:V}{f:Nat->Prop}(h:yX v f):∃ c,v=.str [c]/\f c:=by
 cases v with
 | str s =>
  match s,h with
  | [c],h=>exact ⟨c,rfl,h⟩
  | [],h=>exact False.elim h
  | _::_::_,h=>exact False.elim h
 | _=>exact False.elim h
theorem Cm2 {v:V}{f:Nat->Prop}(h:match v with | .str [c]=>f c | _=>False):yX v f:=h
theorem Ax8 {v:V}{f:Int->Prop}(h:Cx1 v f):∃ c,v=.int c/\f c:=by
 cases v with
 | int i=>exact ⟨i,rfl,h⟩
 | _=>exact False.elim h
noncomputable def Cx3 (a b:V) (H:Heap):Res:=match a with
 | .int a=>P9 b fun b=>some (.int (a+b),H)
 | .str a=>At9 b fun b=>if a.length+b.length<=I3 then some (.str (a++b),H) else Option.none
 | .ref a=>zG b fun b=>(H[a]?).bind fun l=>(H[b]?).bind fun r=>if l.length+r.length<=I3 then some (.ref H.length,H++[l++r]) else Option.none
 | _=>Option.none
noncomputable def Cx2 (a b:V) (H:Heap):Res:=match a with
 | .int a=>P9 b fun b=>if a.natAbs<1152921504606846976∨b.natAbs<1152921504606846976 then some (.int (a * b),H) else Option.none
 | .str a=>P9 b fun n=>if a.length * n.toNat<=I3/\-4611686018427387904<n/\n<4611686018427387904 then some (.str (List.replicate n.toNat a).flatten,H) else Option.none
 | .ref a=>P9 b fun n=>(H[a]?).bind fun l=>if l.length * n.toNat<=I3/\-4611686018427387904<n/\n<4611686018427387904 then some (.ref H.length,H++[(List.replicate n.toNat l).flatten]) else Option.none
 | _=>Option.none
noncomputable def aO (o:Op) (a b:V) (H:Heap):Res :=
 match o with
 | .add=>Cx3 a b H
 | .sub=>P9 a fun a=>P9 b fun b=>some (.int (a - b),H)
 | .mul=>Cx2 a b H
 | .fdiv=>P9 a fun a=>P9 b fun b=>if 0<b/\b<1073741824 then some (.int (a / b),H) else Option.none
 | .mod=>P9 a fun a=>P9 b fun b=>if 0<b then some (.int (a % b),H) else Option.none
 | .pow=>Option.none
noncomputable def wH (a b:V):Option Bool:=match a with
 | .int a=>P9 b fun b=>some (a==b)
 | .bool a=>Bn0 b fun b=>some (a==b)
 | .str a=>At9 b fun b=>some (a==b)
 | _=>Option.none
noncomputable def wI (a b:V) (H:Heap):Option Bool:=(rd H K0 a).bind fun x=>(rd H K0 b).bind fun y=>some (sS x y)
noncomputable def eqV (a b:V) (H:Heap):Option Bool:=match wH a b with
 | some t=>some t
 | Option.none=>wI a b H
noncomputable def memV (a t:V) (H:Heap):Option Bool :=
 match rd H K0 a,rd H K0 t with
 | some x,some (.tup l)=>some (l.any fun y=>sS y x)
 | _,_=>Option.none
noncomputable def inV (a b:V) (H:Heap):Option Bool:=match b with
 | .str b=>At9 a fun s=>Cm4 s fun c=>some (b.contains c)
 | .tup l=>memV a (.tup l) H
 | _=>Option.none
noncomputable def S3 (o:Cmp) (a b:V) (H:Heap):Option Bool :=
 match o with
 | .eq=>eqV a b H
 | .ne=>(eqV a b H).map (!·)
 | .lt=>P9 a fun a=>P9 b fun b=>some (decide (a<b))
 | .le=>P9 a fun a=>P9 b fun b=>some (decide (a<=b))
 | .gt=>P9 a fun a=>P9 b fun b=>some (decide (b<a))
 | .ge=>P9 a fun a=>P9 b fun b=>some (decide (b<=a))
 | .isin=>inV a b H
 | .notin=>(inV a b H).map (!·)
noncomputable def isV (a:V) (c:Cst):Bool :=
 match a,c with
 | .none,.none=>true
 | .bool true,.tt=>true
 | .bool false,.ff=>true
 | _,_=>false
noncomputable def bX (a:V) (t:Ty):Bool :=
 match a,t with
 | .str _,.str=>true
 | .int _,.int=>true
 | .bool _,.int=>true
 | .bool _,.bool=>true
 | .ref _,.list=>true
 | .frz _,.list=>true
 | .tup _,.tuple=>true
 | _,_=>false
noncomputable def yZ (a:V) (H:Heap):Option Int :=
 match a with
 | .str s=>some (s.length:Int)
 | .tup l=>some (l.length:Int)
 | .frz l=>some (l.length:Int)
 | .ref a=>(H[a]?).map fun l=>(l.length:Int)
 | _=>Option.none
noncomputable def X1 (o i:V) (H:Heap):Option V:=P9 i fun i=>match o with
 | .str s=>(K6 i s.length).bind fun k=>(s[k]?).map fun c=>.str [c]
 | .tup l=>(K6 i l.length).bind fun k=>l[k]?
 | .frz l=>(K6 i l.length).bind fun k=>(l[k]?).map .int
 | .ref a=>(H[a]?).bind fun l=>(K6 i l.length).bind fun k=>l[k]?
 | _=>Option.none
noncomputable def kK (o:V) (lo hi:Option Int) (H:Heap):Res :=
 match o with
 | .str s=>some (.str (slice s lo hi),H)
 | .frz l=>some (.ref H.length,H++[(slice l lo hi).map .int])
 | .ref a=>(H[a]?).map fun l=>(.ref H.length,H++[slice l lo hi])
 | _=>Option.none
noncomputable def Cp2 (o i v:V) (H:Heap):Option Heap:=zG o fun a=>P9 i fun i =>
 (H[a]?).bind fun l=>(K6 i l.length).map fun k=>H.set a (l.set k v)
noncomputable def aC (o v:V) (H:Heap):Option Heap :=
 match o with
 | .ref a=>(H[a]?).bind fun l=>if l.length<I3 then some (H.set a (l++[v])) else Option.none
 | _=>Option.none
noncomputable def xB (o v:V) (H:Heap):Option Heap:=zG o fun a=>zG v fun b =>
 (H[a]?).bind fun l=>(H[b]?).bind fun r=>if a≠b/\l.length+r.length<=I3 then some (H.set a (l++r)) else Option.none
noncomputable def Aj9 (o:V) (H:Heap):Res :=
 match o with
 | .ref a=>(H[a]?).bind fun l=>(l.getLast?).map fun v=>(v,H.set a l.dropLast)
 | _=>Option.none
inductive It where
 | lst (a:Nat)
 | fix (vs:List V)
noncomputable def It.at (it:It) (H:Heap) (i:Nat):Option V :=
 match it with
 | .lst a=>match H[a]? with
  | some l=>l[i]?
  | Option.none=>Option.none
 | .fix vs=>vs[i]?
noncomputable def iterV (v:V):Option It :=
 match v with
 | .ref a=>some (.lst a)
 | .frz l=>some (.fix (l.map .int))
 | .str s=>some (.fix (s.map fun c=>.str [c]))
 | _=>Option.none
noncomputable def rangeV (v:V):Option It :=
 match v with
 | .int n=>@ite _ (-4611686018427387904<=n/\n<4611686018427387904) (Classical.propDecidable _) (some (.fix ((List.range n.toNat).map fun k:Nat=>V.int (k:Int)))) Option.none
 | _=>Option.none
abbrev C2:=V->Heap->Prop
abbrev Calls:=String->List V->C2->Heap->Prop
noncomputable def res (r:Res) (Q:C2):Prop:=match r with
 | some (v,H)=>Q v H
 | Option.none=>False
theorem Cr8 {r:Res}{Q:C2}(h:res r Q):∃ v H,r=some (v,H)/\Q v H:=by
 cases r with
 | some p=>exact ⟨p.1,p.2,rfl,h⟩
 | none=>exact False.elim h
noncomputable def val (r:Option V) (Q:C2) (H:Heap):Prop:=match r with
 | some v=>Q v H
 | Option.none=>False
noncomputable def boo (r:Option Bool) (Q:Bool->Heap->Prop) (H:Heap):Prop:=match r with
 | some b=>Q b H
 | Option.none=>False
noncomputable def hea (r:Option Heap) (Q:C2):Prop:=match r with
 | some H=>Q .none H
 | Option.none=>False
noncomputable def I7 (v:V):Option Bool:=match v with
 | .bool b=>some b
 | _=>Option.none
noncomputable def zI (s:List Nat) (va vb:V) (Q:C2) (H:Heap):Prop:=yX va fun c=>Cx1 vb fun i=>0<=i/\Q (.int (tL s c i.toNat)) H
noncomputable def Ab1 (s:List Nat) (va vb:V) (Q:C2) (H:Heap):Prop:=yX va fun x=>yX vb fun y=>x≠y/\s.length<=1000000/\Q (.str (Bu5 s x y)) H
noncomputable def fP (s:List Nat) (va:V) (Q:C2) (H:Heap):Prop:=match va with
 | .ref a=>match (H[a]?).bind sX with
  | some l=>(l.map List.length).sum+l.length * s.length<=I3/\Q (.str (D8 s l)) H
  | Option.none=>False
 | _=>False
noncomputable def Ak9 (s:List Nat) (va:V) (Q:C2) (H:Heap):Prop:=yX va fun c=>s.length<I3/\Q (.ref H.length) (H++[(splitAt c s).map .str])
noncomputable def Dg3 (s:List Nat) (va:V) (Q:C2) (H:Heap):Prop:=yX va fun c=>Q (match idx? c s with
  | some k=>.tup [.str (s.take k),.str [c],.str (s.drop (k+1))]
  | Option.none=>.tup [.str s,.str [],.str []]) H
noncomputable def Dc0 (s:List Nat) (va:V) (Q:C2) (H:Heap):Prop:=yX va fun c=>Q (.str (s.dropWhile (· == c))) H
noncomputable def S9 (test:D7->(Bool->Heap->Prop)->Heap->Prop) (elt:D7->C2->Heap->Prop) (x:Nat) (ρ:D7) (it:It) :
  Nat->Nat->List V->(List V->Heap->Prop)->Heap->Prop
 | 0,_,_,_,_=>False
 | n+1,i,acc,Q,H=>match it.at H i with
  | Option.none=>Q acc H
  | some v=>test (ρ.set x (some v)) (fun b H₁=>match b with
   | true=>elt (ρ.set x (some v)) (fun y H₂=>acc.length<I3/\S9 test elt x ρ it n (i+1) (acc++[y]) Q H₂) H₁
   | false=>S9 test elt x ρ it n (i+1) acc Q H₁) H
mutual
noncomputable def E2 (C:Calls):E->D7->C2->Heap->Prop
 | .none,_,Q,H=>Q .none H
 | .bool b,_,Q,H=>Q (.bool b) H
 | .int i,_,Q,H=>Q (.int i) H
 | .str s,_,Q,H=>Q (.str s) H
 | .var x,ρ,Q,H=>match ρ[x]? with
  | some (some v)=>Q v H
  | _=>False
 | .glob _ i,_,Q,H=>Q (.int i) H
 | .bin o l r,ρ,Q,H=>E2 C l ρ (fun a H₁=>E2 C r ρ (fun b H₂=>res (aO o a b H₂) Q) H₁) H
 | .neg i,_,Q,H=>Q (.int (-i)) H
 | .cmp o l r,ρ,Q,H=>E2 C l ρ (fun a H₁=>E2 C r ρ (fun b H₂=>boo (S3 o a b H₂) (fun b H=>Q (.bool b) H) H₂) H₁) H
 | .cmp2 o₁ o₂ a b c,ρ,Q,H=>E2 C a ρ (fun va H₁=>E2 C b ρ (fun vb H₂=>boo (S3 o₁ va vb H₂) (fun t H₂=>match t with
   | true=>E2 C c ρ (fun vc H₃=>boo (S3 o₂ vb vc H₃) (fun b H=>Q (.bool b) H) H₃) H₂
   | false=>Q (.bool false) H₂) H₂) H₁) H
 | .is e c,ρ,Q,H=>E2 C e ρ (fun v H₁=>Q (.bool (isV v c)) H₁) H
 | .isnot e c,ρ,Q,H=>E2 C e ρ (fun v H₁=>Q (.bool (!isV v c)) H₁) H
 | .and es,ρ,Q,H=>iG C es ρ Q H
 | .or es,ρ,Q,H=>vX C es ρ Q H
 | .not e,ρ,Q,H=>E2 C e ρ (fun v H₁=>boo (I7 v) (fun b H=>Q (.bool (!b)) H) H₁) H
 | .idx o i,ρ,Q,H=>E2 C o ρ (fun vo H₁=>E2 C i ρ (fun vi H₂=>val (X1 vo vi H₂) Q H₂) H₁) H
 | .slc o l h,ρ,Q,H=>E2 C o ρ (fun vo H₁=>E2 C l ρ (fun vl H₂=>E2 C h ρ (fun vh H₃=>match vl,vh with
   | .int a,.int b=>res (kK vo (some a) (some b) H₃) Q
   | _,_=>False) H₂) H₁) H
 | .slcL o l,ρ,Q,H=>E2 C o ρ (fun vo H₁=>E2 C l ρ (fun vl H₂=>match vl with
   | .int a=>res (kK vo (some a) Option.none H₂) Q
   | _=>False) H₁) H
 | .slcH o h,ρ,Q,H=>E2 C o ρ (fun vo H₁=>E2 C h ρ (fun vh H₂=>match vh with
   | .int a=>res (kK vo Option.none (some a) H₂) Q
   | _=>False) H₁) H
 | .call f es,ρ,Q,H=>S2 C es ρ (fun vs H₁=>C f vs Q H₁) H
 | .isinst e t,ρ,Q,H=>E2 C e ρ (fun v H₁=>Q (.bool (bX v t)) H₁) H
 | .len e,ρ,Q,H=>E2 C e ρ (fun v H₁=>val ((yZ v H₁).map .int) Q H₁) H
 | .toInt e,ρ,Q,H=>E2 C e ρ (fun v H₁=>match v with
   | .bool b=>Q (.int (if b then 1 else 0)) H₁
   | _=>False) H
 | .ord e,ρ,Q,H=>E2 C e ρ (fun v H₁=>match v with
   | .str [c]=>Q (.int (c:Int)) H₁
   | _=>False) H
 | .sortedDown e,ρ,Q,H=>E2 C e ρ (fun v H₁=>match v with
   | .ref a=>match (H₁[a]?).bind intL with
    | some l=>l.length<64/\∀ r:List Int,r.Perm l->Q (.ref H₁.length) (H₁++[r.map .int])
    | Option.none=>False
   | _=>False) H
 | .append o e,ρ,Q,H=>E2 C o ρ (fun vo H₁=>match vo with
   | .ref a=>E2 C e ρ (fun v H₂=>hea (aC (.ref a) v H₂) Q) H₁
   | _=>False) H
 | .extend o e,ρ,Q,H=>E2 C o ρ (fun vo H₁=>match vo with
   | .ref a=>E2 C e ρ (fun v H₂=>hea (xB (.ref a) v H₂) Q) H₁
   | _=>False) H
 | .pop o,ρ,Q,H=>E2 C o ρ (fun vo H₁=>match vo with
   | .ref a=>res (Aj9 (.ref a) H₁) Q
   | _=>False) H
 | .find o a b,ρ,Q,H=>E2 C o ρ (fun vo H₁=>match vo with
   | .str s=>E2 C a ρ (fun va H₂=>E2 C b ρ (fun vb H₃=>zI s va vb Q H₃) H₂) H₁
   | _=>False) H
 | .join o a,ρ,Q,H=>E2 C o ρ (fun vo H₁=>match vo with
   | .str s=>E2 C a ρ (fun va H₂=>fP s va Q H₂) H₁
   | _=>False) H
 | .split o a,ρ,Q,H=>E2 C o ρ (fun vo H₁=>match vo with
   | .str s=>E2 C a ρ (fun va H₂=>Ak9 s va Q H₂) H₁
   | _=>False) H
 | .list es,ρ,Q,H=>S2 C es ρ (fun vs H₁=>Q (.ref H₁.length) (H₁++[vs])) H
 | .tup es,ρ,Q,H=>S2 C es ρ (fun vs H₁=>Q (.tup vs) H₁) H
 | .comp elt x src ifs,ρ,Q,H=>E2 C src ρ (fun v H₁=>match iterV v with
   | some it=>∃ n,S9 (P6 C ifs) (E2 C elt) x ρ it n 0 [] (fun vs H₂=>Q (.ref H₂.length) (H₂++[vs])) H₁
   | Option.none=>False) H
 | .compR elt x e ifs,ρ,Q,H=>E2 C e ρ (fun v H₁=>match rangeV v with
   | some it=>∃ n,S9 (P6 C ifs) (E2 C elt) x ρ it n 0 [] (fun vs H₂=>Q (.ref H₂.length) (H₂++[vs])) H₁
   | Option.none=>False) H
noncomputable def S2 (C:Calls):List E->D7->(List V->Heap->Prop)->Heap->Prop
 | [],_,Q,H=>Q [] H
 | e::es,ρ,Q,H=>E2 C e ρ (fun v H₁=>S2 C es ρ (fun vs H₂=>Q (v::vs) H₂) H₁) H
noncomputable def iG (C:Calls):List E->D7->C2->Heap->Prop
 | [],_,_,_=>False
 | e::es,ρ,Q,H=>match es with
  | []=>E2 C e ρ Q H
  | _::_=>E2 C e ρ (fun v H₁=>boo (I7 v) (fun b H₁=>match b with
   | true=>iG C es ρ Q H₁
   | false=>Q v H₁) H₁) H
noncomputable def vX (C:Calls):List E->D7->C2->Heap->Prop
 | [],_,_,_=>False
 | e::es,ρ,Q,H=>match es with
  | []=>E2 C e ρ Q H
  | _::_=>E2 C e ρ (fun v H₁=>boo (I7 v) (fun b H₁=>match b with
   | true=>Q v H₁
   | false=>vX C es ρ Q H₁) H₁) H
noncomputable def P6 (C:Calls):List E->D7->(Bool->Heap->Prop)->Heap->Prop
 | [],_,Q,H=>Q true H
 | e::es,ρ,Q,H=>E2 C e ρ (fun v H₁=>boo (I7 v) (fun b H₁=>match b with
   | true=>P6 C es ρ Q H₁
   | false=>Q false H₁) H₁) H
end
inductive kM where
 | next | cont
 | ret (v:V)
abbrev E6:=kM->D7->Heap->Prop
noncomputable def gO (test:D7->C2->Heap->Prop) (body:D7->E6->Heap->Prop):Nat->D7->E6->Heap->Prop
 | 0,_,_,_=>False
 | n+1,ρ,Q,H=>test ρ (fun v H₁=>boo (I7 v) (fun b H₁=>match b with
   | true=>body ρ (fun fl ρ' H₂=>match fl with
    | .ret v=>Q (.ret v) ρ' H₂
    | _=>gO test body n ρ' Q H₂) H₁
   | false=>Q .next ρ H₁) H₁) H
noncomputable def aK (body:D7->E6->Heap->Prop) (x:Nat) (it:It):Nat->Nat->D7->E6->Heap->Prop
 | 0,_,_,_,_=>False
 | n+1,i,ρ,Q,H=>match it.at H i with
  | Option.none=>Q .next ρ H
  | some v=>body (ρ.set x (some v)) (fun fl ρ' H₂=>match fl with
    | .ret v=>Q (.ret v) ρ' H₂
    | _=>aK body x it n (i+1) ρ' Q H₂) H
noncomputable def iI (body:D7->E6->Heap->Prop) (x y:Nat) (it:It):Nat->Nat->D7->E6->Heap->Prop
 | 0,_,_,_,_=>False
 | n+1,i,ρ,Q,H=>match it.at H i with
  | Option.none=>Q .next ρ H
  | some v=>body ((ρ.set x (some (.int (i:Int)))).set y (some v)) (fun fl ρ' H₂=>match fl with
    | .ret v=>Q (.ret v) ρ' H₂
    | _=>iI body x y it n (i+1) ρ' Q H₂) H
mutual
noncomputable def iC (C:Calls):S->D7->E6->Heap->Prop
 | .assign x e,ρ,Q,H=>E2 C e ρ (fun v H₁=>Q .next (ρ.set x (some v)) H₁) H
 | .setIdx o i e,ρ,Q,H=>E2 C e ρ (fun v H₁=>E2 C o ρ (fun vo H₂=>E2 C i ρ (fun vi H₃=>hea (Cp2 vo vi v H₃) (fun zz H₄=>Q .next ρ H₄)) H₂) H₁) H
 | .expr e,ρ,Q,H=>E2 C e ρ (fun zz H₁=>Q .next ρ H₁) H
 | .ite c t f,ρ,Q,H=>E2 C c ρ (fun v H₁=>boo (I7 v) (fun b H₁=>match b with
   | true=>C6 C t ρ Q H₁
   | false=>C6 C f ρ Q H₁) H₁) H
 | .whl c b,ρ,Q,H=>∃ n,gO (E2 C c) (C6 C b) n ρ Q H
 | .forIn x e b,ρ,Q,H=>E2 C e ρ (fun v H₁=>match iterV v with
   | some it=>∃ n,aK (C6 C b) x it n 0 ρ Q H₁
   | Option.none=>False) H
 | .forR x e b,ρ,Q,H=>E2 C e ρ (fun v H₁=>match rangeV v with
   | some it=>∃ n,aK (C6 C b) x it n 0 ρ Q H₁
   | Option.none=>False) H
 | .forEnum x y e b,ρ,Q,H=>E2 C e ρ (fun v H₁=>match v with
   | .ref a=>∃ n,iI (C6 C b) x y (.lst a) n 0 ρ Q H₁
   | _=>False) H
 | .ret e,ρ,Q,H=>E2 C e ρ (fun v H₁=>Q (.ret v) ρ H₁) H
 | .retNone,ρ,Q,H=>Q (.ret .none) ρ H
 | .cont,ρ,Q,H=>Q .cont ρ H
 | .pass,ρ,Q,H=>Q .next ρ H
 | .raise _ _,_,_,_=>False
noncomputable def C6 (C:Calls):List S->D7->E6->Heap->Prop
 | [],ρ,Q,H=>Q .next ρ H
 | s::ss,ρ,Q,H=>iC C s ρ (fun fl ρ' H₁=>match fl with
   | .next=>C6 C ss ρ' Q H₁
   | fl=>Q fl ρ' H₁) H
end
noncomputable def frame (f:Fn) (vs:List V):D7:=vs.map some++List.replicate (f.names.length - f.params) Option.none
noncomputable def callN (P:Prg):Nat->Calls
 | 0,_,_,_,_=>False
 | n+1,f,vs,Q,H=>match P f with
  | some fn=>vs.length=fn.params/\C6 (callN P n) fn.body (frame fn vs) (fun fl zz H₁=>match fl with
   | .ret v=>Q v H₁
   | _=>Q .none H₁) H
  | Option.none=>False
end Mini
namespace Mini
open PySem (Expr Stmt Str NameKind Scope Const Operator CmpOp BoolOp UnaryOp Arguments Comprehension Keyword Pos ExceptHandler)
noncomputable def aU (re:PySem.Expr) (q:BoolOp->List Expr->Pos->Bool):Bool:=if h:re.ctorIdx=0 then PySem.Expr.BoolOp.elim (motive_1:=fun zz=>Bool) re h q else false
theorem cE {re:PySem.Expr}{q:BoolOp->List Expr->Pos->Bool}(h:aU re q=true):re.ctorIdx=0:=Classical.byContradiction fun hk=>by rw [aU,dif_neg hk] at h;cases h
theorem mX {re:PySem.Expr}{q:BoolOp->List Expr->Pos->Bool}{P:Prop}(h:aU re q=true) (k:∀ op es p,re=.BoolOp op es p->q op es p=true->P):P:=by
 have hk:=cE h
 revert h k
 exact PySem.Expr.BoolOp.elim (motive_1:=fun re=>aU re q=true->(∀ op es p,re=.BoolOp op es p->q op es p=true->P)->P) re hk (fun op es p h k=>k op es p rfl h)
noncomputable def iQ (re:PySem.Expr) (q:Expr->Operator->Expr->Pos->Bool):Bool:=if h:re.ctorIdx=2 then PySem.Expr.BinOp.elim (motive_1:=fun zz=>Bool) re h q else false
theorem mY {re:PySem.Expr}{q:Expr->Operator->Expr->Pos->Bool}(h:iQ re q=true):re.ctorIdx=2:=Classical.byContradiction fun hk=>by rw [iQ,dif_neg hk] at h;cases h
theorem Aq1 {re:PySem.Expr}{q:Expr->Operator->Expr->Pos->Bool}{P:Prop}(h:iQ re q=true) (k:∀ l o r p,re=.BinOp l o r p->q l o r p=true->P):P:=by
 have hk:=mY h
 revert h k
 exact PySem.Expr.BinOp.elim (motive_1:=fun re=>iQ re q=true->(∀ l o r p,re=.BinOp l o r p->q l o r p=true->P)->P) re hk (fun l o r p h k=>k l o r p rfl h)
noncomputable def Z9 (re:PySem.Expr) (q:UnaryOp->Expr->Pos->Bool):Bool:=if h:re.ctorIdx=3 then PySem.Expr.UnaryOp.elim (motive_1:=fun zz=>Bool) re h q else false
theorem mU {re:PySem.Expr}{q:UnaryOp->Expr->Pos->Bool}(h:Z9 re q=true):re.ctorIdx=3:=Classical.byContradiction fun hk=>by rw [Z9,dif_neg hk] at h;cases h
theorem rD {re:PySem.Expr}{q:UnaryOp->Expr->Pos->Bool}{P:Prop}(h:Z9 re q=true) (k:∀ o e p,re=.UnaryOp o e p->q o e p=true->P):P:=by
 have hk:=mU h
 revert h k
 exact PySem.Expr.UnaryOp.elim (motive_1:=fun re=>Z9 re q=true->(∀ o e p,re=.UnaryOp o e p->q o e p=true->P)->P) re hk (fun o e p h k=>k o e p rfl h)
noncomputable def kR (re:PySem.Expr) (q:Expr->List Comprehension->Scope->Pos->Bool):Bool:=if h:re.ctorIdx=8 then PySem.Expr.ListComp.elim (motive_1:=fun zz=>Bool) re h q else false
theorem gW {re:PySem.Expr}{q:Expr->List Comprehension->Scope->Pos->Bool}(h:kR re q=true):re.ctorIdx=8:=Classical.byContradiction fun hk=>by rw [kR,dif_neg hk] at h;cases h
theorem uE {re:PySem.Expr}{q:Expr->List Comprehension->Scope->Pos->Bool}{P:Prop}(h:kR re q=true) (k:∀ e g sc p,re=.ListComp e g sc p->q e g sc p=true->P):P:=by
 have hk:=gW h
 revert h k
 exact PySem.Expr.ListComp.elim (motive_1:=fun re=>kR re q=true->(∀ e g sc p,re=.ListComp e g sc p->q e g sc p=true->P)->P) re hk (fun e g sc p h k=>k e g sc p rfl h)
noncomputable def T2 (re:PySem.Expr) (q:Expr->List CmpOp->List Expr->Pos->Bool):Bool:=if h:re.ctorIdx=15 then PySem.Expr.Compare.elim (motive_1:=fun zz=>Bool) re h q else false
theorem R9 {re:PySem.Expr}{q:Expr->List CmpOp->List Expr->Pos->Bool}(h:T2 re q=true):re.ctorIdx=15:=Classical.byContradiction fun hk=>by rw [T2,dif_neg hk] at h;cases h
theorem X3 {re:PySem.Expr}{q:Expr->List CmpOp->List Expr->Pos->Bool}{P:Prop}(h:T2 re q=true) (k:∀ l os rs p,re=.Compare l os rs p->q l os rs p=true->P):P:=by
 have hk:=R9 h
 revert h k
 exact PySem.Expr.Compare.elim (motive_1:=fun re=>T2 re q=true->(∀ l os rs p,re=.Compare l os rs p->q l os rs p=true->P)->P) re hk (fun l os rs p h k=>k l os rs p rfl h)
noncomputable def Y0 (re:PySem.Expr) (q:Expr->List Expr->List Keyword->Pos->Bool):Bool:=if h:re.ctorIdx=16 then PySem.Expr.Call.elim (motive_1:=fun zz=>Bool) re h q else false
theorem K2 {re:PySem.Expr}{q:Expr->List Expr->List Keyword->Pos->Bool}(h:Y0 re q=true):re.ctorIdx=16:=Classical.byContradiction fun hk=>by rw [Y0,dif_neg hk] at h;cases h
theorem X6 {re:PySem.Expr}{q:Expr->List Expr->List Keyword->Pos->Bool}{P:Prop}(h:Y0 re q=true) (k:∀ f as ks p,re=.Call f as ks p->q f as ks p=true->P):P:=by
 have hk:=K2 h
 revert h k
 exact PySem.Expr.Call.elim (motive_1:=fun re=>Y0 re q=true->(∀ f as ks p,re=.Call f as ks p->q f as ks p=true->P)->P) re hk (fun f as ks p h k=>k f as ks p rfl h)
noncomputable def S0 (re:PySem.Expr) (q:Const->Nat->Pos->Bool):Bool:=if h:re.ctorIdx=19 then PySem.Expr.Constant.elim (motive_1:=fun zz=>Bool) re h q else false
theorem W3 {re:PySem.Expr}{q:Const->Nat->Pos->Bool}(h:S0 re q=true):re.ctorIdx=19:=Classical.byContradiction fun hk=>by rw [S0,dif_neg hk] at h;cases h
theorem Q7 {re:PySem.Expr}{q:Const->Nat->Pos->Bool}{P:Prop}(h:S0 re q=true) (k:∀ c u p,re=.Constant c u p->q c u p=true->P):P:=by
 have hk:=W3 h
 revert h k
 exact PySem.Expr.Constant.elim (motive_1:=fun re=>S0 re q=true->(∀ c u p,re=.Constant c u p->q c u p=true->P)->P) re hk (fun c u p h k=>k c u p rfl h)
noncomputable def pO (re:PySem.Expr) (q:Expr->Str->Pos->Bool):Bool:=if h:re.ctorIdx=20 then PySem.Expr.Attribute.elim (motive_1:=fun zz=>Bool) re h q else false
theorem Aq2 {re:PySem.Expr}{q:Expr->Str->Pos->Bool}(h:pO re q=true):re.ctorIdx=20:=Classical.byContradiction fun hk=>by rw [pO,dif_neg hk] at h;cases h
theorem Bf4 {re:PySem.Expr}{q:Expr->Str->Pos->Bool}{P:Prop}(h:pO re q=true) (k:∀ e a p,re=.Attribute e a p->q e a p=true->P):P:=by
 have hk:=Aq2 h
 revert h k
 exact PySem.Expr.Attribute.elim (motive_1:=fun re=>pO re q=true->(∀ e a p,re=.Attribute e a p->q e a p=true->P)->P) re hk (fun e a p h k=>k e a p rfl h)
noncomputable def iH (re:PySem.Expr) (q:Expr->Expr->Pos->Bool):Bool:=if h:re.ctorIdx=21 then PySem.Expr.Subscript.elim (motive_1:=fun zz=>Bool) re h q else false
theorem bF {re:PySem.Expr}{q:Expr->Expr->Pos->Bool}(h:iH re q=true):re.ctorIdx=21:=Classical.byContradiction fun hk=>by rw [iH,dif_neg hk] at h;cases h
theorem dL {re:PySem.Expr}{q:Expr->Expr->Pos->Bool}{P:Prop}(h:iH re q=true) (k:∀ e i p,re=.Subscript e i p->q e i p=true->P):P:=by
 have hk:=bF h
 revert h k
 exact PySem.Expr.Subscript.elim (motive_1:=fun re=>iH re q=true->(∀ e i p,re=.Subscript e i p->q e i p=true->P)->P) re hk (fun e i p h k=>k e i p rfl h)
noncomputable def Q1 (re:PySem.Expr) (q:Str->Pos->Bool):Bool:=if h:re.ctorIdx=23 then PySem.Expr.Name.elim (motive_1:=fun zz=>Bool) re h q else false
theorem gV {re:PySem.Expr}{q:Str->Pos->Bool}(h:Q1 re q=true):re.ctorIdx=23:=Classical.byContradiction fun hk=>by rw [Q1,dif_neg hk] at h;cases h
theorem M3 {re:PySem.Expr}{q:Str->Pos->Bool}{P:Prop}(h:Q1 re q=true) (k:∀ i p,re=.Name i p->q i p=true->P):P:=by
 have hk:=gV h
 revert h k
 exact PySem.Expr.Name.elim (motive_1:=fun re=>Q1 re q=true->(∀ i p,re=.Name i p->q i p=true->P)->P) re hk (fun i p h k=>k i p rfl h)
noncomputable def pM (re:PySem.Expr) (q:List Expr->Pos->Bool):Bool:=if h:re.ctorIdx=24 then PySem.Expr.List.elim (motive_1:=fun zz=>Bool) re h q else false
theorem rF {re:PySem.Expr}{q:List Expr->Pos->Bool}(h:pM re q=true):re.ctorIdx=24:=Classical.byContradiction fun hk=>by rw [pM,dif_neg hk] at h;cases h
theorem Bf0 {re:PySem.Expr}{q:List Expr->Pos->Bool}{P:Prop}(h:pM re q=true) (k:∀ es p,re=.List es p->q es p=true->P):P:=by
 have hk:=rF h
 revert h k
 exact PySem.Expr.List.elim (motive_1:=fun re=>pM re q=true->(∀ es p,re=.List es p->q es p=true->P)->P) re hk (fun es p h k=>k es p rfl h)
noncomputable def eM (re:PySem.Expr) (q:List Expr->Nat->Pos->Bool):Bool:=if h:re.ctorIdx=25 then PySem.Expr.Tuple.elim (motive_1:=fun zz=>Bool) re h q else false
theorem mV {re:PySem.Expr}{q:List Expr->Nat->Pos->Bool}(h:eM re q=true):re.ctorIdx=25:=Classical.byContradiction fun hk=>by rw [eM,dif_neg hk] at h;cases h
theorem rE {re:PySem.Expr}{q:List Expr->Nat->Pos->Bool}{P:Prop}(h:eM re q=true) (k:∀ es u p,re=.Tuple es u p->q es u p=true->P):P:=by
 have hk:=mV h
 revert h k
 exact PySem.Expr.Tuple.elim (motive_1:=fun re=>eM re q=true->(∀ es u p,re=.Tuple es u p->q es u p=true->P)->P) re hk (fun es u p h k=>k es u p rfl h)
noncomputable def bW (re:PySem.Expr) (q:Option Expr->Option Expr->Option Expr->Pos->Bool):Bool:=if h:re.ctorIdx=26 then PySem.Expr.Slice.elim (motive_1:=fun zz=>Bool) re h q else false
theorem Ag7 {re:PySem.Expr}{q:Option Expr->Option Expr->Option Expr->Pos->Bool}(h:bW re q=true):re.ctorIdx=26:=Classical.byContradiction fun hk=>by rw [bW,dif_neg hk] at h;cases h
theorem gU {re:PySem.Expr}{q:Option Expr->Option Expr->Option Expr->Pos->Bool}{P:Prop}(h:bW re q=true) (k:∀ l u st p,re=.Slice l u st p->q l u st p=true->P):P:=by
 have hk:=Ag7 h
 revert h k
 exact PySem.Expr.Slice.elim (motive_1:=fun re=>bW re q=true->(∀ l u st p,re=.Slice l u st p->q l u st p=true->P)->P) re hk (fun l u st p h k=>k l u st p rfl h)
noncomputable def aT (re:PySem.Stmt) (q:Option Expr->Pos->Bool):Bool:=if h:re.ctorIdx=3 then PySem.Stmt.Return.elim (motive_2:=fun zz=>Bool) re h q else false
theorem xY {re:PySem.Stmt}{q:Option Expr->Pos->Bool}(h:aT re q=true):re.ctorIdx=3:=Classical.byContradiction fun hk=>by rw [aT,dif_neg hk] at h;cases h
theorem mW {re:PySem.Stmt}{q:Option Expr->Pos->Bool}{P:Prop}(h:aT re q=true) (k:∀ v p,re=.Return v p->q v p=true->P):P:=by
 have hk:=xY h
 revert h k
 exact PySem.Stmt.Return.elim (motive_2:=fun re=>aT re q=true->(∀ v p,re=.Return v p->q v p=true->P)->P) re hk (fun v p h k=>k v p rfl h)
noncomputable def Y3 (re:PySem.Stmt) (q:List Expr->Expr->Pos->Bool):Bool:=if h:re.ctorIdx=5 then PySem.Stmt.Assign.elim (motive_2:=fun zz=>Bool) re h q else false
theorem xZ {re:PySem.Stmt}{q:List Expr->Expr->Pos->Bool}(h:Y3 re q=true):re.ctorIdx=5:=Classical.byContradiction fun hk=>by rw [Y3,dif_neg hk] at h;cases h
theorem mZ {re:PySem.Stmt}{q:List Expr->Expr->Pos->Bool}{P:Prop}(h:Y3 re q=true) (k:∀ ts v p,re=.Assign ts v p->q ts v p=true->P):P:=by
 have hk:=xZ h
 revert h k
 exact PySem.Stmt.Assign.elim (motive_2:=fun re=>Y3 re q=true->(∀ ts v p,re=.Assign ts v p->q ts v p=true->P)->P) re hk (fun ts v p h k=>k ts v p rfl h)
noncomputable def pC (re:PySem.Stmt) (q:Expr->Expr->List Stmt->List Stmt->Pos->Bool):Bool:=if h:re.ctorIdx=9 then PySem.Stmt.For.elim (motive_2:=fun zz=>Bool) re h q else false
theorem Bf1 {re:PySem.Stmt}{q:Expr->Expr->List Stmt->List Stmt->Pos->Bool}(h:pC re q=true):re.ctorIdx=9:=Classical.byContradiction fun hk=>by rw [pC,dif_neg hk] at h;cases h
theorem qD {re:PySem.Stmt}{q:Expr->Expr->List Stmt->List Stmt->Pos->Bool}{P:Prop}(h:pC re q=true) (k:∀ t i b o p,re=.For t i b o p->q t i b o p=true->P):P:=by
 have hk:=Bf1 h
 revert h k
 exact PySem.Stmt.For.elim (motive_2:=fun re=>pC re q=true->(∀ t i b o p,re=.For t i b o p->q t i b o p=true->P)->P) re hk (fun t i b o p h k=>k t i b o p rfl h)
noncomputable def iO (re:PySem.Stmt) (q:Expr->List Stmt->List Stmt->Pos->Bool):Bool:=if h:re.ctorIdx=11 then PySem.Stmt.While.elim (motive_2:=fun zz=>Bool) re h q else false
theorem Ag6 {re:PySem.Stmt}{q:Expr->List Stmt->List Stmt->Pos->Bool}(h:iO re q=true):re.ctorIdx=11:=Classical.byContradiction fun hk=>by rw [iO,dif_neg hk] at h;cases h
theorem Ap7 {re:PySem.Stmt}{q:Expr->List Stmt->List Stmt->Pos->Bool}{P:Prop}(h:iO re q=true) (k:∀ t b o p,re=.While t b o p->q t b o p=true->P):P:=by
 have hk:=Ag6 h
 revert h k
 exact PySem.Stmt.While.elim (motive_2:=fun re=>iO re q=true->(∀ t b o p,re=.While t b o p->q t b o p=true->P)->P) re hk (fun t b o p h k=>k t b o p rfl h)
noncomputable def Bj0 (re:PySem.Stmt) (q:Expr->List Stmt->List Stmt->Pos->Bool):Bool:=if h:re.ctorIdx=12 then PySem.Stmt.If.elim (motive_2:=fun zz=>Bool) re h q else false
theorem Bv1 {re:PySem.Stmt}{q:Expr->List Stmt->List Stmt->Pos->Bool}(h:Bj0 re q=true):re.ctorIdx=12:=Classical.byContradiction fun hk=>by rw [Bj0,dif_neg hk] at h;cases h
theorem Cg0 {re:PySem.Stmt}{q:Expr->List Stmt->List Stmt->Pos->Bool}{P:Prop}(h:Bj0 re q=true) (k:∀ t b o p,re=.If t b o p->q t b o p=true->P):P:=by
 have hk:=Bv1 h
 revert h k
 exact PySem.Stmt.If.elim (motive_2:=fun re=>Bj0 re q=true->(∀ t b o p,re=.If t b o p->q t b o p=true->P)->P) re hk (fun t b o p h k=>k t b o p rfl h)
noncomputable def iP (re:PySem.Stmt) (q:Option Expr->Option Expr->Pos->Bool):Bool:=if h:re.ctorIdx=16 then PySem.Stmt.Raise.elim (motive_2:=fun zz=>Bool) re h q else false
theorem Ag8 {re:PySem.Stmt}{q:Option Expr->Option Expr->Pos->Bool}(h:iP re q=true):re.ctorIdx=16:=Classical.byContradiction fun hk=>by rw [iP,dif_neg hk] at h;cases h
theorem Ap8 {re:PySem.Stmt}{q:Option Expr->Option Expr->Pos->Bool}{P:Prop}(h:iP re q=true) (k:∀ e c p,re=.Raise e c p->q e c p=true->P):P:=by
 have hk:=Ag8 h
 revert h k
 exact PySem.Stmt.Raise.elim (motive_2:=fun re=>iP re q=true->(∀ e c p,re=.Raise e c p->q e c p=true->P)->P) re hk (fun e c p h k=>k e c p rfl h)
noncomputable def zF (re:PySem.Stmt) (q:List Stmt->List ExceptHandler->List Stmt->List Stmt->Pos->Bool):Bool:=if h:re.ctorIdx=17 then PySem.Stmt.Try.elim (motive_2:=fun zz=>Bool) re h q else false
theorem Be8 {re:PySem.Stmt}{q:List Stmt->List ExceptHandler->List Stmt->List Stmt->Pos->Bool}(h:zF re q=true):re.ctorIdx=17:=Classical.byContradiction fun hk=>by rw [zF,dif_neg hk] at h;cases h
theorem Bu8 {re:PySem.Stmt}{q:List Stmt->List ExceptHandler->List Stmt->List Stmt->Pos->Bool}{P:Prop}(h:zF re q=true) (k:∀ b hs o f p,re=.Try b hs o f p->q b hs o f p=true->P):P:=by
 have hk:=Be8 h
 revert h k
 exact PySem.Stmt.Try.elim (motive_2:=fun re=>zF re q=true->(∀ b hs o f p,re=.Try b hs o f p->q b hs o f p=true->P)->P) re hk (fun b hs o f p h k=>k b hs o f p rfl h)
noncomputable def pN (re:PySem.Stmt) (q:Expr->Pos->Bool):Bool:=if h:re.ctorIdx=24 then PySem.Stmt.Expr.elim (motive_2:=fun zz=>Bool) re h q else false
theorem Aq0 {re:PySem.Stmt}{q:Expr->Pos->Bool}(h:pN re q=true):re.ctorIdx=24:=Classical.byContradiction fun hk=>by rw [pN,dif_neg hk] at h;cases h
theorem Bf2 {re:PySem.Stmt}{q:Expr->Pos->Bool}{P:Prop}(h:pN re q=true) (k:∀ v p,re=.Expr v p->q v p=true->P):P:=by
 have hk:=Aq0 h
 revert h k
 exact PySem.Stmt.Expr.elim (motive_2:=fun re=>pN re q=true->(∀ v p,re=.Expr v p->q v p=true->P)->P) re hk (fun v p h k=>k v p rfl h)
noncomputable def pL (re:PySem.Stmt) (q:Pos->Bool):Bool:=if h:re.ctorIdx=25 then PySem.Stmt.Pass.elim (motive_2:=fun zz=>Bool) re h q else false
theorem Ap9 {re:PySem.Stmt}{q:Pos->Bool}(h:pL re q=true):re.ctorIdx=25:=Classical.byContradiction fun hk=>by rw [pL,dif_neg hk] at h;cases h
theorem Be9 {re:PySem.Stmt}{q:Pos->Bool}{P:Prop}(h:pL re q=true) (k:∀ p,re=.Pass p->q p=true->P):P:=by
 have hk:=Ap9 h
 revert h k
 exact PySem.Stmt.Pass.elim (motive_2:=fun re=>pL re q=true->(∀ p,re=.Pass p->q p=true->P)->P) re hk (fun p h k=>k p rfl h)
noncomputable def Y8 (re:PySem.Stmt) (q:Pos->Bool):Bool:=if h:re.ctorIdx=27 then PySem.Stmt.Continue.elim (motive_2:=fun zz=>Bool) re h q else false
theorem sP {re:PySem.Stmt}{q:Pos->Bool}(h:Y8 re q=true):re.ctorIdx=27:=Classical.byContradiction fun hk=>by rw [Y8,dif_neg hk] at h;cases h
theorem tD {re:PySem.Stmt}{q:Pos->Bool}{P:Prop}(h:Y8 re q=true) (k:∀ p,re=.Continue p->q p=true->P):P:=by
 have hk:=sP h
 revert h k
 exact PySem.Stmt.Continue.elim (motive_2:=fun re=>Y8 re q=true->(∀ p,re=.Continue p->q p=true->P)->P) re hk (fun p h k=>k p rfl h)
end Mini
namespace Mini
open PySem (Expr Stmt Str NameKind Scope Const Operator CmpOp BoolOp UnaryOp Arguments Comprehension Keyword Pos)
structure Gl where
 intL:List (String×Int)
 fns:List (String×List Nat)
 lits:List Nat:=[]
 pos:Bool:=true
noncomputable def S8 (sc:List (Str×NameKind)) (id:Str):Bool:=match sc.lookup id with
 | some .local=>true
 | some .cell=>true
 | some .free=>true
 | _=>false
noncomputable def T9 (sc:List (Str×NameKind)) (id:Str):Bool:=match sc.lookup id with
 | some .globalImplicit=>true
 | _=>false
noncomputable def N3 (id:Str):Bool:=!(id==("__debug__" : Str))&&!(id==("__classdict__" : Str))
noncomputable def Cy1 (s:List Nat) (x:Str):Bool:=s==x.cps.toList
noncomputable def Q4 (sc:List (Str×NameKind)) (n:String) (e:Expr):Bool:=Q1 e fun id zz=>id==Str.ofString n&&T9 sc id
noncomputable def one? {α:Type}(l:List α) (q:α->Bool):Bool:=match l with
 | [x]=>q x
 | _=>false
theorem R5 {α:Type}{l:List α}{q:α->Bool}(h:one? l q=true) {P:Prop}(k:∀ x,l=[x]->q x=true->P):P:=by
 match l,h,k with
 | [x],h,k=>exact k x rfl h
noncomputable def two? {α:Type}(l:List α) (q:α->α->Bool):Bool:=match l with
 | [x,y]=>q x y
 | _=>false
theorem pJ {α:Type}{l:List α}{q:α->α->Bool}(h:two? l q=true) {P:Prop}(k:∀ x y,l=[x,y]->q x y=true->P):P:=by
 match l,h,k with
 | [x,y],h,k=>exact k x y rfl h
theorem T8 {α:Type}{l:List α}(h:l.isEmpty=true):l=[]:=List.isEmpty_iff.mp h
theorem C3 {a b:Bool}(h:(a&&b)=true):a=true/\b=true:=by
 cases a
 ·cases h
 ·exact ⟨rfl,h⟩
noncomputable def some? {α:Type}(o:Option α) (q:α->Bool):Bool:=match o with
 | some x=>q x
 | none=>false
theorem bV {α:Type}{o:Option α}{q:α->Bool}(h:some? o q=true) {P:Prop}(k:∀ x,o=some x->q x=true->P):P:=by
 match o,h,k with
 | some x,h,k=>exact k x rfl h
theorem aA {α:Type}{o:Option α}(h:o.isNone=true):o=none:=by
 match o,h with
 | none,_=>rfl
noncomputable def wZ:Const->Bool
 | .none=>true
 | _=>false
noncomputable def iR (b:Bool):Const->Bool
 | .bool c=>b==c
 | _=>false
noncomputable def Al7 (i:Int):Const->Bool
 | .int j=>i==j
 | _=>false
noncomputable def Al6 (s:List Nat):Const->Bool
 | .str x=>Cy1 s x&&decide (s.length<=I3)
 | _=>false
theorem rG {c:Const}(h:wZ c=true):c=.none:=by
 cases c with
 | none=>rfl
 | _=>exact nomatch (show false=true from h)
theorem cB {b:Bool}{c:Const}(h:iR b c=true):c=.bool b:=by
 cases c with
 | bool x=>exact congrArg _ (eq_of_beq h).symm
 | _=>exact nomatch (show false=true from h)
theorem uG {i:Int}{c:Const}(h:Al7 i c=true):c=.int i:=by
 cases c with
 | int x=>exact congrArg _ (eq_of_beq h).symm
 | _=>exact nomatch (show false=true from h)
theorem uF {s:List Nat}{c:Const}(h:Al6 s c=true) {P:Prop}(k:∀ x,c=.str x->s=x.cps.toList->s.length<=I3->P):P:=by
 cases c with
 | str x=>exact k _ rfl (eq_of_beq (C3 h).1) (of_decide_eq_true (C3 h).2)
 | _=>exact nomatch (show false=true from h)
noncomputable def Aj8 (e:Expr):Bool:=!(Y0 e fun zz as ks zz=>as.isEmpty&&ks.isEmpty)
noncomputable def Al5 (e:E):Bool:=e.ctorIdx==3
noncomputable def wK (gl:Gl) (f:String) (es:List E):Bool:=match gl.fns.lookup f with
 | some l=>(gl.pos||l.isEmpty)&&l.all fun j=>(es[j]?).any Al5
 | none=>false
noncomputable def Dg4 (gl:Gl) (e:E):Bool:=(Al5 e&&gl.pos)||(if h:e.ctorIdx=4 then E.var.elim (motive_1:=fun zz=>Bool) e h fun x=>gl.lits.contains x else false)
noncomputable def Dd9:Op->Operator
 | .add=>.Add
 | .sub=>.Sub
 | .mul=>.Mult
 | .fdiv=>.FloorDiv
 | .mod=>.Mod
 | .pow=>.Pow
noncomputable def Cp3 (o:Op) (o':Operator):Bool:=o'==Dd9 o
noncomputable def Cz0:Cmp->CmpOp
 | .eq=>.Eq
 | .ne=>.NotEq
 | .lt=>.Lt
 | .le=>.LtE
 | .gt=>.Gt
 | .ge=>.GtE
 | .isin=>.In
 | .notin=>.NotIn
noncomputable def pE (o:Cmp) (o':CmpOp):Bool:=o'==Cz0 o
noncomputable def cstC:Cst->Const->Bool
 | .none=>wZ
 | .tt=>iR true
 | .ff=>iR false
noncomputable def pD (c:Cst) (e:Expr):Bool:=S0 e fun k zz zz=>cstC c k
noncomputable def Ak8:Ty->String
 | .str => "str"
 | .int => "int"
 | .bool => "bool"
 | .list => "list"
 | .tuple => "tuple"
noncomputable def R2 (sc names:List (Str×NameKind)):List (Str×NameKind) :=
 names.map fun (n,k)=>if k==.free&&sc.lookup n==some .cell then (n,.cell) else (n,k)
noncomputable def Q9 (sc:List (Str×NameKind)) (nm:List Str) (id:Str) (scope:Scope):Bool :=
 scope.kind==.function&&scope.names.lookup id==some .local &&
 scope.names.all (fun x=>x.2 != .cell&&(x.2 != .local||(scope.names.lookup x.1==some .local&&(x.1==id||!nm.contains x.1)))) &&
 scope.names.all (fun x=>x.2 != .free||(nm.contains x.1&&(sc.lookup x.1==some .cell||sc.lookup x.1==some .free)))
theorem eO {f:Expr}{as as':List Expr}{ks:List Keyword}{p:Pos}(h1:as=as') (h2:ks=[]):Expr.Call f as ks p=.Call f as' [] p:=by rw [h1,h2]
theorem wJ {l:Expr}{os os':List CmpOp}{rs rs':List Expr}{p:Pos}(h1:os=os') (h2:rs=rs'):Expr.Compare l os rs p=.Compare l os' rs' p:=by rw [h1,h2]
theorem Al0 {o i:Expr}{a a' b b' c:Option Expr}{p q:Pos}(h:i=.Slice a b c q) (h1:a=a') (h2:b=b') (h3:c=none):Expr.Subscript o i p=.Subscript o (.Slice a' b' none q) p:=by rw [h,h1,h2,h3]
noncomputable def Ak0 (sc:List (Str×NameKind)) (n:String) (re:Expr) (q:Expr->Bool):Bool:=Y0 re fun f as ks zz=>Q4 sc n f&&ks.isEmpty&&one? as q
theorem eN {sc n re q}(h0:Ak0 sc n re q=true) {P:Prop}(k:∀ f e p,re=.Call f [e] [] p->Q4 sc n f=true->q e=true->P):P :=
 X6 h0 fun f zz zz p e1 h=>R5 (C3 h).2 fun e e3 h3=>k f e p (e1.trans (eO e3 (T8 (C3 (C3 h).1).2))) (C3 (C3 h).1).1 h3
noncomputable def Cm3 (sc:List (Str×NameKind)) (re:Expr) (q:Expr->Bool):Bool:=Y0 re fun f as ks zz=>Q4 sc "sorted" f&&(one? ks fun k=>k.arg==some (Str.ofString "reverse")&&S0 k.value fun c zz zz=>iR true c)&&one? as q
theorem Bu9 {sc re q}(h0:Cm3 sc re q=true) {P:Prop}(k:∀ f e kp k1 k2 p,re=.Call f [e] [⟨some (Str.ofString "reverse"),.Constant (.bool true) k1 k2,kp⟩] p->Q4 sc "sorted" f=true->q e=true->P):P :=
 X6 h0 fun f zz zz p e1 h=>R5 (C3 h).2 fun e e3 h3=>R5 (C3 (C3 h).1).2 fun kw e4 h4=>Q7 (C3 h4).2 fun zz k1 k2 e5 h5 =>
  k f e kw.pos k1 k2 p (e1.trans (by
   have e6:kw.arg=some (Str.ofString "reverse"):=eq_of_beq (C3 h4).1
   obtain ⟨ka,kv,kp⟩:=kw
   obtain rfl:ka=_:=e6
   obtain rfl:kv=_:=e5
   rw [e3,e4,cB h5])) (C3 (C3 h).1).1 h3
noncomputable def onM (n:String) (re:Expr) (q:Expr->List Expr->Bool):Bool:=Y0 re fun f as ks p=>ks.isEmpty&&pO f fun o a ap=>a==Str.ofString n&&ap.endLine==p.line&&Aj8 o&&q o as
theorem Al1 {n re q}(h0:onM n re q=true) {P:Prop}(k:∀ o as ap p,re=.Call (.Attribute o (Str.ofString n) ap) as [] p->(ap.endLine==p.line)=true->Aj8 o=true->q o as=true->P):P :=
 X6 h0 fun zz as zz p e1 h=>Bf4 (C3 h).2 fun o zz ap e2 h4 =>
  k o as ap p (e1.trans (by rw [e2,eq_of_beq (C3 (C3 (C3 h4).1).1).1,T8 (C3 h).1])) (C3 (C3 (C3 h4).1).1).2 (C3 (C3 h4).1).2 (C3 h4).2
noncomputable def Bj7 (g:List Comprehension) (q:Str->Expr->List Expr->Bool):Bool:=one? g fun c=>c.is_async==0&&Q1 c.target fun id zz=>q id c.iter c.ifs
theorem Ab2 {g q}(h:Bj7 g q=true) {P:Prop}(k:∀ id p it ifs,g=[⟨.Name id p,it,ifs,0⟩]->q id it ifs=true->P):P :=
 R5 h fun c e0 h=>M3 (C3 h).2 fun id p e h2=>k id p c.iter c.ifs (e0.trans (by
  have e3:c.is_async=0:=eq_of_beq (C3 h).1
  obtain ⟨t,it,ifs,n⟩:=c
  obtain rfl:t=_:=e
  obtain rfl:n=0:=e3
  rfl)) h2
mutual
noncomputable def D5 (gl:Gl) (sc:List (Str×NameKind)) (nm:List Str):E->Expr->Bool
 | .none,re=>S0 re fun c zz zz=>wZ c
 | .bool b,re=>S0 re fun c zz zz=>iR b c
 | .int i,re=>S0 re fun c zz zz=>Al7 i c
 | .str s,re=>S0 re fun c zz zz=>Al6 s c
 | .var x,re=>Q1 re fun id zz=>nm[x]? == some id&&S8 sc id&&N3 id
 | .glob g i,re=>Q1 re fun id zz=>id==Str.ofString g&&gl.intL.contains (g,i)&&T9 sc id&&N3 id
 | .bin o l r,re=>iQ re fun l' o' r' zz=>Cp3 o o'&&D5 gl sc nm l l'&&D5 gl sc nm r r'
 | .neg i,re=>Z9 re fun o e zz=>o==.USub&&S0 e fun c zz zz=>Al7 i c
 | .cmp o l r,re=>T2 re fun l' os rs zz=>one? os fun o'=>one? rs fun r'=>pE o o'&&D5 gl sc nm l l'&&D5 gl sc nm r r'
 | .cmp2 o p a b c,re=>T2 re fun a' os rs zz=>two? os fun o' p'=>two? rs fun b' c'=>pE o o'&&pE p p'&&D5 gl sc nm a a'&&D5 gl sc nm b b'&&D5 gl sc nm c c'
 | .is e c,re=>T2 re fun e' os rs zz=>one? os fun o'=>one? rs fun r=>o'==.Is&&(D5 gl sc nm e e'&&pD c r)
 | .isnot e c,re=>T2 re fun e' os rs zz=>one? os fun o'=>one? rs fun r=>o'==.IsNot&&(D5 gl sc nm e e'&&pD c r)
 | .and es,re=>aU re fun o es' zz=>o==.And&&J8 gl sc nm es es'
 | .or es,re=>aU re fun o es' zz=>o==.Or&&J8 gl sc nm es es'
 | .not e,re=>Z9 re fun o e' zz=>o==.Not&&D5 gl sc nm e e'
 | .idx o i,re=>iH re fun o' i' zz=>D5 gl sc nm o o'&&D5 gl sc nm i i'
 | .slc o l h,re=>iH re fun o' i' zz=>bW i' fun a b c zz=>c.isNone&&some? a fun l'=>some? b fun h'=>D5 gl sc nm o o'&&D5 gl sc nm l l'&&D5 gl sc nm h h'
 | .slcL o l,re=>iH re fun o' i' zz=>bW i' fun a b c zz=>b.isNone&&c.isNone&&some? a fun l'=>D5 gl sc nm o o'&&D5 gl sc nm l l'
 | .slcH o h,re=>iH re fun o' i' zz=>bW i' fun a b c zz=>a.isNone&&c.isNone&&some? b fun h'=>D5 gl sc nm o o'&&D5 gl sc nm h h'
 | .call f es,re=>Y0 re fun g es' ks zz=>ks.isEmpty&&Q1 g fun id zz=>id==Str.ofString f&&wK gl f es&&T9 sc id&&N3 id&&J8 gl sc nm es es'
 | .isinst e t,re=>Y0 re fun fn as ks zz=>ks.isEmpty&&two? as fun e' ty=>Q4 sc "isinstance" fn&&Q4 sc (Ak8 t) ty&&D5 gl sc nm e e'
 | .len e,re=>Ak0 sc "len" re fun e'=>D5 gl sc nm e e'
 | .toInt e,re=>Ak0 sc "int" re fun e'=>D5 gl sc nm e e'
 | .ord e,re=>Ak0 sc "ord" re fun e'=>D5 gl sc nm e e'
 | .append o e,re=>onM "append" re fun o' as=>one? as fun e'=>D5 gl sc nm o o'&&D5 gl sc nm e e'
 | .extend o e,re=>onM "extend" re fun o' as=>one? as fun e'=>D5 gl sc nm o o'&&D5 gl sc nm e e'
 | .pop o,re=>onM "pop" re fun o' as=>as.isEmpty&&D5 gl sc nm o o'
 | .find o x y,re=>onM "find" re fun o' as=>two? as fun x' y'=>D5 gl sc nm o o'&&D5 gl sc nm x x'&&D5 gl sc nm y y'
 | .join o x,re=>onM "join" re fun o' as=>one? as fun x'=>D5 gl sc nm o o'&&D5 gl sc nm x x'
 | .split o x,re=>onM "split" re fun o' as=>one? as fun x'=>D5 gl sc nm o o'&&D5 gl sc nm x x'
 | .list es,re=>pM re fun es' zz=>J8 gl sc nm es es'&&decide (es.length<=I3)
 | .tup es,re=>eM re fun es' zz zz=>J8 gl sc nm es es'&&decide (es.length<=I3)
 | .comp elt x src ifs,re=>kR re fun elt' g scope zz=>Bj7 g fun id it ifs'=>nm[x]? == some id&&!gl.lits.contains x&&Q9 sc nm id scope&&D5 gl sc nm src it &&
   D5 gl (R2 sc scope.names) nm elt elt'&&J8 gl (R2 sc scope.names) nm ifs ifs'
 | .compR elt x n ifs,re=>kR re fun elt' g scope zz=>Bj7 g fun id it ifs'=>Ak0 sc "range" it fun n'=>nm[x]? == some id&&!gl.lits.contains x&&Q9 sc nm id scope&&D5 gl sc nm n n' &&
   D5 gl (R2 sc scope.names) nm elt elt'&&J8 gl (R2 sc scope.names) nm ifs ifs'
 | .sortedDown e,re=>Cm3 sc re fun e'=>D5 gl sc nm e e'
noncomputable def J8 (gl:Gl) (sc:List (Str×NameKind)) (nm:List Str):List E->List Expr->Bool
 | [],es'=>es'.isEmpty
 | e::es,es'=>match es' with
  | []=>false
  | e'::es'=>D5 gl sc nm e e'&&J8 gl sc nm es es'
end
noncomputable def Q8 (e:E):Bool:=!(e.ctorIdx==33||e.ctorIdx==34)
mutual
noncomputable def aN (gl:Gl) (sc:List (Str×NameKind)) (nm:List Str):S->Stmt->Bool
 | .assign x e,re=>Y3 re fun ts e' zz=>one? ts fun t=>Q1 t fun id zz=>nm[x]? == some id&&S8 sc id&&sc.lookup id != some .free&&!gl.lits.contains x&&D5 gl sc nm e e'
 | .setIdx o i e,re=>Y3 re fun ts e' zz=>one? ts fun t=>iH t fun o' i' zz=>D5 gl sc nm o o'&&D5 gl sc nm i i'&&D5 gl sc nm e e'
 | .expr e,re=>pN re fun e' zz=>Q8 e&&D5 gl sc nm e e'
 | .ite c t f,re=>Bj0 re fun c' t' f' zz=>D5 gl sc nm c c'&&N7 gl sc nm t t'&&N7 gl sc nm f f'
 | .whl c b,re=>iO re fun c' b' o zz=>o.isEmpty&&(D5 gl sc nm c c'&&N7 gl sc nm b b')
 | .forIn x e b,re=>pC re fun t e' b' o zz=>o.isEmpty&&Q1 t fun id zz=>nm[x]? == some id&&S8 sc id&&sc.lookup id != some .free&&!gl.lits.contains x&&D5 gl sc nm e e'&&N7 gl sc nm b b'
 | .forR x e b,re=>pC re fun t it b' o zz=>o.isEmpty&&Q1 t fun id zz=>Ak0 sc "range" it fun e'=>nm[x]? == some id&&S8 sc id&&sc.lookup id != some .free&&!gl.lits.contains x&&D5 gl sc nm e e'&&N7 gl sc nm b b'
 | .ret e,re=>aT re fun v zz=>some? v fun e'=>D5 gl sc nm e e'
 | .retNone,re=>aT re fun v zz=>v.isNone
 | .cont,re=>Y8 re fun zz=>true
 | .pass,re=>pL re fun zz=>true
 | .raise c m,re=>iP re fun x y zz=>y.isNone&&some? x fun e=>Y0 e fun f as ks zz=>ks.isEmpty&&one? as (fun a=>S0 a fun k zz zz=>Al6 m k)&&Q1 f fun id zz=>id==Str.ofString c&&T9 sc id&&N3 id
 | .forEnum x y e b,re=>pC re fun t it b' o zz=>o.isEmpty&&eM t fun ts zz zz=>two? ts fun t1 t2=>Q1 t1 fun id zz=>Q1 t2 fun id' zz=>Ak0 sc "enumerate" it fun e'=>(nm[x]? == some id&&S8 sc id&&sc.lookup id != some .free&&!gl.lits.contains x)&&(nm[y]? == some id'&&S8 sc id'&&sc.lookup id' != some .free&&!gl.lits.contains y)&&D5 gl sc nm e e'&&N7 gl sc nm b b'
noncomputable def N7 (gl:Gl) (sc:List (Str×NameKind)) (nm:List Str):List S->List Stmt->Bool
 | [],ss'=>ss'.isEmpty
 | s::ss,ss'=>match ss' with
  | []=>false
  | s'::ss'=>aN gl sc nm s s'&&N7 gl sc nm ss ss'
end
section
variable {gl:Gl}{sc:List (Str×NameKind)}{nm:List Str}{re:Expr}
theorem Bv6 (h:D5 gl sc nm .none re=true) {P:Prop}(k:∀ k p,re=.Constant .none k p->P):P :=
 Q7 h fun zz u p e h =>
 k u p (e.trans (congrArg (Expr.Constant · u p) (rG h)))
theorem Bw2 {b}(h:D5 gl sc nm (.bool b) re=true) {P:Prop}(k:∀ k p,re=.Constant (.bool b) k p->P):P :=
 Q7 h fun zz u p e h =>
 k u p (e.trans (congrArg (Expr.Constant · u p) (cB h)))
theorem Cg6 {i}(h:D5 gl sc nm (.int i) re=true) {P:Prop}(k:∀ k p,re=.Constant (.int i) k p->P):P :=
 Q7 h fun zz u p e h =>
 k u p (e.trans (congrArg (Expr.Constant · u p) (uG h)))
theorem xA {s}(h:D5 gl sc nm (.str s) re=true) {P:Prop}(k:∀ x k p,re=.Constant (.str x) k p->s=x.cps.toList->s.length<=I3->P):P :=
 Q7 h fun zz u p e h =>
 uF h fun x e2 h h2 =>
 k x u p (e.trans (congrArg (Expr.Constant · u p) e2)) h h2
theorem Cg2 {x}(h:D5 gl sc nm (.var x) re=true) {P:Prop}(k:∀ id p,re=.Name id p->(nm[x]? == some id&&S8 sc id&&N3 id)=true->P):P:=M3 h k
theorem Bv8 {g i}(h:D5 gl sc nm (.glob g i) re=true) {P:Prop}(k:∀ id p,re=.Name id p->(id==Str.ofString g&&gl.intL.contains (g,i)&&T9 sc id&&N3 id)=true->P):P:=M3 h k
theorem Cg8 {o l r}(h:D5 gl sc nm (.bin o l r) re=true) {P:Prop}(k:∀ l' o' r' p,re=.BinOp l' o' r' p->(Cp3 o o'&&D5 gl sc nm l l'&&D5 gl sc nm r r')=true->P):P:=Aq1 h k
theorem Ay2 {i}(h:D5 gl sc nm (.neg i) re=true) {P:Prop}(k:∀ k p q,re=.UnaryOp .USub (.Constant (.int i) k p) q->P):P :=
 rD h fun zz zz p e h =>
 Q7 (C3 h).2 fun zz u q e2 h3 =>
 k u q p (e.trans (by rw [e2,uG h3,eq_of_beq (C3 h).1]))
theorem Ay4 {o l r}(h:D5 gl sc nm (.cmp o l r) re=true) {P:Prop}(k:∀ l' o' r' p,re=.Compare l' [o'] [r'] p->(pE o o'&&D5 gl sc nm l l'&&D5 gl sc nm r r')=true->P):P :=
 X3 h fun l' zz zz p e h =>
 R5 h fun o' e2 h =>
 R5 h fun r' e3 h =>
 k l' o' r' p (e.trans (wJ e2 e3)) h
theorem Ab5 {o p a b c}(h:D5 gl sc nm (.cmp2 o p a b c) re=true) {P:Prop}(k:∀ a' o' p' b' c' q,re=.Compare a' [o',p'] [b',c'] q->(pE o o'&&pE p p'&&D5 gl sc nm a a'&&D5 gl sc nm b b'&&D5 gl sc nm c c')=true->P):P :=
 X3 h fun l' zz zz q e h =>
 pJ h fun o' p' e2 h =>
 pJ h fun b' c' e3 h =>
 k l' o' p' b' c' q (e.trans (wJ e2 e3)) h
theorem Bn9 {e c}(h:D5 gl sc nm (.is e c) re=true) {P:Prop}(k:∀ e' r p,re=.Compare e' [.Is] [r] p->(D5 gl sc nm e e'&&pD c r)=true->P):P :=
 X3 h fun l' zz zz q e h =>
 R5 h fun zz e2 h =>
 R5 h fun r' e3 h =>
 k l' r' q (e.trans (wJ (e2.trans (congrArg (fun x=>[x]) (eq_of_beq (C3 h).1))) e3)) ((C3 h).2)
theorem uH {e c}(h:D5 gl sc nm (.isnot e c) re=true) {P:Prop}(k:∀ e' r p,re=.Compare e' [.IsNot] [r] p->(D5 gl sc nm e e'&&pD c r)=true->P):P :=
 X3 h fun l' zz zz q e h =>
 R5 h fun zz e2 h =>
 R5 h fun r' e3 h =>
 k l' r' q (e.trans (wJ (e2.trans (congrArg (fun x=>[x]) (eq_of_beq (C3 h).1))) e3)) ((C3 h).2)
theorem Ay5 {es}(h:D5 gl sc nm (.and es) re=true) {P:Prop}(k:∀ es' p,re=.BoolOp .And es' p->J8 gl sc nm es es'=true->P):P :=
 mX h fun zz es' p e h =>
 k es' p (e.trans (congrArg (Expr.BoolOp · es' p) (eq_of_beq (C3 h).1))) ((C3 h).2)
theorem Bn8 {es}(h:D5 gl sc nm (.or es) re=true) {P:Prop}(k:∀ es' p,re=.BoolOp .Or es' p->J8 gl sc nm es es'=true->P):P :=
 mX h fun zz es' p e h =>
 k es' p (e.trans (congrArg (Expr.BoolOp · es' p) (eq_of_beq (C3 h).1))) ((C3 h).2)
theorem Ay1 {e}(h:D5 gl sc nm (.not e) re=true) {P:Prop}(k:∀ e' p,re=.UnaryOp .Not e' p->D5 gl sc nm e e'=true->P):P :=
 rD h fun zz es' p e h =>
 k es' p (e.trans (congrArg (Expr.UnaryOp · es' p) (eq_of_beq (C3 h).1))) ((C3 h).2)
theorem Cg7 {o i}(h:D5 gl sc nm (.idx o i) re=true) {P:Prop}(k:∀ o' i' p,re=.Subscript o' i' p->(D5 gl sc nm o o'&&D5 gl sc nm i i')=true->P):P:=dL h k
theorem Cg4 {o l u}(h:D5 gl sc nm (.slc o l u) re=true) {P:Prop}(k:∀ o' l' h' q p,re=.Subscript o' (.Slice (some l') (some h') none q) p->(D5 gl sc nm o o'&&D5 gl sc nm l l'&&D5 gl sc nm u h')=true->P):P :=
 dL h fun o' zz p e h =>
 gU h fun zz zz zz q e2 h =>
 bV (C3 h).2 fun l' e3 h2 =>
 bV h2 fun h' e4 h2 =>
 k o' l' h' q p (e.trans (Al0 e2 e3 e4 (aA (C3 h).1))) h2
theorem Bv3 {o l}(h:D5 gl sc nm (.slcL o l) re=true) {P:Prop}(k:∀ o' l' q p,re=.Subscript o' (.Slice (some l') none none q) p->(D5 gl sc nm o o'&&D5 gl sc nm l l')=true->P):P :=
 dL h fun o' zz p e h =>
 gU h fun zz zz zz q e2 h =>
 bV (C3 h).2 fun l' e3 h2 =>
 have h:=C3 (C3 h).1
 k o' l' q p (e.trans (Al0 e2 e3 (aA h.1) (aA h.2))) h2
theorem Bv4 {o u}(h:D5 gl sc nm (.slcH o u) re=true) {P:Prop}(k:∀ o' h' q p,re=.Subscript o' (.Slice none (some h') none q) p->(D5 gl sc nm o o'&&D5 gl sc nm u h')=true->P):P :=
 dL h fun o' zz p e h =>
 gU h fun zz zz zz q e2 h =>
 bV (C3 h).2 fun l' e3 h2 =>
 have h:=C3 (C3 h).1
 k o' l' q p (e.trans (Al0 e2 (aA h.1) e3 (aA h.2))) h2
theorem Ab6 {f es}(h:D5 gl sc nm (.call f es) re=true) {P:Prop}(k:∀ id p0 es' p,re=.Call (.Name id p0) es' [] p->(id==Str.ofString f&&wK gl f es&&T9 sc id&&N3 id&&J8 gl sc nm es es')=true->P):P :=
 X6 h fun zz es' zz p e h =>
 M3 (C3 h).2 fun id p0 e2 h2 =>
 k id p0 es' p ((e.trans (eO rfl (T8 (C3 h).1))).trans (congrArg (Expr.Call · es' [] p) e2)) h2
theorem Aq5 {e t}(h:D5 gl sc nm (.isinst e t) re=true) {P:Prop}(k:∀ fn e' ty p,re=.Call fn [e',ty] [] p->(Q4 sc "isinstance" fn&&Q4 sc (Ak8 t) ty&&D5 gl sc nm e e')=true->P):P :=
 X6 h fun f zz zz p e h =>
 pJ (C3 h).2 fun e' ty e2 h2 =>
 k f e' ty p (e.trans (eO e2 (T8 (C3 h).1))) h2
theorem m1 {n:String}{o e:E}(h:onM n re (fun o' as=>one? as fun e'=>D5 gl sc nm o o'&&D5 gl sc nm e e')=true) {P:Prop}(k:∀ o' e' ap p,re=.Call (.Attribute o' (Str.ofString n) ap) [e'] [] p->(ap.endLine==p.line)=true->Aj8 o'=true->D5 gl sc nm o o'=true->D5 gl sc nm e e'=true->P):P :=
 Al1 h fun o' zz ap p e1 h2 h3 h =>
 R5 h fun e' e2 h =>
 k o' e' ap p (e1.trans (eO e2 rfl)) h2 h3 (C3 h).1 (C3 h).2
theorem Cg5 {o}(h:D5 gl sc nm (.pop o) re=true) {P:Prop}(k:∀ o' ap p,re=.Call (.Attribute o' (Str.ofString "pop") ap) [] [] p->(ap.endLine==p.line)=true->Aj8 o'=true->D5 gl sc nm o o'=true->P):P :=
 Al1 h fun o' zz ap p e1 h2 h3 h =>
 k o' ap p (e1.trans (eO (T8 (C3 h).1) rfl)) h2 h3 ((C3 h).2)
theorem Bw0 {o x y}(h:D5 gl sc nm (.find o x y) re=true) {P:Prop}(k:∀ o' x' y' ap p,re=.Call (.Attribute o' (Str.ofString "find") ap) [x',y'] [] p->(ap.endLine==p.line)=true->Aj8 o'=true->D5 gl sc nm o o'=true->D5 gl sc nm x x'=true->D5 gl sc nm y y'=true->P):P :=
 Al1 h fun o' zz ap p e1 h2 h3 h =>
 pJ h fun x' y' e2 h =>
 have h6:=C3 h
 have h5:=C3 h6.1
 k o' x' y' ap p (e1.trans (eO e2 rfl)) h2 h3 h5.1 h5.2 h6.2
theorem Bv7 {es}(h:D5 gl sc nm (.list es) re=true) {P:Prop}(k:∀ es' p,re=.List es' p->(J8 gl sc nm es es'&&decide (es.length<=I3))=true->P):P:=Bf0 h k
theorem Cg3 {es}(h:D5 gl sc nm (.tup es) re=true) {P:Prop}(k:∀ es' k p,re=.Tuple es' k p->(J8 gl sc nm es es'&&decide (es.length<=I3))=true->P):P:=rE h k
theorem qE {elt x src ifs}(h:D5 gl sc nm (.comp elt x src ifs) re=true) {P:Prop}(k:∀ elt' id px it ifs' scope p,re=.ListComp elt' [⟨.Name id px,it,ifs',0⟩] scope p->(nm[x]? == some id&&!gl.lits.contains x&&Q9 sc nm id scope&&D5 gl sc nm src it&&D5 gl (R2 sc scope.names) nm elt elt'&&J8 gl (R2 sc scope.names) nm ifs ifs')=true->P):P :=
 uE h fun elt' zz scope p e h =>
 Ab2 h fun id px it ifs' e2 h =>
 k elt' id px it ifs' scope p (e.trans (congrArg (Expr.ListComp elt' · scope p) e2)) h
theorem uI {elt x n ifs}(h:D5 gl sc nm (.compR elt x n ifs) re=true) {P:Prop}(k:∀ elt' id px fn n' pp ifs' scope p,re=.ListComp elt' [⟨.Name id px,.Call fn [n'] [] pp,ifs',0⟩] scope p->Q4 sc "range" fn=true->(nm[x]? == some id&&!gl.lits.contains x&&Q9 sc nm id scope&&D5 gl sc nm n n'&&D5 gl (R2 sc scope.names) nm elt elt'&&J8 gl (R2 sc scope.names) nm ifs ifs')=true->P):P :=
 uE h fun elt' zz scope p e h =>
 Ab2 h fun id px it ifs' e2 h =>
 eN h fun fn n' pp e3 h1 h =>
 k elt' id px fn n' pp ifs' scope p (e.trans (congrArg (Expr.ListComp elt' · scope p) (e2.trans (congrArg (fun it=>[Comprehension.mk (.Name id px) it ifs' 0]) e3)))) h1 h
theorem Aq6 {es'}(h:J8 gl sc nm [] es'=true):es'=[]:=T8 h
theorem Ah1 {e es es'}(h:J8 gl sc nm (e::es) es'=true):∃ re rest,es'=re::rest/\D5 gl sc nm e re=true/\J8 gl sc nm es rest=true:=by
 match es',h with
 | re::rest,h=>exact ⟨re,rest,rfl,C3 h⟩
theorem gX {e es re rest}(h:D5 gl sc nm e re=true) (h2:J8 gl sc nm es rest=true):J8 gl sc nm (e::es) (re::rest)=true:=by
 show (D5 gl sc nm e re&&J8 gl sc nm es rest)=true
 rw [h,h2];rfl
noncomputable def Cm8:List Nat:=[0,2,3,8,15,16,19,20,21,23,24,25]
noncomputable def Bm9 (re:Expr):Bool:=![0,15].contains re.ctorIdx&&!(Z9 re fun o zz zz=>o==.Not)
noncomputable def pK (e:E):Bool:=![8,9,10,11,12,13,14].contains e.ctorIdx
structure KOk (e:E) (re:Expr):Prop where
 form:Cm8.contains re.ctorIdx=true
 comp:Q8 e=true->(re.ctorIdx==8)=false
 test:pK e=true->Bm9 re=true
theorem KOk.of {e:E}{k:Nat}(h:re.ctorIdx=k) (h1:Cm8.contains k=true) (h2:Q8 e=true->(k==8)=false) (h3:pK e=true->[0,3,15].contains k=false):KOk e re:=by
 refine ⟨h▸h1,h▸h2,fun hp=>?_⟩
 have h4:=h3 hp
 rw [<- h] at h4
 have h5:re.ctorIdx≠3:=fun e=>by rw [e] at h4;cases h4
 have h6:[0,15].contains re.ctorIdx=false:=by
  simp only [List.contains_cons,List.contains_nil,Bool.or_eq_false_iff] at h4 ⊢
  exact ⟨h4.1,h4.2.2.1,trivial⟩
 unfold Bm9 Z9
 rw [dif_neg h5,h6];rfl
theorem mE:∀ {e:E},D5 gl sc nm e re=true->KOk e re
 | .none,h=>.of (k:=19) (W3 h) rfl (fun zz=>rfl) (fun zz=>rfl)
 | .bool _,h=>.of (k:=19) (W3 h) rfl (fun zz=>rfl) (fun zz=>rfl)
 | .int _,h=>.of (k:=19) (W3 h) rfl (fun zz=>rfl) (fun zz=>rfl)
 | .str _,h=>.of (k:=19) (W3 h) rfl (fun zz=>rfl) (fun zz=>rfl)
 | .var _,h=>.of (k:=23) (gV h) rfl (fun zz=>rfl) (fun zz=>rfl)
 | .glob _ _,h=>.of (k:=23) (gV h) rfl (fun zz=>rfl) (fun zz=>rfl)
 | .bin _ _ _,h=>.of (k:=2) (mY h) rfl (fun zz=>rfl) (fun zz=>rfl)
 | .neg _,h=>Ay2 h fun zz zz zz e=>e▸⟨rfl,fun zz=>rfl,fun zz=>rfl⟩
 | .cmp _ _ _,h=>.of (k:=15) (R9 h) rfl (fun zz=>rfl) (fun h=>nomatch h)
 | .cmp2 _ _ _ _ _,h=>.of (k:=15) (R9 h) rfl (fun zz=>rfl) (fun h=>nomatch h)
 | .is _ _,h=>.of (k:=15) (R9 h) rfl (fun zz=>rfl) (fun h=>nomatch h)
 | .isnot _ _,h=>.of (k:=15) (R9 h) rfl (fun zz=>rfl) (fun h=>nomatch h)
 | .and _,h=>.of (k:=0) (cE h) rfl (fun zz=>rfl) (fun h=>nomatch h)
 | .or _,h=>.of (k:=0) (cE h) rfl (fun zz=>rfl) (fun h=>nomatch h)
 | .not _,h=>.of (k:=3) (mU h) rfl (fun zz=>rfl) (fun h=>nomatch h)
 | .idx _ _,h=>.of (k:=21) (bF h) rfl (fun zz=>rfl) (fun zz=>rfl)
 | .slc _ _ _,h=>.of (k:=21) (bF h) rfl (fun zz=>rfl) (fun zz=>rfl)
 | .slcL _ _,h=>.of (k:=21) (bF h) rfl (fun zz=>rfl) (fun zz=>rfl)
 | .slcH _ _,h=>.of (k:=21) (bF h) rfl (fun zz=>rfl) (fun zz=>rfl)
 | .call _ _,h=>.of (k:=16) (K2 h) rfl (fun zz=>rfl) (fun zz=>rfl)
 | .isinst _ _,h=>.of (k:=16) (K2 h) rfl (fun zz=>rfl) (fun zz=>rfl)
 | .len _,h=>.of (k:=16) (K2 h) rfl (fun zz=>rfl) (fun zz=>rfl)
 | .toInt _,h=>.of (k:=16) (K2 h) rfl (fun zz=>rfl) (fun zz=>rfl)
 | .ord _,h=>.of (k:=16) (K2 h) rfl (fun zz=>rfl) (fun zz=>rfl)
 | .append _ _,h=>.of (k:=16) (K2 h) rfl (fun zz=>rfl) (fun zz=>rfl)
 | .extend _ _,h=>.of (k:=16) (K2 h) rfl (fun zz=>rfl) (fun zz=>rfl)
 | .pop _,h=>.of (k:=16) (K2 h) rfl (fun zz=>rfl) (fun zz=>rfl)
 | .find _ _ _,h=>.of (k:=16) (K2 h) rfl (fun zz=>rfl) (fun zz=>rfl)
 | .join _ _,h=>.of (k:=16) (K2 h) rfl (fun zz=>rfl) (fun zz=>rfl)
 | .split _ _,h=>.of (k:=16) (K2 h) rfl (fun zz=>rfl) (fun zz=>rfl)
 | .list _,h=>.of (k:=24) (rF h) rfl (fun zz=>rfl) (fun zz=>rfl)
 | .tup _,h=>.of (k:=25) (mV h) rfl (fun zz=>rfl) (fun zz=>rfl)
 | .comp _ _ _ _,h=>.of (k:=8) (gW h) rfl (fun h=>nomatch h) (fun zz=>rfl)
 | .compR _ _ _ _,h=>.of (k:=8) (gW h) rfl (fun h=>nomatch h) (fun zz=>rfl)
 | .sortedDown _,h=>.of (k:=16) (K2 h) rfl (fun zz=>rfl) (fun zz=>rfl)
theorem tE {e:E}(h:Q8 e=false):(∃ a b c d,e=.comp a b c d)∨∃ a b c d,e=.compR a b c d:=by
 by_cases h1:e.ctorIdx=33
 ·exact Or.inl (E.comp.elim (motive_1:=fun e=>∃ a b c d,e=.comp a b c d) e h1 fun a b c d=>⟨a,b,c,d,rfl⟩)
 ·by_cases h2:e.ctorIdx=34
  ·exact Or.inr (E.compR.elim (motive_1:=fun e=>∃ a b c d,e=.compR a b c d) e h2 fun a b c d=>⟨a,b,c,d,rfl⟩)
  ·unfold Q8 at h
   rw [beq_false_of_ne h1,beq_false_of_ne h2] at h
   cases h
theorem Ax7 {e:E}(h:Al5 e=true):∃ l,e=.str l :=
 E.str.elim (motive_1:=fun e=>∃ l,e=.str l) e (eq_of_beq h) fun l=>⟨l,rfl⟩
end
section
variable {gl:Gl}{sc:List (Str×NameKind)}{nm:List Str}{re:Stmt}
theorem rI {x e}(h:aN gl sc nm (.assign x e) re=true) {P:Prop}(k:∀ id p e' p',re=.Assign [.Name id p] e' p'->(nm[x]? == some id&&S8 sc id&&sc.lookup id != some .free&&!gl.lits.contains x&&D5 gl sc nm e e')=true->P):P :=
 mZ h fun zz e' p' e1 h =>
 R5 h fun zz e2 h =>
 M3 h fun id p e3 h =>
 k id p e' p' (e1.trans (congrArg (Stmt.Assign · e' p') (e2.trans (congrArg (fun x=>[x]) e3)))) h
theorem Aq4 {o i e}(h:aN gl sc nm (.setIdx o i e) re=true) {P:Prop}(k:∀ o' i' p e' p',re=.Assign [.Subscript o' i' p] e' p'->(D5 gl sc nm o o'&&D5 gl sc nm i i'&&D5 gl sc nm e e')=true->P):P :=
 mZ h fun zz e' p' e1 h =>
 R5 h fun zz e2 h =>
 dL h fun o' i' p e3 h =>
 k o' i' p e' p' (e1.trans (congrArg (Stmt.Assign · e' p') (e2.trans (congrArg (fun x=>[x]) e3)))) h
theorem Ab4 {e}(h:aN gl sc nm (.expr e) re=true) {P:Prop}(k:∀ e' p,re=.Expr e' p->(Q8 e&&D5 gl sc nm e e')=true->P):P:=Bf2 h k
theorem Ay3 {c t f}(h:aN gl sc nm (.ite c t f) re=true) {P:Prop}(k:∀ c' t' f' p,re=.If c' t' f' p->(D5 gl sc nm c c'&&N7 gl sc nm t t'&&N7 gl sc nm f f')=true->P):P:=Cg0 h k
theorem Cg1 {c b}(h:aN gl sc nm (.whl c b) re=true) {P:Prop}(k:∀ c' b' p,re=.While c' b' [] p->(D5 gl sc nm c c'&&N7 gl sc nm b b')=true->P):P :=
 Ap7 h fun c' b' zz p e h =>
 k c' b' p (e.trans (congrArg (Stmt.While c' b' · p) (T8 (C3 h).1))) ((C3 h).2)
theorem Al8 {t t' it it':Expr}{b o:List Stmt}{p:PySem.Pos}(h1:t=t') (h2:it=it') (h3:o=[]):Stmt.For t it b o p=.For t' it' b [] p:=by rw [h1,h2,h3]
theorem Bf6 {x e b}(h:aN gl sc nm (.forIn x e b) re=true) {P:Prop}(k:∀ id p e' b' p',re=.For (.Name id p) e' b' [] p'->(nm[x]? == some id&&S8 sc id&&sc.lookup id != some .free&&!gl.lits.contains x&&D5 gl sc nm e e'&&N7 gl sc nm b b')=true->P):P :=
 qD h fun zz e' b' zz p' e1 h =>
 M3 (C3 h).2 fun id p e2 h2 =>
 k id p e' b' p' (e1.trans (Al8 e2 rfl (T8 (C3 h).1))) h2
theorem Bv9 {x e b}(h:aN gl sc nm (.forR x e b) re=true) {P:Prop}(k:∀ id p fn e' pp b' p',re=.For (.Name id p) (.Call fn [e'] [] pp) b' [] p'->Q4 sc "range" fn=true->(nm[x]? == some id&&S8 sc id&&sc.lookup id != some .free&&!gl.lits.contains x&&D5 gl sc nm e e'&&N7 gl sc nm b b')=true->P):P :=
 qD h fun zz zz b' zz p' e1 h =>
 M3 (C3 h).2 fun id p e2 h2 =>
 eN h2 fun fn n' pp e3 h1 h3 =>
 k id p fn n' pp b' p' (e1.trans (Al8 e2 e3 (T8 (C3 h).1))) h1 h3
theorem Ah0 {x y e b}(h:aN gl sc nm (.forEnum x y e b) re=true) {P:Prop}(k:∀ id p id' p' u pt fn e' pp b' p'',re=.For (.Tuple [.Name id p,.Name id' p'] u pt) (.Call fn [e'] [] pp) b' [] p''->Q4 sc "enumerate" fn=true->((nm[x]? == some id&&S8 sc id&&sc.lookup id != some .free&&!gl.lits.contains x)&&(nm[y]? == some id'&&S8 sc id'&&sc.lookup id' != some .free&&!gl.lits.contains y)&&D5 gl sc nm e e'&&N7 gl sc nm b b')=true->P):P :=
 qD h fun zz zz b' zz p'' e1 h =>
 rE (C3 h).2 fun zz u pt e2 h2 =>
 pJ h2 fun zz zz e3 h3 =>
 M3 h3 fun id p e4 h4 =>
 M3 h4 fun id' p' e5 h5 =>
 eN h5 fun fn n' pp e6 h1 h6 =>
 k id p id' p' u pt fn n' pp b' p'' (e1.trans (Al8 (by rw [e2,e3,e4,e5]) e6 (T8 (C3 h).1))) h1 h6
theorem Ay0 {e}(h:aN gl sc nm (.ret e) re=true) {P:Prop}(k:∀ e' p,re=.Return (some e') p->D5 gl sc nm e e'=true->P):P :=
 mW h fun zz p e1 h =>
 bV h fun e' e2 h =>
 k e' p (e1.trans (congrArg (Stmt.Return · p) e2)) h
theorem Ag9 (h:aN gl sc nm .retNone re=true) {P:Prop}(k:∀ p,re=.Return none p->P):P :=
 mW h fun zz p e1 h =>
 k p (e1.trans (congrArg (Stmt.Return · p) (aA h)))
theorem Bw1 (h:aN gl sc nm .cont re=true) {P:Prop}(k:∀ p,re=.Continue p->P):P:=tD h fun p e zz=>k p e
theorem Bv5 (h:aN gl sc nm .pass re=true) {P:Prop}(k:∀ p,re=.Pass p->P):P:=Be9 h fun p e zz=>k p e
theorem rH {es'}(h:N7 gl sc nm [] es'=true):es'=[]:=T8 h
theorem eD {e es es'}(h:N7 gl sc nm (e::es) es'=true):∃ re rest,es'=re::rest/\aN gl sc nm e re=true/\N7 gl sc nm es rest=true:=by
 match es',h with
 | re::rest,h=>exact ⟨re,rest,rfl,C3 h⟩
end
noncomputable def wE:List Str->Bool
 | []=>true
 | x::l=>!l.contains x&&wE l
noncomputable def Bn7 (scope:Scope):Bool:=scope.kind==.function&&!scope.isGenerator&&!scope.isCoroutine&&scope.names.all fun x=>x.2 != .free
noncomputable def Ab7 (params:Arguments) (scope:Scope):Bool:=match params.args with
 | a::_=>scope.names.lookup a.arg==some .local
 | []=>false
noncomputable def tN (gl:Gl) (fn:Fn) (params:Arguments) (body:List Stmt) (scope:Scope):Bool :=
 Bn7 scope&&wE (fn.names.map Str.ofString)&&decide (fn.params<=fn.names.length) &&
 params.posonlyargs.isEmpty&&params.vararg.isNone&&params.kwonlyargs.isEmpty&&params.kwarg.isNone&&params.defaults.isEmpty&&params.kw_defaults.isEmpty &&
 (params.args.map (·.arg)==(fn.names.take fn.params).map Str.ofString)&&(params.args.all fun a=>scope.names.lookup a.arg==some .local||scope.names.lookup a.arg==some .cell) &&
 fn.lits.all (fun j=>decide (j<fn.params))&&(!fn.bump||Ab7 params scope)&&N7 { gl with lits:=fn.lits } scope.names (fn.names.map Str.ofString) fn.body body
end Mini
namespace Mini
abbrev V3:=String->List V->(Heap->Prop)->Heap->Prop
noncomputable def yU (C:Calls) (RC:V3):E->D7->(Heap->Prop)->Heap->Prop
 | .call f es,ρ,R,H=>S2 C es ρ (fun vs H₁=>RC f vs R H₁) H
 | .join o a,ρ,R,H=>E2 C o ρ (fun v H₁=>(∃ s,v=.str s)/\yU C RC a ρ R H₁) H
 | .comp _ _ src _,ρ,R,H=>yU C RC src ρ R H
 | _,_,_,_=>False
mutual
noncomputable def rzS (C:Calls) (RC:V3) (c:String):S->D7->(Heap->Prop)->Heap->Prop
 | .expr e,ρ,R,H=>yU C RC e ρ R H
 | .assign _ e,ρ,R,H=>Q8 e=true/\yU C RC e ρ R H
 | .ret e,ρ,R,H=>yU C RC e ρ R H
 | .ite e t f,ρ,R,H=>E2 C e ρ (fun v H₁=>boo (I7 v) (fun b H₁=>match b with
   | true=>vY C RC c t ρ R H₁
   | false=>vY C RC c f ρ R H₁) H₁) H
 | .raise d _,_,R,H=>d=c/\R H
 | _,_,_,_=>False
noncomputable def vY (C:Calls) (RC:V3) (c:String):List S->D7->(Heap->Prop)->Heap->Prop
 | [],_,_,_=>False
 | s::ss,ρ,R,H=>rzS C RC c s ρ R H∨iC C s ρ (fun fl ρ' H₁=>match fl with
   | .next=>vY C RC c ss ρ' R H₁
   | _=>False) H
end
noncomputable def X9 (P:Prg) (c:String):Nat->V3
 | 0,_,_,_,_=>False
 | n+1,f,vs,R,H=>match P f with
  | some fn=>vs.length=fn.params/\vY (callN P n) (X9 P c n) c fn.body (frame fn vs) R H
  | Option.none=>False
noncomputable def Cx0 (C:Calls) (RC:V3) (c:String) (b:S) (h post:List S) (ρ:D7) (Q:E6) (H:Heap):Prop :=
 iC C b ρ (fun fl ρ' H₁=>match fl with
  | .next=>C6 C post ρ' Q H₁
  | fl=>Q fl ρ' H₁) H∨rzS C RC c b ρ (fun H₁=>C6 C h ρ (fun fl ρ' H₂=>match fl with
  | .next=>False
  | fl=>Q fl ρ' H₂) H₁) H
noncomputable def Cp4 (C:Calls) (RC:V3) (c:String) (pre:List S) (b:S) (h post:List S) (ρ:D7) (Q:E6) (H:Heap):Prop :=
 C6 C pre ρ (fun fl ρ' H₁=>match fl with
  | .next=>Cx0 C RC c b h post ρ' Q H₁
  | fl=>Q fl ρ' H₁) H
section
variable {C:Calls}{RC:V3}{c:String}{ρ:D7}{R:Heap->Prop}{H:Heap}
theorem oO {s:S}{ss:List S}(h:rzS C RC c s ρ R H):vY C RC c (s::ss) ρ R H:=Or.inl h
theorem Cr6 {e:E}(h:yU C RC e ρ R H):rzS C RC c (.ret e) ρ R H:=h
theorem Cf8 {e:E}(h:yU C RC e ρ R H):rzS C RC c (.expr e) ρ R H:=h
theorem Be6 {x:Nat}{e:E}(hn:Q8 e=true) (h:yU C RC e ρ R H):rzS C RC c (.assign x e) ρ R H:=⟨hn,h⟩
theorem Cf7 {o a:E}(h:E2 C o ρ (fun v H₁=>(∃ s,v=.str s)/\yU C RC a ρ R H₁) H):yU C RC (.join o a) ρ R H:=h
theorem Cf9 {elt src:E}{x:Nat}{ifs:List E}(h:yU C RC src ρ R H):yU C RC (.comp elt x src ifs) ρ R H:=h
theorem wY {f:String}{es:List E}(h:S2 C es ρ (fun vs H₁=>RC f vs R H₁) H):yU C RC (.call f es) ρ R H:=h
theorem Cr7 {e:E}{t f:List S}(h:E2 C e ρ (fun v H₁=>boo (I7 v) (fun b H₁=>match b with
   | true=>vY C RC c t ρ R H₁
   | false=>vY C RC c f ρ R H₁) H₁) H):rzS C RC c (.ite e t f) ρ R H:=h
theorem Bu4 {m:List Nat}(h:R H):rzS C RC c (.raise c m) ρ R H:=⟨rfl,h⟩
end
end Mini
namespace Mini
open PySem (Expr Stmt Str NameKind Scope Const Operator CmpOp BoolOp UnaryOp Arguments Comprehension Keyword Pos ExceptHandler)
theorem Bf5 {gl:Gl}{sc:List (Str×NameKind)}{nm:List Str}{re:Stmt}{c:String}{m:List Nat}(h:aN gl sc nm (.raise c m) re=true) {P:Prop}
  (k:∀ id np x k cp cpos pos,re=.Raise (some (.Call (.Name id np) [.Constant (.str x) k cp] [] cpos)) none pos->id=Str.ofString c->T9 sc id=true->N3 id=true->x.cps.toList.length<=I3->P):P :=
 Ap8 h fun a b pos e1 h1 =>
 bV (C3 h1).2 fun e e2 h2 =>
 X6 h2 fun f as ks cpos e3 h3 =>
 R5 (C3 (C3 h3).1).2 fun a1 e4 h4 =>
 Q7 h4 fun kk u cp e5 h5 =>
 uF h5 fun x e6 h6 h7 =>
 M3 (C3 h3).2 fun id np e7 h8 =>
 k id np x u cp cpos pos (e1.trans (by rw [aA (C3 h1).1,e2,e3,e4,e5,e6,e7,T8 (C3 (C3 h3).1).1])) (eq_of_beq (C3 (C3 h8).1).1) (C3 (C3 h8).1).2 (C3 h8).2 (by rw [<- h6];exact h7)
noncomputable def Cm5 (x:ExceptHandler) (q:Option Expr->Option Str->List Stmt->Bool):Bool:=match x with
 | .ExceptHandler t n b _=>q t n b
theorem Bv2 {x:ExceptHandler}{q:Option Expr->Option Str->List Stmt->Bool}{P:Prop}(h:Cm5 x q=true) (k:∀ t n b p,x=.ExceptHandler t n b p->q t n b=true->P):P:=by
 cases x with
 | ExceptHandler t n b p=>exact k t n b p rfl h
noncomputable def Am0 (gl:Gl) (sc:List (Str×NameKind)) (nm:List Str) (c:String) (b:S) (h post:List S) (ss:List Stmt):Bool:=match ss with
 | st::rest=>zF st (fun b' hs o f zz=>one? b' (fun b1=>aN gl sc nm b b1)&&o.isEmpty&&f.isEmpty&&one? hs fun x=>Cm5 x fun t n hb=>n.isNone&&N7 gl sc nm h hb&&!hb.isEmpty&&some? t fun te=>Q1 te fun id zz=>id==Str.ofString c&&T9 sc id&&N3 id)&&N7 gl sc nm post rest
 | []=>false
theorem Bf9 {gl:Gl}{sc:List (Str×NameKind)}{nm:List Str}{c:String}{b:S}{h post:List S}{ss:List Stmt}(hc:Am0 gl sc nm c b h post ss=true) {P:Prop}
  (k:∀ b1 id np h0 hs hp p rest,ss=.Try [b1] [.ExceptHandler (some (.Name id np)) none (h0::hs) hp] [] [] p::rest->aN gl sc nm b b1=true->id=Str.ofString c->T9 sc id=true->N3 id=true->N7 gl sc nm h (h0::hs)=true->N7 gl sc nm post rest=true->P):P:=by
 cases ss with
 | nil=>exact nomatch (show false=true from hc)
 | cons st rest =>
  replace hc:=C3 hc
  refine Bu8 hc.1 fun b' hs o f p e1 h1=>?_
  replace h1:=C3 h1
  refine R5 (C3 (C3 h1.1).1).1 fun b1 e2 h2=>?_
  refine R5 h1.2 fun x e3 h3=>?_
  refine Bv2 h3 fun t n hb hp e4 h4=>?_
  replace h4:=C3 h4
  refine bV h4.2 fun te e5 h5=>?_
  refine M3 h5 fun id np e6 h6=>?_
  have h7:=C3 h4.1
  have h8:=C3 h7.1
  cases hb with
  | nil=>exact nomatch (show false=true from h7.2)
  | cons h0 hs' =>
   exact k b1 id np h0 hs' hp p rest (by rw [e1,e2,e3,e4,e5,e6,aA h8.1,T8 (C3 (C3 h1.1).1).2,T8 (C3 h1.1).2]) h2 (eq_of_beq (C3 (C3 h6).1).1) (C3 (C3 h6).1).2 (C3 h6).2 h8.2 hc.2
end Mini
namespace Mini
section
variable {C:Calls}{ρ:D7}{Q:C2}{H:Heap}
theorem Bm1 {x}(h:E2 C (.var x) ρ Q H):match ρ[x]? with
  | some (some v)=>Q v H
  | _=>False:=h
theorem Cf4 {a0 i}(h:E2 C (.glob a0 i) ρ Q H):Q (.int i) H:=h
theorem Bm7 {o l r}(h:E2 C (.bin o l r) ρ Q H):E2 C l ρ (fun a H₁=>E2 C r ρ (fun b H₂=>res (aO o a b H₂) Q) H₁) H:=h
theorem Cr2 {i}(h:E2 C (.neg i) ρ Q H):Q (.int (-i)) H:=h
theorem Ak7 {o l r}(h:E2 C (.cmp o l r) ρ Q H):E2 C l ρ (fun a H₁=>E2 C r ρ (fun b H₂=>boo (S3 o a b H₂) (fun b H=>Q (.bool b) H) H₂) H₁) H:=h
theorem wX {o₁ o₂ a b c}(h:E2 C (.cmp2 o₁ o₂ a b c) ρ Q H):E2 C a ρ (fun va H₁=>E2 C b ρ (fun vb H₂=>boo (S3 o₁ va vb H₂) (fun t H₂=>match t with
   | true=>E2 C c ρ (fun vc H₃=>boo (S3 o₂ vb vc H₃) (fun b H=>Q (.bool b) H) H₃) H₂
   | false=>Q (.bool false) H₂) H₂) H₁) H:=h
theorem Cl9 {e c}(h:E2 C (.is e c) ρ Q H):E2 C e ρ (fun v H₁=>Q (.bool (isV v c)) H₁) H:=h
theorem Aa8 {e c}(h:E2 C (.isnot e c) ρ Q H):E2 C e ρ (fun v H₁=>Q (.bool (!isV v c)) H₁) H:=h
theorem Bm8 {es}(h:E2 C (.and es) ρ Q H):iG C es ρ Q H:=h
theorem Cl8 {es}(h:E2 C (.or es) ρ Q H):vX C es ρ Q H:=h
theorem Bm5 {e}(h:E2 C (.not e) ρ Q H):E2 C e ρ (fun v H₁=>boo (I7 v) (fun b H=>Q (.bool (!b)) H) H₁) H:=h
theorem Bm6 {o i}(h:E2 C (.idx o i) ρ Q H):E2 C o ρ (fun vo H₁=>E2 C i ρ (fun vi H₂=>val (X1 vo vi H₂) Q H₂) H₁) H:=h
theorem Bm2 {o l u}(h:E2 C (.slc o l u) ρ Q H):E2 C o ρ (fun vo H₁=>E2 C l ρ (fun vl H₂=>E2 C u ρ (fun vh H₃=>match vl,vh with
   | .int a,.int b=>res (kK vo (some a) (some b) H₃) Q
   | _,_=>False) H₂) H₁) H:=h
theorem Ax2 {o l}(h:E2 C (.slcL o l) ρ Q H):E2 C o ρ (fun vo H₁=>E2 C l ρ (fun vl H₂=>match vl with
   | .int a=>res (kK vo (some a) Option.none H₂) Q
   | _=>False) H₁) H:=h
theorem Ax3 {o u}(h:E2 C (.slcH o u) ρ Q H):E2 C o ρ (fun vo H₁=>E2 C u ρ (fun vh H₂=>match vh with
   | .int a=>res (kK vo Option.none (some a) H₂) Q
   | _=>False) H₁) H:=h
theorem Cf5 {f es}(h:E2 C (.call f es) ρ Q H):S2 C es ρ (fun vs H₁=>C f vs Q H₁) H:=h
theorem Be5 {e t}(h:E2 C (.isinst e t) ρ Q H):E2 C e ρ (fun v H₁=>Q (.bool (bX v t)) H₁) H:=h
theorem Cr3 {e}(h:E2 C (.len e) ρ Q H):E2 C e ρ (fun v H₁=>val ((yZ v H₁).map .int) Q H₁) H:=h
theorem Aa6 {e}(h:E2 C (.toInt e) ρ Q H):E2 C e ρ (fun v H₁=>match v with
   | .bool b=>Q (.int (if b then 1 else 0)) H₁
   | _=>False) H:=h
theorem Bm4 {e}(h:E2 C (.ord e) ρ Q H):E2 C e ρ (fun v H₁=>match v with
   | .str [c]=>Q (.int (c:Int)) H₁
   | _=>False) H:=h
theorem fW {e}(h:E2 C (.sortedDown e) ρ Q H):E2 C e ρ (fun v H₁=>match v with
   | .ref a=>match (H₁[a]?).bind intL with
    | some l=>l.length<64/\∀ r:List Int,r.Perm l->Q (.ref H₁.length) (H₁++[r.map .int])
    | Option.none=>False
   | _=>False) H:=h
theorem uD {o e}(h:E2 C (.append o e) ρ Q H):E2 C o ρ (fun vo H₁=>match vo with
   | .ref a=>E2 C e ρ (fun v H₂=>hea (aC (.ref a) v H₂) Q) H₁
   | _=>False) H:=h
theorem uC {o e}(h:E2 C (.extend o e) ρ Q H):E2 C o ρ (fun vo H₁=>match vo with
   | .ref a=>E2 C e ρ (fun v H₂=>hea (xB (.ref a) v H₂) Q) H₁
   | _=>False) H:=h
theorem Bm3 {o}(h:E2 C (.pop o) ρ Q H):E2 C o ρ (fun vo H₁=>match vo with
   | .ref a=>res (Aj9 (.ref a) H₁) Q
   | _=>False) H:=h
theorem Ax5 {o a b}(h:E2 C (.find o a b) ρ Q H):E2 C o ρ (fun vo H₁=>match vo with
   | .str s=>E2 C a ρ (fun va H₂=>E2 C b ρ (fun vb H₃=>zI s va vb Q H₃) H₂) H₁
   | _=>False) H:=h
theorem Ax4 {o a}(h:E2 C (.join o a) ρ Q H):E2 C o ρ (fun vo H₁=>match vo with
   | .str s=>E2 C a ρ (fun va H₂=>fP s va Q H₂) H₁
   | _=>False) H:=h
theorem Aa7 {o a}(h:E2 C (.split o a) ρ Q H):E2 C o ρ (fun vo H₁=>match vo with
   | .str s=>E2 C a ρ (fun va H₂=>Ak9 s va Q H₂) H₁
   | _=>False) H:=h
theorem Cf3 {es}(h:E2 C (.list es) ρ Q H):S2 C es ρ (fun vs H₁=>Q (.ref H₁.length) (H₁++[vs])) H:=h
theorem Cr1 {es}(h:E2 C (.tup es) ρ Q H):S2 C es ρ (fun vs H₁=>Q (.tup vs) H₁) H:=h
theorem wW {elt x src ifs}(h:E2 C (.comp elt x src ifs) ρ Q H):E2 C src ρ (fun v H₁=>match iterV v with
   | some it=>∃ n,S9 (P6 C ifs) (E2 C elt) x ρ it n 0 [] (fun vs H₂=>Q (.ref H₂.length) (H₂++[vs])) H₁
   | Option.none=>False) H:=h
theorem qB {elt x e ifs}(h:E2 C (.compR elt x e ifs) ρ Q H):E2 C e ρ (fun v H₁=>match rangeV v with
   | some it=>∃ n,S9 (P6 C ifs) (E2 C elt) x ρ it n 0 [] (fun vs H₂=>Q (.ref H₂.length) (H₂++[vs])) H₁
   | Option.none=>False) H:=h
end
section
variable {C:Calls}{ρ:D7}{Q:E6}{H:Heap}
theorem Be4 {x e}(h:iC C (.assign x e) ρ Q H):E2 C e ρ (fun v H₁=>Q .next (ρ.set x (some v)) H₁) H:=h
theorem uB {o i e}(h:iC C (.setIdx o i e) ρ Q H):E2 C e ρ (fun v H₁=>E2 C o ρ (fun vo H₂=>E2 C i ρ (fun vi H₃=>hea (Cp2 vo vi v H₃) (fun zz H₄=>Q .next ρ H₄)) H₂) H₁) H:=h
theorem Cf1 {e}(h:iC C (.expr e) ρ Q H):E2 C e ρ (fun zz H₁=>Q .next ρ H₁) H:=h
theorem Bm0 {c t f}(h:iC C (.ite c t f) ρ Q H):E2 C c ρ (fun v H₁=>boo (I7 v) (fun b H₁=>match b with
   | true=>C6 C t ρ Q H₁
   | false=>C6 C f ρ Q H₁) H₁) H:=h
theorem Bl8 {c b}(h:iC C (.whl c b) ρ Q H):∃ n,gO (E2 C c) (C6 C b) n ρ Q H:=h
theorem Aa5 {x e b}(h:iC C (.forIn x e b) ρ Q H):E2 C e ρ (fun v H₁=>match iterV v with
   | some it=>∃ n,aK (C6 C b) x it n 0 ρ Q H₁
   | Option.none=>False) H:=h
theorem Ax1 {x e b}(h:iC C (.forR x e b) ρ Q H):E2 C e ρ (fun v H₁=>match rangeV v with
   | some it=>∃ n,aK (C6 C b) x it n 0 ρ Q H₁
   | Option.none=>False) H:=h
theorem rB {x y e b}(h:iC C (.forEnum x y e b) ρ Q H):E2 C e ρ (fun v H₁=>match v with
   | .ref a=>∃ n,iI (C6 C b) x y (.lst a) n 0 ρ Q H₁
   | _=>False) H:=h
theorem Cr0 {e}(h:iC C (.ret e) ρ Q H):E2 C e ρ (fun v H₁=>Q (.ret v) ρ H₁) H:=h
theorem Ap6 (h:iC C .retNone ρ Q H):Q (.ret .none) ρ H:=h
theorem Cf2 (h:iC C .cont ρ Q H):Q .cont ρ H:=h
theorem Cf0 (h:iC C .pass ρ Q H):Q .next ρ H:=h
theorem Bu2 {a0 a1}(h:iC C (.raise a0 a1) ρ Q H):False:=h
theorem Bl9 (h:C6 C [] ρ Q H):Q .next ρ H:=h
theorem wV {s ss}(h:C6 C (s::ss) ρ Q H):iC C s ρ (fun fl ρ' H₁=>match fl with
   | .next=>C6 C ss ρ' Q H₁
   | fl=>Q fl ρ' H₁) H:=h
theorem Cr4 {Q:List V->Heap->Prop}(h:S2 C [] ρ Q H):Q [] H:=h
theorem Ax6 {Q:List V->Heap->Prop}{e es}(h:S2 C (e::es) ρ Q H):E2 C e ρ (fun v H₁=>S2 C es ρ (fun vs H₂=>Q (v::vs) H₂) H₁) H:=h
end
end Mini
namespace L09
open PySem PySem.W PyProof.Rows
noncomputable abbrev pr:Program:=PySem.Challenge.pw_uf010012_09
noncomputable def plainS (s:Stmt):Bool:=!(Mini.Y3 s fun ts zz zz=>Mini.one? ts fun t=>Mini.Q1 t fun id zz=>id==Str.ofString "__name__")
noncomputable def vw:Program:={ pr with main:={ pr.main with body:=pr.main.body.filter plainS } }
theorem Da1 {σ A1 A2 A5 B:Type}{o:Option σ}{c1:σ->A1}{c2:σ->A2}{c3 c4:σ->Bool}{c5:σ->A5}{y:σ->B}{a1:A1}{a2:A2}{a5:A5}{b:B}(hA:o.map (fun s=>(c1 s,c2 s))=some (a1,a2)) (hB:o.map c3=some true) (hT:o.map c4=some true) (hC:o.map (fun s=>(c5 s,y s))=some (a5,b)):o.map (fun s=>((c1 s,c2 s,c3 s,c4 s,c5 s),y s))=some ((a1,a2,true,true,a5),b):=by
 cases o with
 | none=>cases hB
 | some s =>
  obtain ⟨e1,e2⟩:=Prod.mk.inj (Option.some.inj hA)
  obtain ⟨e5,e6⟩:=Prod.mk.inj (Option.some.inj hC)
  have e3:c3 s=true:=Option.some.inj hB
  have e4:c4 s=true:=Option.some.inj hT
  show some ((c1 s,c2 s,c3 s,c4 s,c5 s),y s)=_
  rw [e1,e2,e3,e4,e5,e6]
theorem Da0 (w:World):(openEnds treeTable pr w 3000).map (fun s=>(seen ((recsOf vw).map (·.name)) (ownsOf vw) [] { s with gens:=#[] },s.heap.bltView))=some (expectedOf vw,bltViewBooted):=by kernel_rfl
theorem Cz9 (w:World):(openEnds treeTable pr w 3000).map (fun s=>s.heap.keysOk (looseW vw []) ((recsOf vw).map (·.name)) ((litsOf vw).map (·.1)) ((clssOf vw (looseW vw [])).map (·.name))&&s.heap.accountedOkI (importedModules pr.main.body)&&s.heap.isNs mainGlobals&&s.heap.isNs builtinsNs&&tablesOk vw s.heap&&(xlAt vw [] s&&recOk [] s)&&(if true then s.gens.size==0 else !leftWithCleanup s.gens))=some true:=by kernel_rfl
theorem Cz7 (w:World):(openEnds treeTable pr w 3000).map (fun s=>tabsOk vw s)=some true:=by kernel_rfl
theorem Cz8 (w:World):(openEnds treeTable pr w 3000).map (fun s=>((pinSeenD vw (drecsOf vw) s,plainSeenE vw (looseW vw []) s,plainSeenD vw [] s,wideSeen vw s,clsSeenW vw [] s),Hook.obs Hook.none s))=some ((pinGoodD (drecsOf vw),plainGoodE vw (looseW vw []),plainGoodD vw [],wideGood vw,clsGoodW vw []),Hook.val Hook.none w):=by kernel_rfl
theorem left:LeftO pr vw [] (fun s=>xlAt vw [] s&&recOk [] s) (Hook.obs Hook.none) (Hook.val Hook.none) 3000:=fun w=>Da1 (Da0 w) (Cz9 w) (Cz7 w) (Cz8 w)
theorem said:PySem.Challenge.rw_uf010012_09.wellSaid=true:=by decide +kernel
end L09
namespace MiniS
open PySem PySem.Calls PyProof.Rows
open Mini (V)
noncomputable def dC:List Int->List Value->Prop
 | [],[]=>True
 | i::l,x::r=>(∃ t,x=.int i t)/\dC l r
 | _,_=>False
mutual
noncomputable def E7 (h₀:Heap) (φ:List Addr) (h:Heap):V->Value->Prop
 | .none,x=>x=.none
 | .bool b,x=>x=.bool b
 | .int i,x=>∃ t,x=.int i t
 | .str l,x=>l.length<=Mini.I3/\∃ t,x=.str ⟨l.toArray⟩ t
 | .ref i,x=>∃ a,φ[i]? = some a/\x=.ref a
 | .tup l,x=>l.length<=Mini.I3/\∃ a vs,x=.ref a/\IsTup h a vs.toArray/\C7 h₀ φ h l vs
 | .frz ns,x=>ns.length<=Mini.I3/\∃ a vs,x=.ref a/\h₀.IsList a vs.toArray/\dC ns vs
noncomputable def C7 (h₀:Heap) (φ:List Addr) (h:Heap):List V->List Value->Prop
 | [],[]=>True
 | v::l,x::r=>E7 h₀ φ h v x/\C7 h₀ φ h l r
 | _,_=>False
end
theorem C7.length {h₀ φ h}:∀ {l:List V}{vs:List Value},C7 h₀ φ h l vs->l.length=vs.length
 | [],[],_=>rfl
 | _::_,_::_,H=>by
  simp [C7.length H.2]
 | [],_::_,H=>False.elim H
 | _::_,[],H=>False.elim H
theorem C7.get {h₀ φ h}:∀ {l:List V}{vs:List Value},C7 h₀ φ h l vs->∀ {k:Nat}{v:V},l[k]? = some v->∃ x,vs[k]? = some x/\E7 h₀ φ h v x
 | [],_,_,_,_,e=>by simp at e
 | _::_,[],H,_,_,_=>False.elim H
 | v::l,x::r,H,0,_,e=>by
  simp at e;subst e
  exact ⟨x,by simp,H.1⟩
 | v::l,x::r,H,k+1,_,e=>by
  simp at e
  obtain ⟨y,hy,hr⟩:=C7.get H.2 e
  exact ⟨y,by simpa using hy,hr⟩
theorem C7.append {h₀ φ h}:∀ {l:List V}{vs:List Value}{l':List V}{vs':List Value},C7 h₀ φ h l vs->C7 h₀ φ h l' vs'->C7 h₀ φ h (l++l') (vs++vs')
 | [],[],_,_,_,H'=>H'
 | _::_,_::_,_,_,H,H'=>by
  simp only [List.cons_append]
  exact ⟨H.1,C7.append H.2 H'⟩
 | [],_::_,_,_,H,_=>False.elim H
 | _::_,[],_,_,H,_=>False.elim H
theorem C7.one {h₀ φ h}{v:V}{x:Value}(H:E7 h₀ φ h v x):C7 h₀ φ h [v] [x]:=by
 exact ⟨H,by trivial⟩
theorem C7.nil {h₀ φ h}:C7 h₀ φ h [] []:=by trivial
theorem C7.cons {h₀ φ h}{v:V}{x:Value}{l:List V}{vs:List Value}(H:E7 h₀ φ h v x) (H':C7 h₀ φ h l vs):C7 h₀ φ h (v::l) (x::vs):=by
 exact ⟨H,H'⟩
theorem C7.uncons {h₀ φ h}{v:V}{l:List V}{vs:List Value}(H:C7 h₀ φ h (v::l) vs):∃ x r,vs=x::r/\E7 h₀ φ h v x/\C7 h₀ φ h l r:=by
 cases vs with
 | nil=>exact False.elim H
 | cons x r=>exact ⟨x,r,rfl,H.1,H.2⟩
theorem C7.unnil {h₀ φ h}{vs:List Value}(H:C7 h₀ φ h [] vs):vs=[]:=by
 cases vs with
 | nil=>rfl
 | cons x r=>exact False.elim H
noncomputable def N8 (o:Obj):Prop:=o.cls=.type "tuple" /\ ∃ items n,o.data=.seq items n
mutual
theorem E7.mono {h₀:Heap}{φ φ':List Addr}{h h':Heap} (hφ:∀ (i:Nat) (a:Addr),φ[i]? = some a->φ'[i]? = some a)
  (hk:∀ a o,N8 o->h.get? a=some o->h'.get? a=some o):∀ (v:V) {x:Value},E7 h₀ φ h v x->E7 h₀ φ' h' v x
 | .none,_,H=>H
 | .bool _,_,H=>H
 | .int _,_,H=>H
 | .str _,_,H=>H
 | .ref i,_,H=>by
  obtain ⟨a,e,r⟩:=H
  exact ⟨a,hφ i a e,r⟩
 | .tup l,_,H=>by
  obtain ⟨hl,a,vs,e,⟨o,ho,hc,n,hd⟩,r⟩:=H
  exact ⟨hl,a,vs,e,⟨o,hk a o ⟨hc,_,_,hd⟩ ho,hc,n,hd⟩,C7.mono hφ hk l r⟩
 | .frz _,_,H=>H
theorem C7.mono {h₀:Heap}{φ φ':List Addr}{h h':Heap} (hφ:∀ (i:Nat) (a:Addr),φ[i]? = some a->φ'[i]? = some a)
  (hk:∀ a o,N8 o->h.get? a=some o->h'.get? a=some o):∀ (l:List V) {vs:List Value},C7 h₀ φ h l vs->C7 h₀ φ' h' l vs
 | [],[],_=>by trivial
 | v::l,x::r,H=>by
  exact ⟨E7.mono hφ hk v H.1,C7.mono hφ hk l H.2⟩
 | [],_::_,H=>False.elim H
 | _::_,[],H=>False.elim H
end
structure Ok (h₀:Heap) (φ:List Addr) (H:Mini.Heap) (h:Heap):Prop where
 base:∀ b o,h₀.get? b=some o->h.get? b=some o
 len:φ.length=H.length
 nodup:φ.Nodup
 above:∀ a∈φ,h₀.objs.size<=a
 small:∀ l∈H,l.length<=Mini.I3
 room:h₀.objs.size<=h.objs.size
 lists:∀ (i:Nat) (a:Addr) (l:List V),φ[i]? = some a->H[i]? = some l->∃ vs,h.PlainList a vs.toArray/\C7 h₀ φ h l vs
theorem Ok.mem {h₀ φ H h}(K:Ok h₀ φ H h) {a:Addr}(ha:a∈φ):∃ vs n,h.get? a=some { cls:=.type "list",data:=.seq vs n }:=by
 obtain ⟨i,hi⟩:=List.getElem?_of_mem ha
 have hl:i<H.length:=by
  rw [<- K.len]
  exact (List.getElem?_eq_some_iff.mp hi).1
 obtain ⟨vs,⟨n,e⟩,_⟩:=K.lists i a _ hi (List.getElem?_eq_getElem hl)
 exact ⟨_,n,e⟩
theorem Ok.lt {h₀ φ H h}(K:Ok h₀ φ H h) {a:Addr}(ha:a∈φ):a<h.objs.size:=by
 obtain ⟨_,_,e⟩:=K.mem ha
 exact Heap.lt_size e
structure Dd8 (φ:List Addr) (s s':Shared):Prop where
 same:∃ h' tk,s'={ s with heap:=h',toks:=tk }
 keep:∀ b o,b ∉ φ->s.heap.get? b=some o->s'.heap.get? b=some o
 size:s.heap.objs.size<=s'.heap.objs.size
 toks:s.toks<=s'.toks
structure I4 (h₀:Heap) (φ:List Addr) (s:Shared) (φ':List Addr) (H':Mini.Heap) (s':Shared):Prop where
 step:Dd8 φ s s'
 grow:∃ ψ,φ'=φ++ψ/\∀ a∈ψ,s.heap.objs.size<=a
 ok:Ok h₀ φ' H' s'.heap
theorem I4.refl {h₀ φ s H}(K:Ok h₀ φ H s.heap):I4 h₀ φ s φ H s :=
 ⟨⟨⟨s.heap,s.toks,rfl⟩,fun zz zz zz e=>e,A4 _,A4 _⟩,⟨[],by simp,by simp⟩,K⟩
theorem I4.trans {h₀ φ s φ₁ H₁ s₁ φ₂ H₂ s₂}(a:I4 h₀ φ s φ₁ H₁ s₁) (b:I4 h₀ φ₁ s₁ φ₂ H₂ s₂):I4 h₀ φ s φ₂ H₂ s₂:=by
 obtain ⟨⟨⟨h1,t1,e1⟩,k1,z1,w1⟩,⟨ψ1,g1,m1⟩,o1⟩:=a
 obtain ⟨⟨⟨h2,t2,e2⟩,k2,z2,w2⟩,⟨ψ2,g2,m2⟩,o2⟩:=b
 refine ⟨⟨⟨h2,t2,by rw [e2,e1]⟩,fun b o hb e=>?_,A3 z1 z2,A3 w1 w2⟩,⟨ψ1++ψ2,by rw [g2,g1,A7],fun a ha=>?_⟩,o2⟩
 ·refine k2 b o ?_ (k1 b o hb e)
  rw [g1,List.mem_append,not_or]
  exact ⟨hb,fun hm=>absurd (Heap.lt_size e) (Nat.not_lt.mpr (m1 b hm))⟩
 ·rcases List.mem_append.mp ha with q | q
  ·exact m1 a q
  ·exact A3 z1 (m2 a q)
theorem I4.idx {h₀ φ s φ' H' s'}(F:I4 h₀ φ s φ' H' s'):∀ (i:Nat) (a:Addr),φ[i]? = some a->φ'[i]? = some a:=by
 obtain ⟨_,⟨ψ,e,_⟩,_⟩:=F
 intro i a hi
 rw [e,List.getElem?_append_left (List.getElem?_eq_some_iff.mp hi).1];exact hi
theorem I4.tups {h₀ φ s φ' H H' s'}(K:Ok h₀ φ H s.heap) (F:I4 h₀ φ s φ' H' s'):∀ a o,N8 o->s.heap.get? a=some o->s'.heap.get? a=some o:=by
 intro a o hc ho
 refine F.step.keep a o (fun hm=>?_) ho
 obtain ⟨vs,n,e⟩:=K.mem hm
 rw [e] at ho;cases ho
 simp [N8] at hc
theorem I4.val {h₀ φ s φ' H H' s'}(K:Ok h₀ φ H s.heap) (F:I4 h₀ φ s φ' H' s') {v:V}{x:Value}(r:E7 h₀ φ s.heap v x):E7 h₀ φ' s'.heap v x :=
 E7.mono F.idx (F.tups K) v r
theorem I4.vals {h₀ φ s φ' H H' s'}(K:Ok h₀ φ H s.heap) (F:I4 h₀ φ s φ' H' s') {v:List V}{x:List Value}(r:C7 h₀ φ s.heap v x):C7 h₀ φ' s'.heap v x :=
 C7.mono F.idx (F.tups K) v r
theorem Ok.ext {h₀ φ H h h'}(K:Ok h₀ φ H h) (hk:∀ b o,h.get? b=some o->h'.get? b=some o) (hz:h.objs.size<=h'.objs.size):Ok h₀ φ H h' :=
 ⟨fun b o e=>hk b o (K.base b o e),K.len,K.nodup,K.above,K.small,A3 K.room hz,fun i a l hi hl=>by
  obtain ⟨vs,⟨n,e⟩,r⟩:=K.lists i a l hi hl
  exact ⟨vs,⟨n,hk _ _ e⟩,C7.mono (fun zz zz q=>q) (fun a o zz q=>hk a o q) l r⟩⟩
theorem I4.ext {h₀ φ s H h'}{tk:Nat}(K:Ok h₀ φ H s.heap) (hk:∀ b o,s.heap.get? b=some o->h'.get? b=some o) (hz:s.heap.objs.size<=h'.objs.size) (ht:s.toks<=tk) :
  I4 h₀ φ s φ H { s with heap:=h',toks:=tk } :=
 ⟨⟨⟨h',tk,rfl⟩,fun b o zz e=>hk b o e,hz,ht⟩,⟨[],by simp,by simp⟩,K.ext hk hz⟩
theorem I4.tok {h₀ φ s H}{tk:Nat}(K:Ok h₀ φ H s.heap) (ht:s.toks<=tk:=by first | exact A4 _ | exact B8 _ | lia):I4 h₀ φ s φ H { s with toks:=tk } :=
 I4.ext (h':=s.heap) K (fun zz zz e=>e) (A4 _) ht
theorem I4.push {h₀ φ s H}{ob:Obj}{tk:Nat}(K:Ok h₀ φ H s.heap) (ht:s.toks<=tk:=by first | exact A4 _ | exact B8 _ | lia):I4 h₀ φ s φ H { s with heap:=s.heap.push ob,toks:=tk } :=
 I4.ext K (fun zz zz e=>Heap.get?_push_of_some _ e) (by rw [Heap.size_push];exact B8 _) ht
theorem I4.allocG {h₀ φ s H}{l:List V}{vs:List Value}{a:Addr}{h':Heap}{tk:Nat}(K:Ok h₀ φ H s.heap) (r:C7 h₀ φ s.heap l vs) (hl:l.length<=Mini.I3)
  (ha:s.heap.objs.size<=a) (hk:∀ b o,s.heap.get? b=some o->h'.get? b=some o) (hp:h'.PlainList a vs.toArray) (ht:s.toks<=tk:=by first | exact A4 _ | exact B8 _ | lia) :
  I4 h₀ φ s (φ++[a]) (H++[l]) { s with heap:=h',toks:=tk }:=by
 have hi:∀ (i:Nat) (b:Addr),φ[i]? = some b->(φ++[a])[i]? = some b:=fun i b e=>by
  rw [List.getElem?_append_left (List.getElem?_eq_some_iff.mp e).1];exact e
 have hz:s.heap.objs.size<=h'.objs.size:=by
  obtain ⟨n,e⟩:=hp
  exact A3 ha (B5 (Heap.lt_size e))
 refine ⟨⟨⟨_,_,rfl⟩,fun b o zz e=>hk b o e,hz,ht⟩,⟨[a],rfl,by simpa using ha⟩,?_⟩
 refine ⟨fun b o e=>hk b o (K.base b o e),by simp [K.len],?_,?_,?_,A3 K.room hz,?_⟩
 ·rw [List.nodup_append]
  refine ⟨K.nodup,by simp,fun b hb c hc=>?_⟩
  simp at hc;subst hc
  exact Nat.ne_of_lt (A8 (K.lt hb) ha)
 ·intro b hb
  rcases List.mem_append.mp hb with q | q
  ·exact K.above b q
  ·simp at q;subst q;exact A3 K.room ha
 ·intro l' hl'
  rcases List.mem_append.mp hl' with q | q
  ·exact K.small l' q
  ·simp at q;subst q;exact hl
 ·intro i b l' e el
  by_cases hlt:i<φ.length
  ·rw [List.getElem?_append_left hlt] at e
   rw [List.getElem?_append_left (by rw [<- K.len];exact hlt)] at el
   obtain ⟨vs',⟨n',p⟩,r'⟩:=K.lists i b l' e el
   exact ⟨vs',⟨n',hk _ _ p⟩,C7.mono hi (fun a o zz q=>hk a o q) l' r'⟩
  ·have hle:φ.length<=i:=Nat.le_of_not_lt hlt
   rw [List.getElem?_append_right hle] at e
   rw [List.getElem?_append_right (by rw [<- K.len];exact hle)] at el
   have:i - φ.length=0:=by
    cases h:i - φ.length with
    | zero=>rfl
    | succ k=>rw [h] at e;simp at e
   rw [this] at e
   rw [<- K.len,this] at el
   simp at e el
   subst e;subst el
   exact ⟨vs,hp,C7.mono hi (fun a o zz q=>hk a o q) _ r⟩
theorem I4.alloc {h₀ φ s H}{l:List V}{vs:List Value}{n tk:Nat}(K:Ok h₀ φ H s.heap) (r:C7 h₀ φ s.heap l vs) (hl:l.length<=Mini.I3) (ht:s.toks<=tk:=by first | exact A4 _ | exact B8 _ | lia) :
  I4 h₀ φ s (φ++[s.heap.objs.size]) (H++[l]) { s with heap:=s.heap.push { cls:=.type "list",data:=.seq vs.toArray n },toks:=tk } :=
 I4.allocG K r hl (A4 _) (fun zz zz e=>Heap.get?_push_of_some _ e) ⟨n,Heap.get?_push_size _ rfl⟩ ht
theorem I4.change {h₀ φ s H}{i:Nat}{a:Addr}{l':List V}{vs':List Value}{h':Heap}{tk:Nat}(K:Ok h₀ φ H s.heap) (hi:φ[i]? = some a)
  (hsame:Heap.SameBut a s.heap h') (hp:h'.PlainList a vs'.toArray) (r:C7 h₀ φ s.heap l' vs') (hl:l'.length<=Mini.I3) (ht:s.toks<=tk:=by first | exact A4 _ | exact B8 _ | lia) :
  I4 h₀ φ s φ (H.set i l') { s with heap:=h',toks:=tk }:=by
 have ham:a∈φ:=B9 hi
 obtain ⟨vs₀,n₀,e₀⟩:=K.mem ham
 have keep:∀ b o,b≠a->s.heap.get? b=some o->h'.get? b=some o:=fun b o hb e=>(hsame.2 b hb).trans e
 have tups:∀ b o,N8 o->s.heap.get? b=some o->h'.get? b=some o:=fun b o hc e=>keep b o (by
  rintro rfl
  rw [e₀] at e;cases e;simp [N8] at hc) e
 refine ⟨⟨⟨_,_,rfl⟩,fun b o hb e=>keep b o (fun q=>hb (q▸ham)) e,Nat.le_of_eq hsame.1.symm,ht⟩,⟨[],by simp,by simp⟩,?_⟩
 refine ⟨fun b o e=>keep b o (fun q=>?_) (K.base b o e),by simp [K.len],K.nodup,K.above,?_,A3 K.room (Nat.le_of_eq hsame.1.symm),?_⟩
 ·subst q
  exact absurd (Heap.lt_size e) (Nat.not_lt.mpr (K.above _ ham))
 ·intro l hm
  rcases List.mem_or_eq_of_mem_set hm with q | q
  ·exact K.small l q
  ·subst q;exact hl
 ·intro j b l e el
  by_cases hij:j=i
  ·subst hij
   rw [hi] at e;cases e
   have hjl:j<H.length:=by
    rw [<- K.len];exact (List.getElem?_eq_some_iff.mp hi).1
   rw [List.getElem?_set_self hjl] at el
   cases el
   exact ⟨vs',hp,C7.mono (fun zz zz q=>q) tups _ r⟩
  ·rw [List.getElem?_set_ne (Ne.symm hij)] at el
   obtain ⟨vs,⟨n,p⟩,r'⟩:=K.lists j b l e el
   have hb:b≠a:=by
    rintro rfl
    exact hij ((List.getElem?_inj (List.getElem?_eq_some_iff.mp e).1 K.nodup).mp (e.trans hi.symm))
   exact ⟨vs,⟨n,keep b _ hb p⟩,C7.mono (fun zz zz q=>q) tups _ r'⟩
end MiniS
namespace MiniS
open PySem PySem.Calls PyProof.Rows
open Mini (V)
noncomputable def pI (h₀:Heap) (φ:List Addr) (h:Heap):Option V->Option Value->Prop
 | some v,o=>∃ x,o=some x/\E7 h₀ φ h v x
 | none,_=>True
structure Cx where
 prog:Program
 w:World
 h₀:Heap
 gl:Mini.Gl
 P:Mini.Prg
 mg:Str->Option Value
 mb:Str->Option Value
noncomputable def kP (ls:List Nat) (i tk:Nat) (o:Option Value):Prop:=i∈ls->∀ x,o=some x->∃ l t,x=.str l t/\0<t/\t<tk
theorem kP.mono {ls:List Nat}{i tk tk':Nat}{o:Option Value}(h:kP ls i tk o) (ht:tk<=tk'):kP ls i tk' o:=fun hi x hx =>
 let ⟨l,t,e,h1,h2⟩:=h hi x hx;⟨l,t,e,h1,A8 h2 ht⟩
structure E5 (X:Cx) (φ:List Addr) (nm:List Str) (env:Env) (ρ:Mini.D7) (s:Shared):Prop where
 kind:env.scope.kind=.function
 glob:env.globals=mainGlobals
 blt:env.builtins=builtinsNs
 len:ρ.length=nm.length
 nodup:nm.Nodup
 pos:X.gl.pos=true->0<s.toks
 locals:∃ m,s.heap.Ns env.locals m/\∀ (i:Nat) (x:Str),nm[i]? = some x->env.kindOf x=some .local->pI X.h₀ φ s.heap ((ρ[i]?).getD none) (m x)/\kP X.gl.lits i s.toks (m x)
 cells:∀ (i:Nat) (x:Str),nm[i]? = some x->(env.kindOf x=some .cell∨env.kindOf x=some .free) ->
  ∃ c ov,env.cells.lookup x=some c/\s.heap.IsCell c ov/\pI X.h₀ φ s.heap ((ρ[i]?).getD none) ov/\kP X.gl.lits i s.toks ov
 above:X.h₀.objs.size<=env.locals
 aboveC:∀ x c,env.cells.lookup x=some c->X.h₀.objs.size<=c
 cellAll:∀ x c,env.cells.lookup x=some c->∃ ov,s.heap.IsCell c ov
 apart:∀ x y c,env.cells.lookup x=some c->env.cells.lookup y=some c->x=y
theorem pI.mono {h₀ φ φ' h h'}{v:Option V}{o:Option Value}(r:pI h₀ φ h v o) (hr:∀ v x,E7 h₀ φ h v x->E7 h₀ φ' h' v x):pI h₀ φ' h' v o:=by
 cases v with
 | none=>trivial
 | some v=>obtain ⟨x,e,q⟩:=r;exact ⟨x,e,hr _ _ q⟩
theorem E5.fwd {X φ nm env ρ s φ' H H' s'}(L:E5 X φ nm env ρ s) (K:Ok X.h₀ φ H s.heap) (F:I4 X.h₀ φ s φ' H' s'):E5 X φ' nm env ρ s':=by
 have hr:∀ v x,E7 X.h₀ φ s.heap v x->E7 X.h₀ φ' s'.heap v x:=fun v x r=>F.val K r
 refine ⟨L.kind,L.glob,L.blt,L.len,L.nodup,fun hp=>A8 (L.pos hp) F.step.toks,?_,?_,L.above,L.aboveC,?_,L.apart⟩
 ·obtain ⟨m,⟨o,es,ep,ho,hd,q⟩,hm⟩:=L.locals
  have hn:env.locals ∉ φ:=fun hm=>by
   obtain ⟨vs,n,e⟩:=K.mem hm
   rw [e] at ho;cases ho;simp at hd
  exact ⟨m,⟨o,es,ep,F.step.keep _ _ hn ho,hd,q⟩,fun i x hx hk=>⟨(hm i x hx hk).1.mono hr,(hm i x hx hk).2.mono F.step.toks⟩⟩
 ·intro i x hx hk
  obtain ⟨c,ov,hc,⟨o,ho,hd⟩,r,lr⟩:=L.cells i x hx hk
  have hn:c ∉ φ:=fun hm=>by
   obtain ⟨vs,n,e⟩:=K.mem hm
   rw [e] at ho;cases ho;simp at hd
  exact ⟨c,ov,hc,⟨o,F.step.keep _ _ hn ho,hd⟩,r.mono hr,lr.mono F.step.toks⟩
 ·intro x c hc
  obtain ⟨ov,o,ho,hd⟩:=L.cellAll x c hc
  have hn:c ∉ φ:=fun hm=>by
   obtain ⟨vs,n,e⟩:=K.mem hm
   rw [e] at ho;cases ho;simp at hd
  exact ⟨ov,o,F.step.keep _ _ hn ho,hd⟩
noncomputable def dB:List String:=["len", "isinstance", "ord", "sorted"]
noncomputable def cZ:List String:=["str", "int", "bool", "list", "tuple", "range", "enumerate"]
structure cR (X:Cx):Prop where
 g:X.h₀.Ns mainGlobals X.mg
 b:X.h₀.Ns builtinsNs X.mb
 nolimit:X.h₀.NoLimit
 globs:∀ g i,(g,i)∈X.gl.intL->∃ t,X.mg (Str.ofString g)=some (.int i t)
 fns:∀ f ls,X.gl.fns.lookup f=some ls->∃ fn fa o params body scope pm cd doc,X.P f=some fn/\fn.lits=ls/\X.mg (Str.ofString f)=some (.ref fa)/\X.h₀.get? fa=some o /\
  o.data=.func (docDef (Str.ofString f) params body scope pm cd doc)/\X.h₀.CodeRec cd (Str.ofString f)/\Mini.tN X.gl fn params body scope=true
 bf:∀ n∈dB,X.mg (Str.ofString n)=none/\X.mb (Str.ofString n)=some (.builtin n)
 bt:∀ n∈cZ,X.mg (Str.ofString n)=none/\X.mb (Str.ofString n)=some (.type n)
abbrev M1 (X:Cx):Model:=model X.prog X.w
noncomputable def W6 (X:Cx) (Q:V->Mini.Heap->Prop) (φ:List Addr) (s:Shared) (K:Value->Shared->Prop):Prop :=
 ∀ v H' φ' x s',Q v H'->I4 X.h₀ φ s φ' H' s'->E7 X.h₀ φ' s'.heap v x->K x s'
noncomputable def E4 (X:Cx) (A:Around) (C:Mini.Calls) (e:Mini.E):Prop :=
 ∀ (re:Expr) (env:Env) (nm:List Str) (ρ:Mini.D7) (Q:V->Mini.Heap->Prop) (H:Mini.Heap) (φ:List Addr) (s:Shared) (K EX:Value->Shared->Prop),
  Mini.D5 X.gl env.scope.names nm e re=true->E5 X φ nm env ρ s->Ok X.h₀ φ H s.heap->Mini.E2 C e ρ Q H->W6 X Q φ s K ->
  wpAny (M1 X) A (eval re env) K EX s
section
variable {X:Cx}{A:Around}{C:Mini.Calls}
theorem Bq8:E4 X A C .none:=by
 intro re env nm ρ Q H φ s K EX hc L O h k
 refine Mini.Bv6 hc fun k9 p e9=>?_
 clear hc;subst e9
 ·exact wpAny_pure (k _ _ _ _ _ h (I4.refl O) (by rfl))
theorem Bs2 {b:Bool}:E4 X A C (.bool b):=by
 intro re env nm ρ Q H φ s K EX hc L O h k
 refine Mini.Bw2 hc fun k9 p e9=>?_
 clear hc;subst e9
 ·exact wpAny_pure (k _ _ _ _ _ h (I4.refl O) (by rfl))
theorem Cd2 {i:Int}:E4 X A C (.int i):=by
 intro re env nm ρ Q H φ s K EX hc L O h k
 refine Mini.Cg6 hc fun k9 p e9=>?_
 clear hc;subst e9
 ·exact wpAny_Constant_int (k _ _ _ _ _ h (I4.tok O) (by exact ⟨_,rfl⟩))
theorem Cc4 {l:List Nat}:E4 X A C (.str l):=by
 intro re env nm ρ Q H φ s K EX hc L O h k
 refine Mini.xA hc fun x k9 p e9 hx9 hl=>?_
 clear hc;subst e9
 ·subst hx9
  exact Constant_str (k _ _ _ _ _ h (I4.tok O) (by exact ⟨hl,s.toks,by simp⟩))
theorem Bt4 {env:Env}{nm:List Str}{ρ:Mini.D7}{φ:List Addr}{s:Shared}{K EX:Value->Shared->Prop}{id:Str}{x:Nat}{v:V}
  (L:E5 X φ nm env ρ s) (hx:nm[x]? = some id) (hl:Mini.S8 env.scope.names id=true) (hv:ρ[x]? = some (some v))
  (k:∀ y,E7 X.h₀ φ s.heap v y->kP X.gl.lits x s.toks (some y)->K y s) (hcl:(id==("__classdict__" : Str))=false):wpAny (M1 X) A (loadName env id) K EX s:=by
 have hkind:env.kindOf id=env.scope.names.lookup id:=rfl
 unfold Mini.S8 at hl
 split at hl
 ·rename_i e
  obtain ⟨m,hns,hm⟩:=L.locals
  have r:=hm x id hx (hkind.trans e)
  rw [hv] at r
  obtain ⟨⟨y,ey,q⟩,lr⟩:=r
  exact wpAny_loadName_local L.kind (hkind.trans e) hns ey (k y q (ey▸lr))
 ·rename_i e
  obtain ⟨c,ov,hc,hcell,r,lr⟩:=L.cells x id hx (Or.inl (hkind.trans e))
  rw [hv] at r
  obtain ⟨y,ey,q⟩:=r
  subst ey
  exact wpAny_loadName_cell L.kind (hkind.trans e) hc hcell (k y q lr)
 ·rename_i e
  obtain ⟨c,ov,hc,hcell,r,lr⟩:=L.cells x id hx (Or.inr (hkind.trans e))
  rw [hv] at r
  obtain ⟨y,ey,q⟩:=r
  subst ey
  exact wpAny_loadName_free L.kind (hkind.trans e) hc hcell (k y q lr) hcl
 ·cases hl
theorem free {α:Type}{M:Model}{A:Around}{t:Sem α}{K:α->Shared->Prop}{EX:Value->Shared->Prop}{s:Shared}
  (h:wpAny M A t (fun x s'=>s.toks<=s'.toks->K x s') EX s):wpAny M A t K EX s :=
 wpAny_mono (wpAny_toks_of (A4 s.toks) h) (fun zz zz q=>q.2 q.1) fun zz zz q=>q.2
end
end MiniS
namespace MiniS
open PySem PySem.Calls PyProof.Rows
open Mini (V)
section
variable {X:Cx}{A:Around}{C:Mini.Calls}
theorem W6.after {Q:V->Mini.Heap->Prop}{φ:List Addr}{s:Shared}{K:Value->Shared->Prop}{φ₁:List Addr}{H₁:Mini.Heap}{s₁:Shared}
  (k:W6 X Q φ s K) (F:I4 X.h₀ φ s φ₁ H₁ s₁):W6 X Q φ₁ s₁ K :=
 fun v H' φ' x s' q F' r=>k v H' φ' x s' q (F.trans F') r
set_option tactic.hygienic true in
theorem Av3 {x:Nat}:E4 X A C (.var x):=by
 intro re env nm ρ Q H φ s K EX hc L O h k
 refine Mini.Cg2 hc fun id p e9 hc9=>?_
 clear hc;subst e9
 ·simp only [Bool.and_eq_true,beq_iff_eq] at hc9
  obtain ⟨⟨h1,h2⟩,h3⟩:=hc9
  simp only [Mini.N3,Bool.and_eq_true,Bool.not_eq_true'] at h3
  replace h:=Mini.Bm1 h
  split at h
  ·rename_i v hv
   exact wpAny_Name (Bt4 L h1 h2 hv (fun y r zz=>k _ _ _ _ _ h (I4.refl O) r) h3.2) h3.1
  ·exact h.elim
theorem bE (G:cR X) {env:Env}{nm:List Str}{ρ:Mini.D7}{φ:List Addr}{H:Mini.Heap}{s:Shared}{K EX:Value->Shared->Prop}{id:Str}{v:Value}{p:Pos}
  (L:E5 X φ nm env ρ s) (O:Ok X.h₀ φ H s.heap) (hg:Mini.T9 env.scope.names id=true) (hd:(id==("__debug__" : Str))=false) (hv:X.mg id=some v) (k:K v s) :
  wpAny (M1 X) A (eval (.Name id p) env) K EX s:=by
 have hkind:env.kindOf id=some .globalImplicit:=by
  show env.scope.names.lookup id=_
  unfold Mini.T9 at hg
  split at hg
  ·assumption
  ·cases hg
 exact Name_function_global L.kind hkind (loadGlobal_global (by rw [L.glob];exact G.g.keeps O.base) hv k) hd
theorem zU (G:cR X) {env:Env}{nm:List Str}{ρ:Mini.D7}{φ:List Addr}{H:Mini.Heap}{s:Shared}{K EX:Value->Shared->Prop}{id:Str}{v:Value}{p:Pos}
  (L:E5 X φ nm env ρ s) (O:Ok X.h₀ φ H s.heap) (hg:Mini.T9 env.scope.names id=true) (hd:(id==("__debug__" : Str))=false) (hn:X.mg id=none) (hv:X.mb id=some v) (k:K v s) :
  wpAny (M1 X) A (eval (.Name id p) env) K EX s:=by
 have hkind:env.kindOf id=some .globalImplicit:=by
  show env.scope.names.lookup id=_
  unfold Mini.T9 at hg
  split at hg
  ·assumption
  ·cases hg
 exact Name_function_global L.kind hkind (loadGlobal_builtin (by rw [L.glob];exact G.g.keeps O.base) hn (by rw [L.blt];exact G.b.keeps O.base) hv k) hd
theorem Br4 (G:cR X) {g:String}{i:Int}:E4 X A C (.glob g i):=by
 intro re env nm ρ Q H φ s K EX hc L O h k
 refine Mini.Bv8 hc fun id p e9 hc9=>?_
 clear hc;subst e9
 ·simp only [Bool.and_eq_true,beq_iff_eq] at hc9
  obtain ⟨⟨⟨h1,h2⟩,h3⟩,h4⟩:=hc9
  subst h1
  simp only [Mini.N3,Bool.and_eq_true,Bool.not_eq_true'] at h4
  obtain ⟨t,ht⟩:=G.globs g i (by simpa using h2)
  replace h:=Mini.Cf4 h
  exact bE G L O h3 h4.1 ht (k _ _ _ _ _ h (I4.refl O) (by exact ⟨_,rfl⟩))
theorem G7:sizeLine=Mini.I3:=by decide +kernel
theorem fU {a:Int}(h:a.natAbs<1152921504606846976):Builtin.Int.intBits a<=64:=by
 unfold Builtin.Int.intBits
 split
 ·exact Mini.fG
 ·rename_i h0
  have h0:a.natAbs≠0:=by simpa using h0
  have:a.natAbs.log2<60:=(Nat.log2_lt h0).mpr (by simpa using h)
  exact Mini.G9 this
theorem E3 {h₀ φ h}{i:Int}{x:Value}(r:E7 h₀ φ h (.int i) x):∃ t,x=.int i t:=by exact r
theorem I2 {h₀ φ h}{l:List Nat}{x:Value}(r:E7 h₀ φ h (.str l) x):∃ t,x=.str ⟨l.toArray⟩ t:=by exact r.2
theorem len_str {h₀ φ h}{l:List Nat}{x:Value}(r:E7 h₀ φ h (.str l) x):l.length<=Mini.I3:=by exact r.1
theorem Aw2 {h₀ φ h}{l:List V}{x:Value}(r:E7 h₀ φ h (.tup l) x):l.length<=Mini.I3:=by exact r.1
theorem dH {h₀ φ h}{l:List Int}{x:Value}(r:E7 h₀ φ h (.frz l) x):l.length<=Mini.I3/\∃ a vs,x=.ref a/\h₀.IsList a vs.toArray/\dC l vs:=by exact r
theorem J9 {h₀ φ h}{i:Nat}{x:Value}(r:E7 h₀ φ h (.ref i) x):∃ a,φ[i]? = some a/\x=.ref a:=by exact r
theorem X4 {h₀ φ h}{b:Bool}{x:Value}(r:E7 h₀ φ h (.bool b) x):x=.bool b:=by exact r
theorem lA {h₀ φ h}{x:Value}(r:E7 h₀ φ h .none x):x=.none:=by exact r
theorem iY {h₀ φ h}{l:List V}{x:Value}(r:E7 h₀ φ h (.tup l) x):∃ a vs,x=.ref a/\IsTup h a vs.toArray/\C7 h₀ φ h l vs:=by exact r.2
theorem R4 {h₀ φ h}{i:Int}{t:Tok}:E7 h₀ φ h (.int i) (.int i t):=by exact ⟨_,rfl⟩
theorem bT {h₀ φ h}{b:Bool}:E7 h₀ φ h (.bool b) (.bool b):=by rfl
theorem kO {h₀ φ h}{l:List Nat}{t:Tok}(hl:l.length<=Mini.I3):E7 h₀ φ h (.str l) (.str ⟨l.toArray⟩ t):=by exact ⟨hl,_,rfl⟩
theorem oL {h₀ φ h}{l:List Nat}{x:Str}{t:Tok}(e:x=⟨l.toArray⟩) (hl:l.length<=Mini.I3):E7 h₀ φ h (.str l) (.str x t):=by subst e;exact kO hl
theorem cY {h₀ φ h}{i:Nat}{a:Addr}(e:φ[i]? = some a):E7 h₀ φ h (.ref i) (.ref a):=by exact ⟨_,e,rfl⟩
theorem Be1 (l:List (List Nat)):∀ a:List Nat,(l.map List.toArray).foldl (· ++ ·) a.toArray=(a++l.flatten).toArray:=by
 induction l with
 | nil=>intro a;simp
 | cons x r ih=>intro a;simp only [List.map_cons,List.foldl_cons,List.append_toArray,ih,List.flatten_cons,A7]
theorem Cc1 (l:List Nat) (n:Int):Txt.mul ⟨l.toArray⟩ n=⟨(List.replicate n.toNat l).flatten.toArray⟩:=by
 unfold Txt.mul
 split
 ·have:n.toNat=0:=by lia
  rw [this];rfl
 ·split
  ·rename_i h1 h2
   simp only [Bool.or_eq_true,beq_iff_eq] at h2
   rcases h2 with h2 | h2
   ·subst h2;simp
   ·have:l=[]:=by simpa [Str.length] using h2
    subst this;simp
  ·have:=Be1 (List.replicate n.toNat l) []
   simp only [List.map_replicate,List.nil_append] at this
   exact congrArg Str.mk this
theorem Ap5 (l:List (List Value)):∀ a:List Value,(l.map List.toArray).foldl (fun x y=>x++y) a.toArray=(a++l.flatten).toArray:=by
 induction l with
 | nil=>intro a;simp
 | cons x r ih=>intro a;simp only [List.map_cons,List.foldl_cons,List.append_toArray,ih,List.flatten_cons,A7]
theorem C7.replicate {h₀ φ h}{l:List V}{vs:List Value}(r:C7 h₀ φ h l vs):∀ n:Nat,C7 h₀ φ h (List.replicate n l).flatten (List.replicate n vs).flatten
 | 0=>by simpa using C7.nil
 | n+1=>by
  simp only [List.replicate_succ,List.flatten_cons]
  exact r.append (C7.replicate r n)
theorem I4.newRef {h₀ φ s H}{l:List V}{tk:Nat}{ob:Obj}(_:I4 h₀ φ s (φ++[s.heap.objs.size]) (H++[l]) { s with heap:=s.heap.push ob,toks:=tk }) (O:Ok h₀ φ H s.heap) :
  E7 h₀ (φ++[s.heap.objs.size]) (s.heap.push ob) (.ref H.length) (.ref s.heap.objs.size) :=
 cY (by rw [<- O.len];simp)
theorem Bs4 {a b v:V}{x y:Value}{Q:V->Mini.Heap->Prop}{H H':Mini.Heap}{φ:List Addr}{s:Shared}{K EX:Value->Shared->Prop}
  (O:Ok X.h₀ φ H s.heap) (ra:E7 X.h₀ φ s.heap a x) (rb:E7 X.h₀ φ s.heap b y) (h:Mini.Cx3 a b H=some (v,H')) (q:Q v H') (k:W6 X Q φ s K) :
  wpAny (M1 X) A (binaryOp .Add x y) K EX s:=by
 cases a with
 | int a0 =>
  replace h:=Mini.I9 h;obtain ⟨j,rfl,h⟩:=h
  cases h
  obtain ⟨t,rfl⟩:=E3 ra
  obtain ⟨u,rfl⟩:=E3 rb
  exact add_int (k _ _ _ _ _ q (I4.tok O) R4)
 | str a0 =>
  replace h:=Mini.qC h;obtain ⟨j,rfl,h⟩:=h
  obtain ⟨hc,h⟩:=Mini.aM h
  cases h
  obtain ⟨t,rfl⟩:=I2 ra
  obtain ⟨u,rfl⟩:=I2 rb
  refine free (PyProof.Rows.add_str (fun t' tk ht=>k _ _ _ _ _ q (I4.tok O ht) (oL ?_ (by simpa using hc))) ?_)
  ·show Str.append _ _=_
   simp [Str.append]
  ·simpa [Str.length,G7] using hc
 | ref a0 =>
  replace h:=Mini.jE h;obtain ⟨j,rfl,h⟩:=h
  obtain ⟨pa,ea,rfl⟩:=J9 ra
  obtain ⟨pb,eb,rfl⟩:=J9 rb
  obtain ⟨l,hl,h⟩:=Option.bind_eq_some_iff.mp h
  obtain ⟨r,hr,h⟩:=Option.bind_eq_some_iff.mp h
  obtain ⟨hc,h⟩:=Mini.aM h
  cases h
  obtain ⟨vs,⟨n,e⟩,q1⟩:=O.lists _ _ _ ea hl
  obtain ⟨vs',⟨n',e'⟩,q2⟩:=O.lists _ _ _ eb hr
  have F:=I4.alloc (n:=0) (tk:=s.toks) O (q1.append q2) (by simpa using hc)
  refine P.add_list (n:=n) (n2:=n') e e' ?_ ?_
  ·have:(vs.toArray++vs'.toArray)=(vs++vs').toArray:=by simp
   rw [this]
   exact k _ _ _ _ _ q F (I4.newRef F O)
  ·rw [G7];simp [<- q1.length,<- q2.length];exact hc
 | _=>exact nomatch (show Option.none=some _ from h)
theorem Bq9 {a b v:V}{x y:Value}{Q:V->Mini.Heap->Prop}{H H':Mini.Heap}{φ:List Addr}{s:Shared}{K EX:Value->Shared->Prop}
  (O:Ok X.h₀ φ H s.heap) (ra:E7 X.h₀ φ s.heap a x) (rb:E7 X.h₀ φ s.heap b y) (h:Mini.Cx2 a b H=some (v,H')) (q:Q v H') (k:W6 X Q φ s K) :
  wpAny (M1 X) A (binaryOp .Mult x y) K EX s:=by
 cases a with
 | int a0 =>
  replace h:=Mini.I9 h;obtain ⟨j,rfl,h⟩:=h
  obtain ⟨hc,h⟩:=Mini.aM h
  cases h
  obtain ⟨t,rfl⟩:=E3 ra
  obtain ⟨u,rfl⟩:=E3 rb
  refine mul_int (k _ _ _ _ _ q (I4.tok O) R4) ?_
  rcases hc with hc | hc
  ·exact IntMulOk.of_left (fU hc)
  ·exact IntMulOk.of_right (fU hc)
 | str a =>
  replace h:=Mini.I9 h;obtain ⟨n,rfl,h⟩:=h
  obtain ⟨hc,h⟩:=Mini.aM h
  cases h
  obtain ⟨t,rfl⟩:=I2 ra
  obtain ⟨u,rfl⟩:=E3 rb
  refine free (SB.mul ?_ (fun t' tk ht=>k _ _ _ _ _ q (I4.tok O ht) (oL (Cc1 _ _) (by simpa [Nat.mul_comm] using hc.1))))
  obtain ⟨h1,h2,h3⟩:=hc
  refine ⟨by simp;lia,fun hn zz=>?_,fun hn zz=>?_⟩
  ·have hn:1<=n:=by lia
   simp only [Str.length,List.size_toArray]
   intro hgt
   have h4:(a.length:Int) * n<=Mini.I3:=by
    have:(n.toNat:Int)=n:=by lia
    rw [<- this];exact_mod_cast h1
   have h5:(2 ^ 63 - 1:Int) / n<a.length:=hgt
   have h6:(2 ^ 63 - 1:Int)<a.length * n:=Int.lt_mul_of_ediv_lt (by lia) h5
   have:(Mini.I3:Int)=16777216:=rfl
   lia
  ·simp only [Str.length,List.size_toArray,Builtin.Str.tooLong,decide_eq_false_iff_not,Nat.not_lt]
   rw [G7];exact h1
 | ref a0 =>
  replace h:=Mini.I9 h;obtain ⟨n,rfl,h⟩:=h
  obtain ⟨pa,ea,rfl⟩:=J9 ra
  obtain ⟨u,rfl⟩:=E3 rb
  obtain ⟨l,hl,h⟩:=Option.bind_eq_some_iff.mp h
  obtain ⟨hc,h⟩:=Mini.aM h
  cases h
  obtain ⟨h1,h2,h3⟩:=hc
  obtain ⟨vs,⟨m,e⟩,q1⟩:=O.lists _ _ _ ea hl
  have FF:=I4.alloc (n:=0) (tk:=s.toks) O (C7.replicate q1 n.toNat) (by simpa [Nat.mul_comm] using h1)
  have hz9:vs.toArray.size * n.toNat<=16777216:=by rw [List.size_toArray,<- q1.length];exact h1
  refine wpAny_binaryOp_repeat_ref (T := "list") (U := "int") (by decide) ⟨_,e,rfl⟩ (fun s'=>typeIs_int s' n u) noFill_list_mul F.fills_int_mul F.slot_int_rmul repeat_list F.slot_int_index.lookup
   (call_meets F.slot_int_rmul (typeIs_int s n u) F.entry_int_rmul (F.args_int_rmul_2 _ _) (int___rmul___int_list n u pa _ m)
    ⟨e,rfl,⟨_,e,rfl⟩,call_meets F.slot_list_mul ⟨_,e,rfl⟩ F.entry_list_mul (F.args_list_mul_2 _ _)
     (AutoListH.list___mul___list_int_3 pa _ m n u (by simp [Builtin.List.listFitsIndex];lia) (by lia) ?_)
     ⟨e,?_⟩⟩)
  ·simp only [Builtin.List.listTooLong,List.size_toArray,<- q1.length,decide_eq_true_eq,Nat.not_lt]
   rw [G7];exact h1
  ·have e9:(List.foldl (fun x1 x2=>x1++x2) #[] (List.replicate (if vs.toArray.isEmpty=true then 0 else n.toNat) vs.toArray))=(List.replicate n.toNat vs).flatten.toArray:=by
    by_cases hv:vs=[]
    ·subst hv;simp
    ·rw [if_neg (by simpa using hv)]
     have:=Ap5 (List.replicate n.toNat vs) []
     simp only [List.map_replicate,List.nil_append] at this
     exact this
   rw [e9]
   exact k _ _ _ _ _ q FF (I4.newRef FF O)
 | _=>exact nomatch (show Option.none=some _ from h)
theorem Bs3 {o:Mini.Op}{o':Operator}{a b:V}{x y:Value}{Q:V->Mini.Heap->Prop}{H:Mini.Heap}{φ:List Addr}{s:Shared}{K EX:Value->Shared->Prop}
  (ho:Mini.Cp3 o o'=true) (O:Ok X.h₀ φ H s.heap) (ra:E7 X.h₀ φ s.heap a x) (rb:E7 X.h₀ φ s.heap b y) (h:Mini.res (Mini.aO o a b H) Q) (k:W6 X Q φ s K) :
  wpAny (M1 X) A (binaryOp o' x y) K EX s:=by
 obtain ⟨v,H',h9,q⟩:=Mini.Cr8 h
 clear h
 have h:=h9
 clear h9
 obtain rfl:o'=_:=eq_of_beq ho
 clear ho
 cases o
 ·exact Bs4 O ra rb h q k
 ·replace h:=Mini.I9 h;obtain ⟨i,rfl,h⟩:=h
  replace h:=Mini.I9 h;obtain ⟨j,rfl,h⟩:=h
  cases h
  obtain ⟨t,rfl⟩:=E3 ra
  obtain ⟨u,rfl⟩:=E3 rb
  exact sub_int (k _ _ _ _ _ q (I4.tok O) R4)
 ·exact Bq9 O ra rb h q k
 ·replace h:=Mini.I9 h;obtain ⟨i,rfl,h⟩:=h
  replace h:=Mini.I9 h;obtain ⟨j,rfl,h⟩:=h
  obtain ⟨hc,h⟩:=Mini.aM h
  cases h
  obtain ⟨t,rfl⟩:=E3 ra
  obtain ⟨u,rfl⟩:=E3 rb
  refine floordiv_int (by lia) ?_ (Or.inl (PyProof.noPylong_small (by lia)))
  rw [Int.fdiv_eq_ediv_of_nonneg i (by lia)]
  exact (k _ _ _ _ _ q (I4.tok O) R4)
 ·replace h:=Mini.I9 h;obtain ⟨i,rfl,h⟩:=h
  replace h:=Mini.I9 h;obtain ⟨j,rfl,h⟩:=h
  obtain ⟨hc,h⟩:=Mini.aM h
  cases h
  obtain ⟨t,rfl⟩:=E3 ra
  obtain ⟨u,rfl⟩:=E3 rb
  refine mod_int' (by lia) ?_
  rw [Int.fmod_eq_emod_of_nonneg i (by lia)]
  exact (k _ _ _ _ _ q (I4.tok O) R4)
 ·nomatch h
end
end MiniS
namespace MiniS
open PySem PySem.Calls PyProof.Rows
open Mini (V D)
mutual
noncomputable def fH:D->PyData
 | .none=>.none
 | .bool b=>.bool b
 | .int i=>.int i
 | .str s=>.str ⟨s.toArray⟩
 | .list l=>.list (X8 l)
 | .tup l=>.tuple (X8 l)
noncomputable def X8:List D->List PyData
 | []=>[]
 | d::l=>fH d::X8 l
end
mutual
theorem jD:∀ a b:D,Mini.sS a b=PyData.eqv (fH a) (fH b)
 | .none,b=>by cases b<;>rfl
 | .bool _,b=>by cases b<;>rfl
 | .int _,b=>by cases b<;>rfl
 | .str x,b=>by
  cases b with
  | str y =>
   show (x==y)=((⟨x.toArray⟩:Str)==⟨y.toArray⟩)
   by_cases h:x=y
   ·subst h;simp
   ·have:(x==y)=false:=by simpa using h
    rw [this]
    symm
    simp [h]
  | _=>rfl
 | .list l,b=>by
  cases b with
  | list r=>exact lF l r
  | _=>rfl
 | .tup l,b=>by
  cases b with
  | tup r=>exact lF l r
  | _=>rfl
theorem lF:∀ a b:List D,Mini.sY a b=PyData.eqvAll (X8 a) (X8 b)
 | [],b=>by cases b<;>rfl
 | x::l,b=>by
  cases b with
  | nil=>rfl
  | cons y r=>show (Mini.sS x y&&Mini.sY l r)=(PyData.eqv (fH x) (fH y)&&PyData.eqvAll (X8 l) (X8 r));rw [jD x,lF l]
end
section
variable {h₀:Heap}{φ:List Addr}{H:Mini.Heap}{h:Heap}
theorem Bl0 {f:V->Option D}{v:V}{l:List V}{ds:List D}(e:Mini.yR f (v::l)=some ds):∃ d ds',ds=d::ds'/\f v=some d/\Mini.yR f l=some ds':=by
 replace e:(match f v with | some d=>(Mini.yR f l).map (d::·) | none=>none)=some ds:=e
 cases hd:f v with
 | none=>rw [hd] at e;cases e
 | some d =>
  rw [hd] at e
  obtain ⟨ds',h1,h2⟩:=Option.map_eq_some_iff.mp e
  exact ⟨d,ds',h2.symm,rfl,h1⟩
theorem dY {f:V->Option D}(hf:∀ v d x,f v=some d->E7 h₀ φ h v x->∃ as,Reads h x (fH d) as) :
  ∀ (l:List V) (ds:List D) (vs:List Value),Mini.yR f l=some ds->C7 h₀ φ h l vs->∃ as,ReadsAll h vs (X8 ds) as
 | [],ds,vs,e,r=>by
  have:=r.unnil;subst this
  cases (show some []=some ds from e)
  exact ⟨[],.nil⟩
 | v::l,ds,vs,e,r=>by
  obtain ⟨x,vs',rfl,r1,r2⟩:=r.uncons
  obtain ⟨d,ds',rfl,hd,e9⟩:=Bl0 e
  obtain ⟨as,ra⟩:=hf v d x hd r1
  obtain ⟨bs,rb⟩:=dY hf l ds' vs' e9 r2
  exact ⟨as++bs,.cons ra rb⟩
theorem Cl4 {n:Nat}{v:V}{d:D}(e:Mini.rd H (n+1) v=some d) {R:Prop}(h0:v=.none->d=.none->R) (h1:∀ b,v=.bool b->d=.bool b->R) (h2:∀ i,v=.int i->d=.int i->R) (h3:∀ s,v=.str s->s.all (fun c=>decide (c<1114112))=true->d=.str s->R)
  (h4:∀ l ds,v=.tup l->Mini.yR (Mini.rd H n) l=some ds->d=.tup ds->R) (h5:∀ a l ds,v=.ref a->H[a]? = some l->Mini.yR (Mini.rd H n) l=some ds->d=.list ds->R):R:=by
 cases v with
 | none=>exact h0 rfl (Option.some.inj e).symm
 | bool b=>exact h1 b rfl (Option.some.inj e).symm
 | int i=>exact h2 i rfl (Option.some.inj e).symm
 | str s =>
  replace e:(if s.all (fun c=>decide (c<1114112)) then some (.str s) else Option.none)=some d:=e
  obtain ⟨q1,q2⟩:=Mini.aM e
  exact h3 s rfl q1 q2.symm
 | tup l =>
  obtain ⟨ds,q1,q2⟩:=Option.map_eq_some_iff.mp (show (Mini.yR (Mini.rd H n) l).map D.tup=some d from e)
  exact h4 l ds rfl q1 q2.symm
 | ref a =>
  replace e:(match H[a]? with | some l=>(Mini.yR (Mini.rd H n) l).map D.list | none=>none)=some d:=e
  cases hl:H[a]? with
  | none=>rw [hl] at e;cases e
  | some l =>
   rw [hl] at e
   obtain ⟨ds,q1,q2⟩:=Option.map_eq_some_iff.mp e
   exact h5 a l ds rfl hl q1 q2.symm
 | frz _=>exact nomatch (show none=some d from e)
theorem W1 (O:Ok h₀ φ H h):∀ (n:Nat) (v:V) (d:D) (x:Value),Mini.rd H n v=some d->E7 h₀ φ h v x->∃ as,Reads h x (fH d) as
 | 0,_,_,_,e,_=>nomatch (show none=some _ from e)
 | n+1,v,d,x,e,r=>by
  refine Cl4 e (fun e1 e2=>?_) (fun b e1 e2=>?_) (fun i e1 e2=>?_) (fun s e1 zz e2=>?_) (fun l ds e1 e9 e2=>?_) (fun a l ds e1 hl e9 e2=>?_)<;>(subst e1;subst e2)
  ·obtain rfl:=lA r;exact ⟨[],.none⟩
  ·obtain rfl:=X4 r;exact ⟨[],.bool _⟩
  ·obtain ⟨t,rfl⟩:=E3 r;exact ⟨[],.int _ _⟩
  ·obtain ⟨t,rfl⟩:=I2 r;exact ⟨[],.str _ _⟩
  ·obtain ⟨a,vs,rfl,⟨o,ho,hc,m,hd⟩,rs⟩:=iY r
   obtain ⟨as,ra⟩:=dY (fun v d x=>W1 O n v d x) l ds vs e9 rs
   exact ⟨as,.tuple ho hc hd (by simpa using ra)⟩
  ·obtain ⟨p,hp,rfl⟩:=J9 r
   obtain ⟨vs,⟨m,ho⟩,rs⟩:=O.lists _ _ _ hp hl
   obtain ⟨as,ra⟩:=dY (fun v d x=>W1 O n v d x) l ds vs e9 rs
   exact ⟨p::as,.list ho rfl rfl (by simpa using ra)⟩
theorem lL {n:Nat}{f:V->Option D}(hf:∀ v d,f v=some d->(fH d).canLay0=true/\(fH d).depth<=n) :
  ∀ (l:List V) (ds:List D),Mini.yR f l=some ds->PyData.canLayAll0 (X8 ds)=true/\PyData.depthAll (X8 ds)<=n
 | [],ds,e=>by
  cases (show some []=some ds from e)
  exact ⟨rfl,B0 _⟩
 | v::l,ds,e=>by
  obtain ⟨d,ds',rfl,hd,e9⟩:=Bl0 e
  have h1:=hf v d hd
  have h2:=lL hf l ds' e9
  exact ⟨Bool.and_eq_true_iff.mpr ⟨h1.1,h2.1⟩,Nat.max_le.mpr ⟨h1.2,h2.2⟩⟩
theorem T1:∀ (n:Nat) (v:V) (d:D),Mini.rd H n v=some d->(fH d).canLay0=true/\(fH d).depth<=n
 | 0,_,_,e=>nomatch (show none=some _ from e)
 | n+1,v,d,e=>by
  refine Cl4 e (fun e1 e2=>?_) (fun b e1 e2=>?_) (fun i e1 e2=>?_) (fun s e1 hs e2=>?_) (fun l ds e1 e9 e2=>?_) (fun a l ds e1 hl e9 e2=>?_)<;>(subst e1;subst e2)
  ·exact ⟨rfl,B0 _⟩
  ·exact ⟨rfl,B0 _⟩
  ·exact ⟨rfl,B0 _⟩
  ·refine ⟨?_,B0 _⟩
   show PyData.strOk _=true
   unfold PyData.strOk
   simp only [List.all_eq_true,decide_eq_true_eq] at hs
   simp only [List.all_toArray',List.size_toArray,List.all_eq_true,decide_eq_true_eq]
   exact hs
  ·have:=lL (fun v d=>T1 n v d) l ds e9
   exact ⟨this.1,B3 this.2⟩
  ·have:=lL (fun v d=>T1 n v d) l ds e9
   exact ⟨this.1,B3 this.2⟩
end
theorem uA (l:List D) (d:D):((X8 l).any fun y=>PyData.eqv y (fH d))=l.any fun y=>Mini.sS y d:=by
 induction l with
 | nil=>rfl
 | cons x r ih =>
  show (PyData.eqv (fH x) (fH d)||(X8 r).any fun y=>PyData.eqv y (fH d))=(Mini.sS x d||r.any fun y=>Mini.sS y d)
  rw [ih,jD]
theorem Bl4 {a b:V}{H:Mini.Heap}{t:Bool}(h:Mini.eqV a b H=some t):(∃ i j:Int,a=.int i/\b=.int j/\(i==j)=t)∨(∃ i j:List Nat,a=.str i/\b=.str j/\(i==j)=t)∨Mini.wI a b H=some t:=by
 replace h:(match Mini.wH a b with | some t=>some t | none=>Mini.wI a b H)=some t:=h
 cases e:Mini.wH a b with
 | none=>rw [e] at h;exact Or.inr (Or.inr h)
 | some u =>
  rw [e] at h
  cases h
  cases a with
  | int i =>
   replace e:=Mini.I9 e;obtain ⟨j,rfl,e⟩:=e
   exact Or.inl ⟨_,_,rfl,rfl,Option.some.inj e⟩
  | bool i =>
   replace e:=Mini.Bf3 e;obtain ⟨j,rfl,e⟩:=e
   refine Or.inr (Or.inr ?_)
   rw [<- e];rfl
  | str i =>
   replace e:=Mini.qC e;obtain ⟨j,rfl,e⟩:=e
   exact Or.inr (Or.inl ⟨_,_,rfl,rfl,Option.some.inj e⟩)
  | _=>exact nomatch (show Option.none=some _ from e)
section
variable {X:Cx}{A:Around}{C:Mini.Calls}
theorem Cd4 {a b:V}{x y:Value}{H:Mini.Heap}{φ:List Addr}{s:Shared}{K EX:Value->Shared->Prop}{t:Bool}(hu:A.units+106<cLine)
  (O:Ok X.h₀ φ H s.heap) (ra:E7 X.h₀ φ s.heap a x) (rb:E7 X.h₀ φ s.heap b y) (h:Mini.eqV a b H=some t) (k:K (.bool t) s) :
  wpAny (M1 X) A (compareOp .Eq x y) K EX s:=by
 have deep:∀ {u v:D},Mini.rd H Mini.K0 a=some u->Mini.rd H Mini.K0 b=some v->Mini.sS u v=t->wpAny (M1 X) A (compareOp .Eq x y) K EX s:=by
  intro u v e1 e2 e3
  obtain ⟨as,r1⟩:=W1 O _ _ _ _ e1 ra
  obtain ⟨bs,r2⟩:=W1 O _ _ _ _ e2 rb
  have c1:=T1 _ _ _ e1
  have c2:=T1 _ _ _ e2
  refine SeqAt.compareEq_reads r1 r2 c1.1 c2.1 ?_ ?_
  ·exact A9 (Nat.add_le_add_left (A3 (Nat.min_le_left _ _) (A3 c1.2 (by decide:100<=106))) _) hu
  ·rw [<- jD,e3];exact k
 rcases Bl4 h with ⟨a,b,rfl,rfl,rfl⟩ | ⟨a,b,rfl,rfl,rfl⟩ | h
 ·obtain ⟨_,rfl⟩:=E3 ra
  obtain ⟨_,rfl⟩:=E3 rb
  exact PyProof.Rows.eq_int k
 ·obtain ⟨_,rfl⟩:=I2 ra
  obtain ⟨_,rfl⟩:=I2 rb
  refine PySem.P.eq_str ?_
  simpa using k
 ·obtain ⟨u,e1,h⟩:=Option.bind_eq_some_iff.mp h
  obtain ⟨v,e2,h⟩:=Option.bind_eq_some_iff.mp h
  exact deep e1 e2 (Option.some.inj h)
theorem Cc9 {a b:V}{x y:Value}{H:Mini.Heap}{φ:List Addr}{s:Shared}{K EX:Value->Shared->Prop}{t:Bool}(hu:A.units+106<cLine)
  (O:Ok X.h₀ φ H s.heap) (ra:E7 X.h₀ φ s.heap a x) (rb:E7 X.h₀ φ s.heap b y) (h:Mini.eqV a b H=some t) (k:K (.bool (!t)) s) :
  wpAny (M1 X) A (compareOp .NotEq x y) K EX s:=by
 have deep:∀ {u v:D},Mini.rd H Mini.K0 a=some u->Mini.rd H Mini.K0 b=some v->Mini.sS u v=t->wpAny (M1 X) A (compareOp .NotEq x y) K EX s:=by
  intro u v e1 e2 e3
  obtain ⟨as,r1⟩:=W1 O _ _ _ _ e1 ra
  obtain ⟨bs,r2⟩:=W1 O _ _ _ _ e2 rb
  have c1:=T1 _ _ _ e1
  have c2:=T1 _ _ _ e2
  refine SeqAt.compareNe_reads r1 r2 c1.1 c2.1 ?_ ?_
  ·exact A9 (Nat.add_le_add_left (A3 (Nat.min_le_left _ _) (A3 c1.2 (by decide:100<=106))) _) hu
  ·rw [<- jD,e3];exact k
 rcases Bl4 h with ⟨a,b,rfl,rfl,rfl⟩ | ⟨a,b,rfl,rfl,rfl⟩ | h
 ·obtain ⟨_,rfl⟩:=E3 ra
  obtain ⟨_,rfl⟩:=E3 rb
  exact PyProof.Rows.ne_int k
 ·obtain ⟨_,rfl⟩:=I2 ra
  obtain ⟨_,rfl⟩:=I2 rb
  refine PySem.P.ne_str ?_
  simpa [bne] using k
 ·obtain ⟨u,e1,h⟩:=Option.bind_eq_some_iff.mp h
  obtain ⟨v,e2,h⟩:=Option.bind_eq_some_iff.mp h
  exact deep e1 e2 (Option.some.inj h)
end
end MiniS
namespace MiniS
open PySem PySem.Calls PyProof.Rows
open Mini (V D)
section
variable {X:Cx}{A:Around}{C:Mini.Calls}
theorem Br0 {a t:V}{x y:Value}{H:Mini.Heap}{φ:List Addr}{s:Shared}{b:Bool}(hu:A.units+106<cLine)
  (O:Ok X.h₀ φ H s.heap) (ra:E7 X.h₀ φ s.heap a x) (rb:E7 X.h₀ φ s.heap t y) (h:Mini.memV a t H=some b) :
  (∀ {K EX:Value->Shared->Prop},K (.bool b) s->wpAny (M1 X) A (compareOp .In x y) K EX s) /\
  (∀ {K EX:Value->Shared->Prop},K (.bool (!b)) s->wpAny (M1 X) A (compareOp .NotIn x y) K EX s):=by
 replace h:(match Mini.rd H Mini.K0 a,Mini.rd H Mini.K0 t with | some x,some (.tup l)=>some (l.any fun y=>Mini.sS y x) | _,_=>none)=some b:=h
 cases e1:Mini.rd H Mini.K0 a with
 | none=>rw [e1] at h;cases h
 | some u =>
  cases e2:Mini.rd H Mini.K0 t with
  | none=>rw [e1,e2] at h;cases h
  | some dt =>
   rw [e1,e2] at h
   cases dt with
   | tup l =>
    obtain ⟨as,r1⟩:=W1 O _ _ _ _ e1 ra
    obtain ⟨bs,r2⟩:=W1 O _ _ _ _ e2 rb
    have c1:=T1 _ _ _ e1
    have c2:=T1 _ _ _ e2
    replace c2:PyData.canLayAll0 (X8 l)=true/\PyData.depthAll (X8 l)+1<=Mini.K0:=c2
    cases h
    have hm:A.units+1+min (PyData.depthAll (X8 l)) (fH u).depth<cLine:=A9 (Nat.add_le_add_left (A3 (Nat.min_le_right _ _) c1.2) _) (A9 (by show A.units+1+100<=A.units+106;rw [Nat.add_assoc];exact Nat.add_le_add_left (by decide) _) hu)
    exact ⟨fun k=>SeqAt.in_tuple_reads r2 r1 c2.1 c1.1 hm (by rw [uA];exact k),fun k=>SeqAt.notIn_tuple_reads r2 r1 c2.1 c1.1 hm (by rw [uA];exact k)⟩
   | _=>cases h
theorem Av8 {a b:V}{x y:Value}{H:Mini.Heap}{φ:List Addr}{s:Shared}{t:Bool}(hu:A.units+106<cLine)
  (O:Ok X.h₀ φ H s.heap) (ra:E7 X.h₀ φ s.heap a x) (rb:E7 X.h₀ φ s.heap b y) (h:Mini.inV a b H=some t) :
  (∀ {K EX:Value->Shared->Prop},K (.bool t) s->wpAny (M1 X) A (compareOp .In x y) K EX s) /\
  (∀ {K EX:Value->Shared->Prop},K (.bool (!t)) s->wpAny (M1 X) A (compareOp .NotIn x y) K EX s):=by
 cases b with
 | str a0 =>
  replace h:=Mini.qC h;obtain ⟨l,rfl,h⟩:=h
  replace h:=Mini.Bv0 h;obtain ⟨c,rfl,h⟩:=h
  cases h
  obtain ⟨_,rfl⟩:=I2 ra
  obtain ⟨_,rfl⟩:=I2 rb
  refine ⟨fun k=>PyProof.Rows.in_str ?_,fun k=>PyProof.Rows.notIn_str ?_⟩
  ·rw [StrLaws.found_one]
   simpa using k
  ·rw [StrLaws.found_one]
   simpa using k
 | tup a0 =>
  exact Br0 hu O ra rb h
 | _=>exact nomatch (show Option.none=some _ from h)
theorem aQ {o:Mini.Cmp}{o':CmpOp}{a b:V}{x y:Value}{H:Mini.Heap}{φ:List Addr}{s:Shared}{K EX:Value->Shared->Prop}{t:Bool}(hu:A.units+106<cLine) (ho:Mini.pE o o'=true)
  (O:Ok X.h₀ φ H s.heap) (ra:E7 X.h₀ φ s.heap a x) (rb:E7 X.h₀ φ s.heap b y) (h:Mini.S3 o a b H=some t) (k:K (.bool t) s) :
  wpAny (M1 X) A (compareOp o' x y) K EX s:=by
 obtain rfl:o'=_:=eq_of_beq ho
 clear ho
 cases o
 ·exact Cd4 hu O ra rb h k
 ·obtain ⟨u,e,rfl⟩:=Option.map_eq_some_iff.mp h
  exact Cc9 hu O ra rb e k
 ·replace h:=Mini.I9 h;obtain ⟨i,rfl,h⟩:=h
  replace h:=Mini.I9 h;obtain ⟨j,rfl,h⟩:=h
  cases h
  obtain ⟨_,rfl⟩:=E3 ra
  obtain ⟨_,rfl⟩:=E3 rb
  exact lt_int k
 ·replace h:=Mini.I9 h;obtain ⟨i,rfl,h⟩:=h
  replace h:=Mini.I9 h;obtain ⟨j,rfl,h⟩:=h
  cases h
  obtain ⟨_,rfl⟩:=E3 ra
  obtain ⟨_,rfl⟩:=E3 rb
  exact PyProof.Rows.le_int k
 ·replace h:=Mini.I9 h;obtain ⟨i,rfl,h⟩:=h
  replace h:=Mini.I9 h;obtain ⟨j,rfl,h⟩:=h
  cases h
  obtain ⟨_,rfl⟩:=E3 ra
  obtain ⟨_,rfl⟩:=E3 rb
  exact gt_int k
 ·replace h:=Mini.I9 h;obtain ⟨i,rfl,h⟩:=h
  replace h:=Mini.I9 h;obtain ⟨j,rfl,h⟩:=h
  cases h
  obtain ⟨_,rfl⟩:=E3 ra
  obtain ⟨_,rfl⟩:=E3 rb
  exact PyProof.Rows.ge_int k
 ·exact (Av8 hu O ra rb h).1 k
 ·obtain ⟨u,e,rfl⟩:=Option.map_eq_some_iff.mp h
  exact (Av8 hu O ra rb e).2 k
theorem jC {gl sc nm e re}(h:Mini.D5 gl sc nm e re=true) (op:CmpOp):behindInMarks op re=false:=by
 have h:=(Mini.mE h).form
 cases re<;>first | rfl | nomatch h
theorem Cd6 {o:Mini.Op}{l r:Mini.E}(hl:E4 X A C l) (hr:E4 X A C r):E4 X A C (.bin o l r):=by
 intro re env nm ρ Q H φ s K EX hc L O h k
 refine Mini.Cg8 hc fun l' o' r' p e9 hc9=>?_
 clear hc;subst e9
 ·simp only [Bool.and_eq_true] at hc9
  obtain ⟨⟨h1,h2⟩,h3⟩:=hc9
  replace h:=Mini.Bm7 h
  refine wpAny_BinOp (hl _ env nm ρ _ H φ s _ EX h2 L O h fun a H1 φ1 x1 s1 q1 F1 r1=>?_)
  refine hr _ env nm ρ _ H1 φ1 s1 _ EX h3 (L.fwd O F1) F1.ok q1 fun b H2 φ2 x2 s2 q2 F2 r2=>?_
  exact Bs3 h1 F2.ok (F2.val F1.ok r1) r2 q2 (k.after (F1.trans F2))
theorem Cc8 {i:Int}:E4 X A C (.neg i):=by
 intro re env nm ρ Q H φ s K EX hc L O h k
 refine Mini.Ay2 hc fun k9 p q e9=>?_
 clear hc;subst e9
 ·replace h:=Mini.Cr2 h
  exact UnaryOp_ (wpAny_Constant_int (PySem.P.neg_int (k _ _ _ _ _ h ((I4.tok O).trans (I4.tok O)) R4)))
set_option tactic.hygienic true in
theorem Cd5 (hu:A.units+106<cLine) {o:Mini.Cmp}{l r:Mini.E}(hl:E4 X A C l) (hr:E4 X A C r):E4 X A C (.cmp o l r):=by
 intro re env nm ρ Q H φ s K EX hc L O h k
 refine Mini.Ay4 hc fun l' o' r' p e9 hc9=>?_
 clear hc;subst e9
 ·simp only [Bool.and_eq_true] at hc9
  obtain ⟨⟨h1,h2⟩,h3⟩:=hc9
  replace h:=Mini.Ak7 h
  refine wpAny_Compare1 (hl _ env nm ρ _ H φ s _ EX h2 L O h fun a H1 φ1 x1 s1 q1 F1 r1=>?_) (jC h3 _)
  refine hr _ env nm ρ _ H1 φ1 s1 _ EX h3 (L.fwd O F1) F1.ok q1 fun b H2 φ2 x2 s2 q2 F2 r2=>?_
  unfold Mini.boo at q2
  split at q2
  ·rename_i t e
   exact aQ hu h1 F2.ok (F2.val F1.ok r1) r2 e (k _ _ _ _ _ q2 (F1.trans F2) bT)
  ·exact q2.elim
set_option tactic.hygienic true in
theorem Bs0 (hu:A.units+106<cLine) {o₁ o₂:Mini.Cmp}{a b c:Mini.E}(ha:E4 X A C a) (hb:E4 X A C b) (hcc:E4 X A C c):E4 X A C (.cmp2 o₁ o₂ a b c):=by
 intro re env nm ρ Q H φ s K EX hc L O h k
 refine Mini.Ab5 hc fun a' o' p' b' c' p e9 hc9=>?_
 clear hc;subst e9
 ·simp only [Bool.and_eq_true] at hc9
  obtain ⟨⟨⟨⟨h1,h2⟩,h3⟩,h4⟩,h5⟩:=hc9
  replace h:=Mini.wX h
  refine Compare_chain (ha _ env nm ρ _ H φ s _ EX h3 L O h fun va H1 φ1 x1 s1 q1 F1 r1=>?_) (by simpa [lastMarks] using jC h5 _)
  refine chain_link (hb _ env nm ρ _ H1 φ1 s1 _ EX h4 (L.fwd O F1) F1.ok q1 fun vb H2 φ2 x2 s2 q2 F2 r2=>?_)
  unfold Mini.boo at q2
  split at q2
  ·rename_i t e
   refine aQ hu h1 F2.ok (F2.val F1.ok r1) r2 e (wpAny_truthy_bool ?_)
   cases t with
   | false=>exact k _ _ _ _ _ q2 (F1.trans F2) bT
   | true =>
    refine chain_last (hcc _ env nm ρ _ H2 φ2 s2 _ EX h5 ((L.fwd O F1).fwd F1.ok F2) F2.ok q2 fun vc H3 φ3 x3 s3 q3 F3 r3=>?_)
    unfold Mini.boo at q3
    split at q3
    ·rename_i t e
     exact aQ hu h2 F3.ok (F3.val F2.ok r2) r3 e (k _ _ _ _ _ q3 ((F1.trans F2).trans F3) bT)
    ·exact q3.elim
  ·exact q2.elim
noncomputable def cstC:Mini.Cst->Const
 | .none=>.none
 | .tt=>.bool true
 | .ff=>.bool false
noncomputable def Dd7:Mini.Cst->Value
 | .none=>.none
 | .tt=>.bool true
 | .ff=>.bool false
theorem Bl5 {c:Mini.Cst}{e:Expr}(hc:Mini.pD c e=true):∃ k p,e=.Constant (cstC c) k p:=by
 refine Mini.Q7 hc fun k u p e9 h=>?_
 subst e9
 cases c
 ·rw [Mini.rG h];exact ⟨_,_,rfl⟩
 ·rw [Mini.cB h];exact ⟨_,_,rfl⟩
 ·rw [Mini.cB h];exact ⟨_,_,rfl⟩
set_option tactic.hygienic true in
theorem wD {v:V}{c:Mini.Cst}{x:Value}{h₀ φ h}{e:Expr}{env:Env}{s:Shared}(r:E7 h₀ φ h v x) (hc:Mini.pD c e=true) :
  ∃ y,(∀ {K EX:Value->Shared->Prop},K y s->wpAny (M1 X) A (eval e env) K EX s)/\plainIs x y=true/\(x==y)=Mini.isV v c:=by
 obtain ⟨k,p,rfl⟩:=Bl5 hc
 refine ⟨Dd7 c,fun k=>by cases c<;>exact wpAny_pure k,?_⟩
 cases v
 ·obtain rfl:=lA r;cases c<;>exact ⟨rfl,rfl⟩
 ·rename_i b;obtain rfl:=X4 r;cases b<;>cases c<;>exact ⟨rfl,rfl⟩
 ·obtain ⟨t,rfl⟩:=r;cases c<;>exact ⟨rfl,rfl⟩
 ·obtain ⟨_,t,rfl⟩:=r;cases c<;>exact ⟨rfl,rfl⟩
 ·obtain ⟨a,_,rfl⟩:=r;cases c<;>exact ⟨rfl,rfl⟩
 ·obtain ⟨_,a,vs,rfl,_⟩:=r;cases c<;>exact ⟨rfl,rfl⟩
 ·obtain ⟨_,a,vs,rfl,_⟩:=r;cases c<;>exact ⟨rfl,rfl⟩
theorem fB {c:Mini.Cst}{e:Expr}(hc:Mini.pD c e=true) (op:CmpOp):behindInMarks op e=false:=by
 obtain ⟨k,p,rfl⟩:=Bl5 hc
 rfl
theorem Cq6 {e:Mini.E}{c:Mini.Cst}(he:E4 X A C e):E4 X A C (.is e c):=by
 intro re env nm ρ Q H φ s K EX hc L O h k
 refine Mini.Bn9 hc fun e' r' p e9 hc9=>?_
 clear hc;subst e9
 ·simp only [Bool.and_eq_true] at hc9
  replace h:=Mini.Cl9 h
  refine wpAny_Compare1 (he _ env nm ρ _ H φ s _ EX hc9.1 L O h fun a H1 φ1 x1 s1 q1 F1 r1=>?_) (fB hc9.2 _)
  obtain ⟨y,ev,hp,hq⟩:=wD (X:=X) (A:=A) (env:=env) (s:=s1) r1 hc9.2
  refine ev (wpAny_is_plain hp ?_)
  rw [hq]
  exact k _ _ _ _ _ q1 F1 bT
theorem Bd2 {e:Mini.E}{c:Mini.Cst}(he:E4 X A C e):E4 X A C (.isnot e c):=by
 intro re env nm ρ Q H φ s K EX hc L O h k
 refine Mini.uH hc fun e' r' p e9 hc9=>?_
 clear hc;subst e9
 ·simp only [Bool.and_eq_true] at hc9
  replace h:=Mini.Aa8 h
  refine wpAny_Compare1 (he _ env nm ρ _ H φ s _ EX hc9.1 L O h fun a H1 φ1 x1 s1 q1 F1 r1=>?_) (fB hc9.2 _)
  obtain ⟨y,ev,hp,hq⟩:=wD (X:=X) (A:=A) (env:=env) (s:=s1) r1 hc9.2
  refine ev (wpAny_isNot_plain hp ?_)
  rw [hq]
  exact k _ _ _ _ _ q1 F1 bT
theorem iZ {h₀ φ h}{v:V}{x:Value}{t:Bool}(r:E7 h₀ φ h v x) (e:Mini.I7 v=some t):x=.bool t:=by
 cases v<;>simp [Mini.I7] at e
 subst e
 exact X4 r
set_option tactic.hygienic true in
theorem Av6 {e:Mini.E}(he:E4 X A C e):E4 X A C (.not e):=by
 intro re env nm ρ Q H φ s K EX hc L O h k
 refine Mini.Ay1 hc fun e' p e9 hc9=>?_
 clear hc;subst e9
 ·replace h:=Mini.Bm5 h
  refine UnaryOp_ (he _ env nm ρ _ H φ s _ EX hc9 L O h fun a H1 φ1 x1 s1 q1 F1 r1=>?_)
  unfold Mini.boo at q1
  split at q1
  ·rename_i t e
   obtain rfl:=iZ r1 e
   exact not_of (wpAny_truthy_bool (k _ _ _ _ _ q1 F1 bT))
  ·exact q1.elim
noncomputable def fI (X:Cx) (A:Around) (C:Mini.Calls) (es:List Mini.E):Prop:=∀ e∈es,E4 X A C e
set_option tactic.hygienic true in
theorem qU:∀ (es:List Mini.E) (res:List Expr) (env:Env) (nm:List Str) (ρ:Mini.D7) (Q:V->Mini.Heap->Prop) (H:Mini.Heap) (φ:List Addr) (s:Shared) (K EX:Value->Shared->Prop) (p:Pos),
  fI X A C es->Mini.J8 X.gl env.scope.names nm es res=true->E5 X φ nm env ρ s->Ok X.h₀ φ H s.heap->Mini.iG C es ρ Q H->W6 X Q φ s K ->
  wpAny (M1 X) A (eval (.BoolOp .And res p) env) K EX s
 | [],_,_,_,_,_,_,_,_,_,_,_,_,_,_,_,h,_=>False.elim h
 | e::es,res,env,nm,ρ,Q,H,φ,s,K,EX,p,hs,hc,L,O,h,k=>by
  cases res with
  | nil=>nomatch hc
  | cons re res =>
   replace hc:=Mini.C3 hc
   cases es with
   | nil =>
    cases res with
    | cons _ _=>nomatch hc.2
    | nil=>exact BoolOp_one (hs e (by simp) _ env nm ρ Q H φ s K EX hc.1 L O h k)
   | cons e2 es =>
    cases res with
    | nil=>nomatch hc.2
    | cons re2 res =>
     refine BoolOp_and (hs e (by simp) _ env nm ρ _ H φ s _ EX hc.1 L O h fun v H1 φ1 x1 s1 q1 F1 r1=>?_)
     unfold Mini.boo at q1
     split at q1
     ·rename_i t e
      obtain rfl:=iZ r1 e
      refine wpAny_truthy_bool ?_
      cases t with
      | false=>exact k _ _ _ _ _ q1 F1 r1
      | true =>
       simp only at q1
       exact qU (e2::es) (re2::res) env nm ρ Q H1 φ1 s1 K EX p (fun e' he'=>hs e' (List.mem_cons_of_mem _ he')) hc.2 (L.fwd O F1) F1.ok q1 (k.after F1)
     ·exact q1.elim
set_option tactic.hygienic true in
theorem tT:∀ (es:List Mini.E) (res:List Expr) (env:Env) (nm:List Str) (ρ:Mini.D7) (Q:V->Mini.Heap->Prop) (H:Mini.Heap) (φ:List Addr) (s:Shared) (K EX:Value->Shared->Prop) (p:Pos),
  fI X A C es->Mini.J8 X.gl env.scope.names nm es res=true->E5 X φ nm env ρ s->Ok X.h₀ φ H s.heap->Mini.vX C es ρ Q H->W6 X Q φ s K ->
  wpAny (M1 X) A (eval (.BoolOp .Or res p) env) K EX s
 | [],_,_,_,_,_,_,_,_,_,_,_,_,_,_,_,h,_=>False.elim h
 | e::es,res,env,nm,ρ,Q,H,φ,s,K,EX,p,hs,hc,L,O,h,k=>by
  cases res with
  | nil=>nomatch hc
  | cons re res =>
   replace hc:=Mini.C3 hc
   cases es with
   | nil =>
    cases res with
    | cons _ _=>nomatch hc.2
    | nil=>exact BoolOp_one (hs e (by simp) _ env nm ρ Q H φ s K EX hc.1 L O h k)
   | cons e2 es =>
    cases res with
    | nil=>nomatch hc.2
    | cons re2 res =>
     refine BoolOp_or (hs e (by simp) _ env nm ρ _ H φ s _ EX hc.1 L O h fun v H1 φ1 x1 s1 q1 F1 r1=>?_)
     unfold Mini.boo at q1
     split at q1
     ·rename_i t e
      obtain rfl:=iZ r1 e
      refine wpAny_truthy_bool ?_
      cases t with
      | true=>exact k _ _ _ _ _ q1 F1 r1
      | false =>
       simp only at q1
       exact tT (e2::es) (re2::res) env nm ρ Q H1 φ1 s1 K EX p (fun e' he'=>hs e' (List.mem_cons_of_mem _ he')) hc.2 (L.fwd O F1) F1.ok q1 (k.after F1)
     ·exact q1.elim
theorem Cd7 {es:List Mini.E}(hs:fI X A C es):E4 X A C (.and es):=by
 intro re env nm ρ Q H φ s K EX hc L O h k
 refine Mini.Ay5 hc fun es' p e9 hc9=>?_
 clear hc;subst e9
 ·replace h:=Mini.Bm8 h
  exact qU es _ env nm ρ Q H φ s K EX _ hs hc9 L O h k
theorem Cq5 {es:List Mini.E}(hs:fI X A C es):E4 X A C (.or es):=by
 intro re env nm ρ Q H φ s K EX hc L O h k
 refine Mini.Bn8 hc fun es' p e9 hc9=>?_
 clear hc;subst e9
 ·replace h:=Mini.Cl8 h
  exact tT es _ env nm ρ Q H φ s K EX _ hs hc9 L O h k
end
end MiniS
namespace MiniS
open PySem PySem.Calls PyProof.Rows
open Mini (V D)
noncomputable def fN (v:Option Int) (d:Int) (n:Nat):Int:=match v with
 | none=>d
 | some i=>max 0 (min (if i<0 then i+n else i) n)
theorem Bl1 {a b:Int}(h:a<0):a+b<=b:=by
 have:=Int.add_le_add_right (Int.le_of_lt h) b
 rw [Int.zero_add] at this;exact this
theorem Aw7 (i:Int) (n:Nat):max 0 (min (if i<0 then i+n else i) n)=(Mini.tM i n:Int):=by
 show _=(((if i<0 then (i+n).toNat else min i.toNat n):Nat):Int)
 by_cases h:i<0
 ·rw [if_pos h,if_pos h,Int.min_eq_left (Bl1 h),Int.max_comm,Int.ofNat_toNat]
 ·obtain ⟨k,rfl⟩:=Int.eq_ofNat_of_zero_le (Int.not_lt.mp h)
  rw [if_neg h,if_neg h,Int.toNat_natCast,Int.max_eq_right (Int.le_min.mpr ⟨Int.natCast_nonneg k,Int.natCast_nonneg n⟩)]
  rcases Nat.le_total k n with q | q
  ·rw [Nat.min_eq_left q,Int.min_eq_left (Int.ofNat_le.mpr q)]
  ·rw [Nat.min_eq_right q,Int.min_eq_right (Int.ofNat_le.mpr q)]
theorem Aa2 (v:Option Int) (n:Nat):fN v 0 n=(Mini.Bc7 v n:Int):=by
 cases v with
 | none=>rfl
 | some i=>exact Aw7 i n
theorem Aa3 (v:Option Int) (n:Nat):fN v n n=(Mini.Ak1 v n:Int):=by
 cases v with
 | none=>rfl
 | some i=>exact Aw7 i n
theorem Ap1 {α:Type}(l:List α) (a b:Nat) (hb:b<=l.length):(sliceRange (a:Int) (b:Int) 1).filterMap (l[·]?)=(l.take b).drop a:=by
 unfold sliceRange
 by_cases h:a<b
 ·have e:(if (1:Int)>0 then (if (a:Int)<b then ((b:Int) - a+1 - 1) / 1 else 0) else (if (a:Int)>b then ((a:Int) - b - 1 - 1) / (-1) else 0)).toNat=b - a:=by
   rw [if_pos (by decide),if_pos (Int.ofNat_lt.mpr h),Int.ediv_one,Int.add_sub_cancel];exact Int.toNat_sub b a
  simp only [e]
  have e2:(List.range (b - a)).map (fun k:Nat=>((a:Int)+1 * (k:Int)).toNat)=(List.range (b - a)).map (fun k=>a+k):=List.map_congr_left fun k zz=>by rw [Int.one_mul];rfl
  rw [e2,StrLaws.picks l (b - a) a (by rw [Nat.add_sub_cancel' (B5 h)];exact hb),List.drop_take]
 ·have e:(if (1:Int)>0 then (if (a:Int)<b then ((b:Int) - a+1 - 1) / 1 else 0) else (if (a:Int)>b then ((a:Int) - b - 1 - 1) / (-1) else 0)).toNat=0:=by
   rw [if_pos (by decide),if_neg fun q=>h (Int.ofNat_lt.mp q)];rfl
  simp only [e]
  rw [List.drop_eq_nil_of_le (A3 (List.length_take_le b l) (Nat.le_of_not_lt h))]
  rfl
theorem Be3 (i:Int) (n:Nat):Mini.tM i n<=n:=by
 show (if i<0 then (i+n).toNat else min i.toNat n)<=n
 by_cases h:i<0
 ·rw [if_pos h];exact Int.toNat_le.mpr (Bl1 h)
 ·rw [if_neg h];exact Nat.min_le_right _ _
theorem Aw5 (hi:Option Int) (n:Nat):Mini.Ak1 hi n<=n:=by
 cases hi with
 | none=>exact A4 _
 | some i=>exact Be3 i _
theorem qW {α:Type}(l:List α) (lo hi:Option Int):(sliceRange (fN lo 0 l.length) (fN hi l.length l.length) 1).filterMap (l[·]?)=Mini.slice l lo hi:=by
 rw [Aa2,Aa3,Ap1 _ _ _ (Aw5 hi _)]
 rfl
theorem jP (vs:List Value) (lo hi:Option Int):slicePick vs.toArray lo hi none=(Mini.slice vs lo hi).toArray:=by
 have:=qW vs lo hi
 unfold slicePick
 rw [<- this]
 congr 1
 have e:∀ x:Nat,vs.toArray[x]? = vs[x]?:=fun x=>by simp
 simp only [e]
 cases lo<;>cases hi<;>simp [sliceBounds,fN]
theorem Af9 (l:List Nat) (lo hi:Option Int):Txt.slice ⟨l.toArray⟩ lo hi=⟨(Mini.slice l lo hi).toArray⟩:=by
 have h:=qW l lo hi
 have e:Builtin.Str.strSliceIndices lo hi 1 (Str.length ⟨l.toArray⟩)=sliceRange (fN lo 0 l.length) (fN hi l.length l.length) 1:=by
  cases lo<;>cases hi<;>simp [Builtin.Str.strSliceIndices,fN,Str.length]
 have e1:∀ x:Nat,(Str.mk l.toArray).cps[x]? = l[x]?:=fun x=>by simp
 unfold Txt.slice
 rw [e]
 split
 ·rename_i hc
  simp only [BEq.rfl,Bool.true_and,beq_iff_eq] at hc
  have hr:(sliceRange (fN lo 0 l.length) (fN hi l.length l.length) 1).length=l.length:=by simpa [Str.length] using hc
  rw [Aa2,Aa3] at hr
  unfold Mini.slice
  have hb':=Aw5 hi l.length
  generalize Mini.Bc7 lo l.length=a at *
  generalize Mini.Ak1 hi l.length=b at *
  unfold sliceRange at hr
  simp only [B6,List.length_range] at hr
  rw [if_pos (by decide)] at hr
  by_cases hab:(a:Int)<b
  ·rw [if_pos hab,Int.ediv_one] at hr
   have h1:a=0:=by lia
   have h2:b=l.length:=by lia
   subst h1;subst h2;simp
  ·rw [if_neg hab] at hr
   have:l=[]:=by
    apply List.eq_nil_of_length_eq_zero;simpa using hr.symm
   subst this;simp
 ·simp only [e1,h]
theorem C7.take {h₀ φ h}:∀ {l:List V}{vs:List Value}(n:Nat),C7 h₀ φ h l vs->C7 h₀ φ h (l.take n) (vs.take n)
 | _,_,0,_=>by simpa using C7.nil
 | [],vs,n+1,r=>by have:=r.unnil;subst this;simpa using C7.nil
 | v::l,vs,n+1,r=>by
  obtain ⟨x,vs',rfl,r1,r2⟩:=r.uncons
  simp only [List.take_succ_cons]
  exact C7.cons r1 (C7.take n r2)
theorem C7.drop {h₀ φ h}:∀ {l:List V}{vs:List Value}(n:Nat),C7 h₀ φ h l vs->C7 h₀ φ h (l.drop n) (vs.drop n)
 | _,_,0,r=>by simpa using r
 | [],vs,n+1,r=>by have:=r.unnil;subst this;simpa using C7.nil
 | v::l,vs,n+1,r=>by
  obtain ⟨x,vs',rfl,r1,r2⟩:=r.uncons
  simp only [List.drop_succ_cons]
  exact C7.drop n r2
theorem C7.slice {h₀ φ h}{l:List V}{vs:List Value}(lo hi:Option Int) (r:C7 h₀ φ h l vs):C7 h₀ φ h (Mini.slice l lo hi) (Mini.slice vs lo hi):=by
 unfold Mini.slice
 rw [r.length]
 exact C7.drop _ (C7.take _ r)
theorem dC.rels {h₀ φ h}:∀ {l:List Int}{vs:List Value},dC l vs->C7 h₀ φ h (l.map V.int) vs
 | [],[],_=>C7.nil
 | i::l,x::r,H=>by
  obtain ⟨⟨t,rfl⟩,H⟩:=H
  exact C7.cons R4 (dC.rels H)
 | [],_::_,H=>False.elim H
 | _::_,[],H=>False.elim H
theorem Bd7 {α β:Type}(f:α->β) (l:List α) (lo hi:Option Int):Mini.slice (l.map f) lo hi=(Mini.slice l lo hi).map f:=by
 unfold Mini.slice
 simp [List.map_drop,List.map_take]
theorem lB {α:Type}(l:List α) (lo hi:Option Int):(Mini.slice l lo hi).length<=l.length:=by
 unfold Mini.slice
 rw [List.length_drop]
 exact A3 (Nat.sub_le _ _) (List.length_take_le' _ _)
theorem tV {i:Int}{n j:Nat}(h:Mini.K6 i n=some j):seqIndex? i n=some j/\j<n/\-(n:Int)<=i/\i<n:=by
 replace h:(if 0<=i then (if i<n then some i.toNat else none) else if -(n:Int)<=i then some (i+n).toNat else none)=some j:=h
 by_cases h1:0<=i
 ·rw [if_pos h1] at h
  obtain ⟨h2,h⟩:=Mini.aM h
  subst h
  exact ⟨StrLaws.seqIndex_nonneg h1 h2,(Int.toNat_lt h1).mpr h2,Int.le_trans (Int.neg_nonpos_of_nonneg (Int.natCast_nonneg n)) h1,h2⟩
 ·rw [if_neg h1] at h
  obtain ⟨h2,h⟩:=Mini.aM h
  subst h
  have h3:=Int.not_le.mp h1
  exact ⟨StrLaws.seqIndex_neg h3 h2,by lia,h2,Int.lt_of_lt_of_le h3 (Int.natCast_nonneg n)⟩
section
variable {X:Cx}{A:Around}{C:Mini.Calls}
theorem cJ {s:Shared}{l:Addr}{vs:List Value}{k:Int}{t:Tok}{j:Nat}{x:Value}{K EX:Value->Shared->Prop}(hl:s.heap.IsList l vs.toArray) (hz:vs.length<=Mini.I3)
  (hj:Mini.K6 k vs.length=some j) (hx:vs[j]? = some x) (h:K x s):wpAny (M1 X) A (getItem (.ref l) (.int k t)) K EX s:=by
 have hlim:Mini.I3=16777216:=rfl
 unfold Mini.K6 at hj
 split at hj
 ·split at hj
  ·cases hj
   exact wpAny_getItem_list hl (by assumption) (by lia) (by simpa using hx) h
  ·cases hj
 ·split at hj
  ·cases hj
   refine wpAny_getItem_list_neg hl (by lia) (by simpa using by assumption) ?_ ?_ h
   all_goals first | lia | (simp;lia) | (simpa using hx)
  ·cases hj
theorem Br3 {o i v:V}{x y:Value}{H:Mini.Heap}{φ:List Addr}{s:Shared}{K EX:Value->Shared->Prop}{value slice:Expr}
  (hs:subscripted slice false x y=operate [x,y] (getItem x y)) (O:Ok X.h₀ φ H s.heap) (ro:E7 X.h₀ φ s.heap o x) (ri:E7 X.h₀ φ s.heap i y) (h:Mini.X1 o i H=some v)
  (k:∀ z tk,E7 X.h₀ φ s.heap v z->s.toks<=tk->K z { s with toks:=tk }):wpAny (M1 X) A (subscriptTail value slice x y) K EX s:=by
 have hlim:Mini.I3=16777216:=rfl
 replace h:=Mini.I9 h;obtain ⟨i,rfl,h⟩:=h
 cases o with
 | str l =>
  replace h:(Mini.K6 i l.length).bind (fun k=>(l[k]?).map fun c=>V.str [c])=some v:=h
  have hz:=len_str ro
  obtain ⟨t,rfl⟩:=I2 ro
  obtain ⟨u,rfl⟩:=E3 ri
  cases e:Mini.K6 i l.length with
  | none=>rw [e] at h;cases h
  | some j =>
   rw [e] at h
   obtain ⟨p1,p2,p3,p4⟩:=tV e
   have hj:l[j]? = some l[j]:=List.getElem?_eq_getElem p2
   simp only [Option.bind_some,hj,Option.map_some,Option.some.injEq] at h
   subst h
   have hch:Txt.charAt ⟨l.toArray⟩ i=some l[j]:=by
    unfold Txt.charAt
    have:(Str.mk l.toArray).length=l.length:=by simp [Str.length]
    rw [this,p1]
    simp [hj]
   refine tail_any (typeIs_str _ _ _) F.slot_str_getitem.lookup (SB.getItem ?_ ?_ ?_) hs
   ·unfold fitsSsize
    simp
    lia
   ·rw [hch];rfl
   ·refine k _ _ (oL ?_ (by simp;exact Mini.G9 (Nat.le_of_eq hlim.symm))) (B8 _)
    unfold Txt.item
    rw [hch];rfl
 | tup l =>
  replace h:(Mini.K6 i l.length).bind (fun k=>l[k]?)=some v:=h
  have hz:=Aw2 ro
  obtain ⟨a,vs,rfl,ht,rs⟩:=iY ro
  obtain ⟨u,rfl⟩:=E3 ri
  cases e:Mini.K6 i l.length with
  | none=>rw [e] at h;cases h
  | some j =>
   rw [e] at h
   obtain ⟨p1,p2,p3,p4⟩:=tV e
   simp only [Option.bind_some] at h
   obtain ⟨z,hz',rz⟩:=rs.get h
   have hl9:l.length=vs.length:=rs.length
   refine tail_any (T := "tuple") ht.typeIs F.slot_tuple_getitem.lookup (PyProof.Rows.getItem_tuple ht (by lia) (by lia) (j:=j) ?_ ?_ (k _ s.toks rz (A4 _))) hs
   ·rw [List.size_toArray,<- hl9];exact p1
   ·simpa using hz'
 | frz l =>
  replace h:(Mini.K6 i l.length).bind (fun k=>(l[k]?).map V.int)=some v:=h
  obtain ⟨hz,a,vs,rfl,ht,rs⟩:=dH ro
  obtain ⟨u,rfl⟩:=E3 ri
  have rs':C7 X.h₀ φ s.heap (l.map V.int) vs:=rs.rels
  have hl9:l.length=vs.length:=by simpa using rs'.length
  have hL:s.heap.IsList a vs.toArray:=by obtain ⟨o,ho,r⟩:=ht;exact ⟨o,O.base _ _ ho,r⟩
  cases e:Mini.K6 i l.length with
  | none=>rw [e] at h;cases h
  | some j =>
   rw [e] at h
   simp only [Option.bind_some] at h
   have h':(l.map V.int)[j]? = some v:=by simpa using h
   obtain ⟨z,hz',rz⟩:=rs'.get h'
   exact tail_any (T := "list") hL.typeIs F.slot_list_getitem.lookup (cJ hL (by exact Mini.G9 (Mini.I6 (Nat.le_of_eq hl9.symm) hz)) (by rw [<- hl9];exact e) hz' (k _ s.toks rz (A4 _))) hs
 | ref a =>
  replace h:(H[a]?).bind (fun l=>(Mini.K6 i l.length).bind fun k=>l[k]?)=some v:=h
  obtain ⟨p,hp,rfl⟩:=J9 ro
  obtain ⟨u,rfl⟩:=E3 ri
  cases e0:H[a]? with
  | none=>rw [e0] at h;cases h
  | some l =>
   rw [e0] at h
   simp only [Option.bind_some] at h
   obtain ⟨vs,hpl,rs⟩:=O.lists _ _ _ hp e0
   have hz:=O.small l (B9 e0)
   have hl9:l.length=vs.length:=rs.length
   cases e:Mini.K6 i l.length with
   | none=>rw [e] at h;cases h
   | some j =>
    rw [e] at h
    simp only [Option.bind_some] at h
    obtain ⟨z,hz',rz⟩:=rs.get h
    exact tail_any (T := "list") hpl.isList.typeIs F.slot_list_getitem.lookup (cJ hpl.isList (by exact Mini.G9 (Mini.I6 (Nat.le_of_eq hl9.symm) hz)) (by rw [<- hl9];exact e) hz' (k _ s.toks rz (A4 _))) hs
 | _=>exact nomatch (show Option.none=some v from h)
theorem Bd9 {gl sc nm e re}(h:Mini.D5 gl sc nm e re=true) (o i:Value):subscripted re false o i=operate [o,i] (getItem o i):=by
 have h:=(Mini.mE h).form
 cases re<;>first | rfl | nomatch h
set_option tactic.hygienic true in
theorem Cd3 {o i:Mini.E}(ho:E4 X A C o) (hi:E4 X A C i):E4 X A C (.idx o i):=by
 intro re env nm ρ Q H φ s K EX hc L O h k
 refine Mini.Cg7 hc fun o' i' p e9 hc9=>?_
 clear hc;subst e9
 ·simp only [Bool.and_eq_true] at hc9
  replace h:=Mini.Bm6 h
  refine Subscript_ (ho _ env nm ρ _ H φ s _ EX hc9.1 L O h fun a H1 φ1 x1 s1 q1 F1 r1=>?_)
  refine hi _ env nm ρ _ H1 φ1 s1 _ EX hc9.2 (L.fwd O F1) F1.ok q1 fun b H2 φ2 x2 s2 q2 F2 r2=>?_
  unfold Mini.val at q2
  split at q2
  ·rename_i v e
   exact Br3 (Bd9 hc9.2 _ _) F2.ok (F2.val F1.ok r1) r2 e fun z tk rz ht=>k _ _ _ _ _ q2 ((F1.trans F2).trans (I4.tok F2.ok ht)) rz
  ·exact q2.elim
end
end MiniS
namespace MiniS
open PySem PySem.Calls PyProof.Rows
open Mini (V D)
noncomputable def pv:Option (Int×Tok)->Value
 | none=>.none
 | some (i,t)=>.int i t
theorem oH (v:Option (Int×Tok)):IsPart (pv v) (v.map (·.1)):=by
 cases v with
 | none=>exact .none
 | some v=>exact .int _ _
theorem lC {vs:List Value}(h:vs.length<=Mini.I3):sizeOk (.seq vs.toArray):=by
 show vs.toArray.size<=_
 have:sizeLine=Mini.I3:=G7
 simp;exact Mini.G9 (Mini.I6 h (Nat.le_of_eq this.symm))
section
variable {X:Cx}{A:Around}{C:Mini.Calls}
theorem pZ {o:V}{x:Value}{lo hi:Option (Int×Tok)}{Q:V->Mini.Heap->Prop}{H:Mini.Heap}{φ:List Addr}{s:Shared}{K EX:Value->Shared->Prop}{value:Expr}{lx hx:Option Expr}{p:Pos}
  (O:Ok X.h₀ φ H s.heap) (ro:E7 X.h₀ φ s.heap o x) (h:Mini.res (Mini.kK o (lo.map (·.1)) (hi.map (·.1)) H) Q) (k:W6 X Q φ s K) :
  wpAny (M1 X) A (subscriptTail value (.Slice lx hx none p) x (.ref s.heap.objs.size)) K EX { s with heap:=s.heap.push { cls:=.type "slice",data:=.fields #[pv lo,pv hi,.none] } }:=by
 have F0:I4 X.h₀ φ s φ H { s with heap:=s.heap.push { cls:=.type "slice",data:=.fields #[pv lo,pv hi,.none] } }:=I4.push O
 have ro':=F0.val O ro
 cases o with
 | str l =>
  have hz:=len_str ro
  obtain ⟨t,rfl⟩:=I2 ro
  refine free (tail_any (typeIs_str _ _ _) F.slot_str_getitem.lookup (ops:=[.ref s.heap.objs.size,_]) (wpAny_getItem_str_slice (l:=lo) (u:=hi) (st:=none) ⟨_,Heap.get?_push_size _ rfl,rfl,?_⟩ rfl
   (post_val_or_str ⟨?_,fun t' k' ht=>?_⟩)) rfl)
  ·cases lo<;>cases hi<;>rfl
  ·have:(Txt.slice ⟨l.toArray⟩ (lo.map (·.1)) (hi.map (·.1))).length<=sizeLine:=by
    refine A3 (Txt.slice_le _ _ _) ?_
    rw [G7];simpa [Str.length] using hz
   exact this
  ·refine k _ _ _ _ _ h (F0.trans (I4.tok F0.ok ht)) (oL (Af9 _ _ _) ?_)
   exact A3 (lB _ _ _) hz
 | frz l =>
  obtain ⟨hz,a,vs,rfl,ht,rs⟩:=dH ro
  have rs':C7 X.h₀ φ (s.heap.push { cls:=.type "slice",data:=.fields #[pv lo,pv hi,.none] }) (l.map V.int) vs:=rs.rels
  have hL:(s.heap.push { cls:=.type "slice",data:=.fields #[pv lo,pv hi,.none] }).IsList a vs.toArray:=by
   obtain ⟨o,ho,r⟩:=ht;exact ⟨o,Heap.get?_push_of_some _ (O.base _ _ ho),r⟩
  have hl9:l.length=vs.length:=by simpa using rs'.length
  have F1:=I4.alloc (n:=0) (tk:=s.toks) F0.ok (rs'.slice (lo.map (·.1)) (hi.map (·.1))) (by
   refine A3 (lB _ _ _) ?_;simpa using hz)
  refine tail_any (T := "list") (ops:=[.ref s.heap.objs.size,_]) (Heap.IsList.typeIs (s:={ s with heap:=s.heap.push { cls:=.type "slice",data:=.fields #[pv lo,pv hi,.none] } }) hL) F.slot_list_getitem.lookup
   (wpAny_getItem_list_slice hL (Heap.IsSliceOf.new ..) (oH lo) (oH hi) .none (by simp) ?_ ?_) rfl
  ·rw [jP]
   rw [Bd7] at F1
   exact k _ _ _ _ _ h (F0.trans F1) (cY (by rw [<- O.len];simp))
  ·rw [G7];simp [<- hl9];exact hz
 | ref a =>
  obtain ⟨q,hq,rfl⟩:=J9 ro
  replace h:Mini.res ((H[a]?).map fun l=>(.ref H.length,H++[Mini.slice l (lo.map (·.1)) (hi.map (·.1))])) Q:=h
  cases e0:H[a]? with
  | none=>rw [e0] at h;exact h.elim
  | some l =>
   rw [e0] at h
   obtain ⟨vs,hpl,rs⟩:=F0.ok.lists _ _ _ hq e0
   have hz:=O.small l (B9 e0)
   have hl9:l.length=vs.length:=rs.length
   have F1:=I4.alloc (n:=0) (tk:=s.toks) F0.ok (rs.slice (lo.map (·.1)) (hi.map (·.1))) (A3 (lB _ _ _) hz)
   refine tail_any (T := "list") (ops:=[.ref s.heap.objs.size,_]) (Heap.IsList.typeIs (s:={ s with heap:=s.heap.push { cls:=.type "slice",data:=.fields #[pv lo,pv hi,.none] } }) hpl.isList) F.slot_list_getitem.lookup
    (wpAny_getItem_list_slice hpl.isList (Heap.IsSliceOf.new ..) (oH lo) (oH hi) .none (by simp) ?_ ?_) rfl
   ·rw [jP]
    exact k _ _ _ _ _ h (F0.trans F1) (cY (by rw [<- O.len];simp))
   ·rw [G7];simp [<- hl9];exact hz
 | _=>exact False.elim h
theorem Cc5 {o l r:Mini.E}(ho:E4 X A C o) (hl:E4 X A C l) (hr:E4 X A C r):E4 X A C (.slc o l r):=by
 intro re env nm ρ Q H φ s K EX hc L O h k
 refine Mini.Cg4 hc fun o' l' u' q p e9 hc9=>?_
 clear hc;subst e9
 ·simp only [Bool.and_eq_true] at hc9
  obtain ⟨⟨h1,h2⟩,h3⟩:=hc9
  replace h:=Mini.Bm2 h
  refine Subscript_ (ho _ env nm ρ _ H φ s _ EX h1 L O h fun a H1 φ1 x1 s1 q1 F1 r1=>?_)
  refine wpAny_Slice ?_
  rw [evalPart_some,evalPart_some,evalPart_none]
  refine hl _ env nm ρ _ H1 φ1 s1 _ EX h2 (L.fwd O F1) F1.ok q1 fun b H2 φ2 x2 s2 q2 F2 r2=>?_
  refine hr _ env nm ρ _ H2 φ2 s2 _ EX h3 ((L.fwd O F1).fwd F1.ok F2) F2.ok q2 fun c H3 φ3 x3 s3 q3 F3 r3=>?_
  refine wpAny_pure ?_
  cases b with
  | int i =>
   cases c with
   | int j =>
   obtain ⟨t,rfl⟩:=E3 r2
   obtain ⟨u,rfl⟩:=E3 r3
   exact pZ (lo:=some (i,t)) (hi:=some (j,u)) F3.ok (F3.val F2.ok (F2.val F1.ok r1)) q3 (k.after ((F1.trans F2).trans F3))
   | _=>exact False.elim q3
  | _=>exact False.elim q3
theorem Bq5 {o l:Mini.E}(ho:E4 X A C o) (hl:E4 X A C l):E4 X A C (.slcL o l):=by
 intro re env nm ρ Q H φ s K EX hc L O h k
 refine Mini.Bv3 hc fun o' l' q p e9 hc9=>?_
 clear hc;subst e9
 ·simp only [Bool.and_eq_true] at hc9
  obtain ⟨h1,h2⟩:=hc9
  replace h:=Mini.Ax2 h
  refine Subscript_ (ho _ env nm ρ _ H φ s _ EX h1 L O h fun a H1 φ1 x1 s1 q1 F1 r1=>?_)
  refine wpAny_Slice ?_
  rw [evalPart_some,evalPart_none]
  refine hl _ env nm ρ _ H1 φ1 s1 _ EX h2 (L.fwd O F1) F1.ok q1 fun b H2 φ2 x2 s2 q2 F2 r2=>?_
  refine wpAny_pure (wpAny_pure ?_)
  cases b with
  | int i =>
   obtain ⟨t,rfl⟩:=E3 r2
   exact pZ (lo:=some (i,t)) (hi:=none) F2.ok (F2.val F1.ok r1) q2 (k.after (F1.trans F2))
  | _=>exact False.elim q2
theorem Bq6 {o l:Mini.E}(ho:E4 X A C o) (hl:E4 X A C l):E4 X A C (.slcH o l):=by
 intro re env nm ρ Q H φ s K EX hc L O h k
 refine Mini.Bv4 hc fun o' u' q p e9 hc9=>?_
 clear hc;subst e9
 ·simp only [Bool.and_eq_true] at hc9
  obtain ⟨h1,h2⟩:=hc9
  replace h:=Mini.Ax3 h
  refine Subscript_ (ho _ env nm ρ _ H φ s _ EX h1 L O h fun a H1 φ1 x1 s1 q1 F1 r1=>?_)
  refine wpAny_Slice ?_
  rw [evalPart_some,evalPart_none]
  refine wpAny_pure ?_
  refine hl _ env nm ρ _ H1 φ1 s1 _ EX h2 (L.fwd O F1) F1.ok q1 fun b H2 φ2 x2 s2 q2 F2 r2=>?_
  refine wpAny_pure ?_
  cases b with
  | int i =>
   obtain ⟨t,rfl⟩:=E3 r2
   exact pZ (lo:=none) (hi:=some (i,t)) F2.ok (F2.val F1.ok r1) q2 (k.after (F1.trans F2))
  | _=>exact False.elim q2
theorem O0 {gl sc nm e re}(h:Mini.D5 gl sc nm e re=true) (rest:List Expr) (env:Env):starEach (re::rest) env=(false,eval re env)::starEach rest env:=by
 have h:=(Mini.mE h).form
 cases re<;>first | rfl | nomatch h
noncomputable def Ax0 (ps:Bool) (es:List Mini.E) (xs:List Value) (tk:Nat):Prop:=ps=true->∀ (j:Nat) (l:List Nat),es[j]? = some (.str l)->∀ x,xs[j]? = some x->∃ y t,x=.str y t/\0<t/\t<tk
theorem Ce2 {re:Expr}{env:Env}{nm:List Str}{l:List Nat}{s:Shared}{K EX:Value->Shared->Prop}(hc:Mini.D5 X.gl env.scope.names nm (.str l) re=true)
  (k:K (.str ⟨l.toArray⟩ s.toks) { s with toks:=s.toks+1 }):wpAny (M1 X) A (eval re env) K EX s:=by
 refine Mini.xA hc fun x k9 p e9 hx9 hl=>?_
 clear hc;subst e9
 ·subst hx9
  exact Constant_str (by simpa using k)
theorem Cc0 {l:List Nat}{ρ:Mini.D7}{Q:V->Mini.Heap->Prop}{H:Mini.Heap}(h:Mini.E2 C (.str l) ρ Q H):Q (.str l) H:=h
theorem Ce3 {re:Expr}{env:Env}{nm:List Str}{l:List Nat}(hc:Mini.D5 X.gl env.scope.names nm (.str l) re=true):l.length<=Mini.I3:=by
 exact Mini.xA hc fun x k9 p e9 hx9 hl=>hl
theorem Y2:∀ (es:List Mini.E) (res:List Expr) (env:Env) (nm:List Str) (ρ:Mini.D7) (Q:List V->Mini.Heap->Prop) (H:Mini.Heap) (φ:List Addr) (s:Shared) (K:List Value->Shared->Prop) (EX:Value->Shared->Prop) (p:Pos),
  fI X A C es->Mini.J8 X.gl env.scope.names nm es res=true->E5 X φ nm env ρ s->Ok X.h₀ φ H s.heap->Mini.S2 C es ρ Q H ->
  (∀ vs H' φ' xs s',Q vs H'->I4 X.h₀ φ s φ' H' s'->C7 X.h₀ φ' s'.heap vs xs->vs.length=es.length->Ax0 X.gl.pos es xs s'.toks->K xs s') ->
  wpAny (M1 X) A (spliced (backTo p (starEach res env))) K EX s
 | [],res,env,nm,ρ,Q,H,φ,s,K,EX,p,_,hc,L,O,h,k=>by
  obtain rfl:=Mini.Aq6 hc
  ·replace h:=Mini.Cr4 h
   exact args_nil (k _ _ _ _ _ h (I4.refl O) C7.nil rfl (fun zz j l e=>by simp at e))
 | e::es,res,env,nm,ρ,Q,H,φ,s,K,EX,p,hs,hc,L,O,h,k=>by
  obtain ⟨re,res,e9,hc9⟩:=Mini.Ah1 hc
  clear hc;subst e9
  have hc:=hc9
  clear hc9
  ·
   replace h:=Mini.Ax6 h
   by_cases hlit:∃ l,e=.str l
   ·obtain ⟨l,rfl⟩:=hlit
    refine args_cons (Ce2 hc.1 ?_) (O0 hc.1 _ _)
    have F1:I4 X.h₀ φ s φ H { s with toks:=s.toks+1 }:=I4.tok O
    refine Y2 es res env nm ρ _ H φ _ _ EX p (fun e' he'=>hs e' (List.mem_cons_of_mem _ he')) hc.2 (L.fwd O F1) F1.ok (Cc0 h) fun vs H2 φ2 xs s2 q2 F2 r2 hl hla=>?_
    refine k _ _ _ _ _ q2 (F1.trans F2) (C7.cons (F2.val F1.ok (kO (Ce3 hc.1))) r2) (by simp [hl]) ?_
    intro hps j l' e x hx
    cases j with
    | zero =>
     simp at hx;subst hx
     exact ⟨_,_,rfl,L.pos hps,F2.step.toks⟩
    | succ j=>exact hla hps j l' (by simpa using e) x (by simpa using hx)
   ·refine args_cons (hs e (by simp) _ env nm ρ _ H φ s _ EX hc.1 L O h fun v H1 φ1 x1 s1 q1 F1 r1=>?_) (O0 hc.1 _ _)
    refine Y2 es res env nm ρ _ H1 φ1 s1 _ EX p (fun e' he'=>hs e' (List.mem_cons_of_mem _ he')) hc.2 (L.fwd O F1) F1.ok q1 fun vs H2 φ2 xs s2 q2 F2 r2 hl hla=>?_
    refine k _ _ _ _ _ q2 (F1.trans F2) (C7.cons (F2.val F1.ok r1) r2) (by simp [hl]) ?_
    intro hps j l' e' x hx
    cases j with
    | zero=>simp at e';exact absurd ⟨l',e'⟩ hlit
    | succ j=>exact hla hps j l' (by simpa using e') x (by simpa using hx)
theorem Br1 {es:List Mini.E}(hs:fI X A C es):E4 X A C (.list es):=by
 intro re env nm ρ Q H φ s K EX hc L O h k
 refine Mini.Bv7 hc fun res p e9 hc9=>?_
 clear hc;subst e9
 ·simp only [Bool.and_eq_true,decide_eq_true_eq] at hc9
  replace h:=Mini.Cf3 h
  show wpAny (M1 X) A (do standAt p;newList (<- spliced (backTo p (starEach res env)))) K EX s
  refine wpAny_bind (wpAny_standAt (wpAny_bind (Y2 es res env nm ρ _ H φ s _ EX p hs hc9.1 L O h fun vs H1 φ1 xs s1 q1 F1 r1 hl zz=>?_)))
  have F2:=I4.alloc (n:=0) (tk:=s1.toks) F1.ok r1 (by rw [hl];exact hc9.2)
  exact wpAny_newObj_type (hd:=lC (by rw [<- r1.length,hl];exact hc9.2)) (k _ _ _ _ _ q1 (F1.trans F2) (cY (by rw [<- F1.ok.len];simp)))
theorem Cq7 {h₀ φ h}{l:List V}{vs:List Value}{a:Addr}(hl:l.length<=Mini.I3) (ht:IsTup h a vs.toArray) (r:C7 h₀ φ h l vs):E7 h₀ φ h (.tup l) (.ref a):=by
 exact ⟨hl,a,vs,rfl,ht,r⟩
theorem Cc3 {es:List Mini.E}(hs:fI X A C es):E4 X A C (.tup es):=by
 intro re env nm ρ Q H φ s K EX hc L O h k
 refine Mini.Cg3 hc fun res k9 p e9 hc9=>?_
 clear hc;subst e9
 ·simp only [Bool.and_eq_true,decide_eq_true_eq] at hc9
  replace h:=Mini.Cr1 h
  show wpAny (M1 X) A (do standAt p;newTuple (<- spliced (backTo p (starEach res env)))) K EX s
  refine wpAny_bind (wpAny_standAt (wpAny_bind (Y2 es res env nm ρ _ H φ s _ EX p hs hc9.1 L O h fun vs H1 φ1 xs s1 q1 F1 r1 hl zz=>?_)))
  have F2:I4 X.h₀ φ1 s1 φ1 H1 { s1 with heap:=s1.heap.push { cls:=.type "tuple",data:=.seq xs.toArray } }:=I4.push F1.ok
  refine wpAny_newObj_type (hd:=lC (by rw [<- r1.length,hl];exact hc9.2)) (k _ _ _ _ _ q1 (F1.trans F2) (Cq7 (by rw [hl];exact hc9.2) ?_ (F2.vals F1.ok r1)))
  exact ⟨_,Heap.get?_push_size _ rfl,rfl,0,rfl⟩
end
end MiniS
namespace MiniS
open PySem PySem.Calls PyProof.Rows
open Mini (V D)
section
variable {X:Cx}{A:Around}{C:Mini.Calls}
noncomputable def bP (X:Cx) (A:Around) (C:Mini.Calls):Prop :=
 ∀ (f:String) (ls:List Nat) (fa:Addr) (vs:List V) (Q:V->Mini.Heap->Prop) (H:Mini.Heap) (φ:List Addr) (s:Shared) (xs:List Value) (K EX:Value->Shared->Prop),
  X.gl.fns.lookup f=some ls->X.mg (Str.ofString f)=some (.ref fa)->C f vs Q H->Ok X.h₀ φ H s.heap->C7 X.h₀ φ s.heap vs xs->(X.gl.pos=true->0<s.toks∨∃ fn,X.P f=some fn/\fn.bump=true) ->
  (∀ j∈ls,∀ x,xs[j]? = some x->∃ y t,x=.str y t/\0<t/\t<s.toks)->W6 X Q φ s K->wpAny (M1 X) A (call (.ref fa) xs) K EX s
theorem X2 {f:Value}{es:List Mini.E}{res:List Expr}{env:Env}{nm:List Str}{s:Shared}{p:Pos}{Q:Args->Shared->Prop}{EX:Value->Shared->Prop}
  (hc:Mini.J8 X.gl env.scope.names nm es res=true) (h:wpAny (M1 X) A (spliced (backTo p (starEach res env))) (fun vs s'=>Q ⟨vs,[]⟩ s') EX s) :
  wpAny (M1 X) A (evalArgs f true (backTo p (starEach res env)) []) Q EX s:=by
 cases res with
 | nil =>
  exact fun Γ p hΓ=>h Γ p hΓ
 | cons re res =>
  cases es with
  | nil=>nomatch hc
  | cons e es =>
   replace hc:=Mini.C3 hc
   rw [O0 hc.1] at h ⊢
   exact evalArgs_plain h
theorem lN:∀ {es:List Mini.E}{res:List Expr}{env:Env}{nm:List Str}{p:Pos},Mini.J8 X.gl env.scope.names nm es res=true->(backTo p (starEach res env)).any (·.1)=false
 | [],[],_,_,_,_=>rfl
 | [],_::_,_,_,_,h=>nomatch h
 | _::_,[],_,_,_,h=>nomatch h
 | e::es,re::res,env,nm,p,h=>by
  replace h:=Mini.C3 h
  rw [O0 h.1]
  show (false||(backTo p (starEach res env)).any (·.1))=false
  rw [lN h.2];rfl
theorem lO:∀ {es:List Mini.E}{res:List Expr}{env:Env}{nm:List Str}{p:Pos},Mini.J8 X.gl env.scope.names nm es res=true->(backTo p (starEach res env)).all (fun x=>!x.1)=true
 | [],[],_,_,_,_=>rfl
 | [],_::_,_,_,_,h=>nomatch h
 | _::_,[],_,_,_,h=>nomatch h
 | e::es,re::res,env,nm,p,h=>by
  replace h:=Mini.C3 h
  rw [O0 h.1]
  show (!false&&(backTo p (starEach res env)).all (fun x=>!x.1))=true
  rw [lO h.2];rfl
theorem Aw8:∀ {es:List Mini.E}{res:List Expr}{gl:Mini.Gl}{sc:List (Str×NameKind)}{nm:List Str},Mini.J8 gl sc nm es res=true->res.length=es.length
 | [],[],_,_,_,_=>rfl
 | [],_::_,_,_,_,h=>nomatch h
 | _::_,[],_,_,_,h=>nomatch h
 | e::es,re::res,gl,sc,nm,h=>by
  replace h:=Mini.C3 h
  simp [Aw8 h.2]
theorem Bs1 (G:cR X) (hC:bP X A C) {f:String}{es:List Mini.E}(hs:fI X A C es):E4 X A C (.call f es):=by
 intro re env nm ρ Q H φ s K EX hc L O h k
 refine Mini.Ab6 hc fun id p0 res p e9 hc9=>?_
 clear hc;subst e9
 ·simp only [Bool.and_eq_true,beq_iff_eq] at hc9
  obtain ⟨⟨⟨⟨h1,h2⟩,h3⟩,h4⟩,h5⟩:=hc9
  subst h1
  simp only [Mini.N3,Bool.and_eq_true,Bool.not_eq_true'] at h4
  unfold Mini.wK at h2
  cases hls:X.gl.fns.lookup f with
  | none=>rw [hls] at h2;cases h2
  | some ls =>
   rw [hls] at h2
   obtain ⟨fn,fa,o,params,body,scope,pm,cd,doc,hP,hl,hm,ho,hd,hcd,hck⟩:=G.fns f ls hls
   replace h:=Mini.Cf5 h
   refine wpAny_Call_NameR (bE G L O h3 h4.1 hm ?_)
   refine callWith_function (o:=o) (fd:=docDef (Str.ofString f) params body scope pm cd doc) (X2 h5 (Y2 es res env nm ρ _ H φ s _ EX p hs h5 L O h fun vs H1 φ1 xs s1 q1 F1 r1 hle hla=>?_))
   refine ⟨⟨F1.ok.base _ _ ho,hd⟩,?_⟩
   refine hC f ls fa vs Q H1 φ1 s1 xs K EX hls hm q1 F1.ok r1 (fun hp=>Or.inl (A8 (L.pos hp) F1.step.toks)) (fun j hj x hx=>?_) (k.after F1)
   simp only [Bool.and_eq_true,Bool.or_eq_true] at h2
   have hps:X.gl.pos=true:=by
    rcases h2.1 with q | q
    ·exact q
    ·rw [List.isEmpty_iff] at q;subst q;cases hj
   have:=List.all_eq_true.mp h2.2 j hj
   cases he:es[j]? with
   | none=>rw [he] at this;cases this
   | some e =>
    rw [he] at this
    obtain ⟨l9,rfl⟩:=Mini.Ax7 this
    exact hla hps j _ he x hx
theorem bS {sc:List (Str×NameKind)}{n:String}{e:Expr}(h:Mini.Q4 sc n e=true):∃ p,e=.Name (Str.ofString n) p/\Mini.T9 sc (Str.ofString n)=true:=by
 refine Mini.M3 h fun id p e9 h=>?_
 have e8:=eq_of_beq (Mini.C3 h).1
 subst e8
 exact ⟨p,e9,(Mini.C3 h).2⟩
theorem wS (G:cR X) {env:Env}{nm:List Str}{ρ:Mini.D7}{φ:List Addr}{H:Mini.Heap}{s:Shared}{K EX:Value->Shared->Prop}{n:String}{e:Expr}(hn:n∈dB)
  (L:E5 X φ nm env ρ s) (O:Ok X.h₀ φ H s.heap) (h:Mini.Q4 env.scope.names n e=true) (k:K (.builtin n) s):wpAny (M1 X) A (eval e env) K EX s:=by
 obtain ⟨p,rfl,hg⟩:=bS h
 refine zU G L O hg ?_ (G.bf n hn).1 (G.bf n hn).2 k
 simp only [dB,List.mem_cons,List.not_mem_nil,or_false] at hn
 rcases hn with rfl | rfl | rfl | rfl<;>decide +kernel
theorem Aw1 (G:cR X) {env:Env}{nm:List Str}{ρ:Mini.D7}{φ:List Addr}{H:Mini.Heap}{s:Shared}{K EX:Value->Shared->Prop}{n:String}{e:Expr}(hn:n∈cZ)
  (L:E5 X φ nm env ρ s) (O:Ok X.h₀ φ H s.heap) (h:Mini.Q4 env.scope.names n e=true) (k:K (.type n) s):wpAny (M1 X) A (eval e env) K EX s:=by
 obtain ⟨p,rfl,hg⟩:=bS h
 refine zU G L O hg ?_ (G.bt n hn).1 (G.bt n hn).2 k
 simp only [cZ,List.mem_cons,List.not_mem_nil,or_false] at hn
 rcases hn with rfl | rfl | rfl | rfl | rfl | rfl | rfl<;>decide +kernel
theorem fn1 (G:cR X) {n:String}{fn re:Expr}{e:Mini.E}{env:Env}{nm:List Str}{ρ:Mini.D7}{φ:List Addr}{H:Mini.Heap}{s:Shared}{K EX:Value->Shared->Prop}{p:Pos}{Q:V->Mini.Heap->Prop}(hn:n∈dB)
  (he:E4 X A C e) (hc:Mini.D5 X.gl env.scope.names nm e re=true) (hf:Mini.Q4 env.scope.names n fn=true) (L:E5 X φ nm env ρ s) (O:Ok X.h₀ φ H s.heap) (h:Mini.E2 C e ρ Q H)
  (k:∀ v H' φ' x s',Q v H'->I4 X.h₀ φ s φ' H' s'->E7 X.h₀ φ' s'.heap v x->wpAny (M1 X) A (call (.builtin n) [x]) K EX s') :
  wpAny (M1 X) A (eval (.Call fn [re] [] p) env) K EX s:=by
 obtain ⟨p0,rfl,hg⟩:=bS hf
 refine wpAny_Call_NameR (wS G hn L O hf ?_)
 refine PyProof.Rows.callWith_builtin1 (args_cons (he _ env nm ρ _ H φ s _ EX hc L O h fun v H1 φ1 x1 s1 q1 F1 r1=>args_nil (k v H1 φ1 x1 s1 q1 F1 r1)) (O0 hc _ _)) (O0 hc _ _)
theorem ty1 (G:cR X) {n:String}{fn re:Expr}{e:Mini.E}{env:Env}{nm:List Str}{ρ:Mini.D7}{φ:List Addr}{H:Mini.Heap}{s:Shared}{K EX:Value->Shared->Prop}{p:Pos}{Q:V->Mini.Heap->Prop}(hn:n∈cZ)
  (he:E4 X A C e) (hc:Mini.D5 X.gl env.scope.names nm e re=true) (hf:Mini.Q4 env.scope.names n fn=true) (L:E5 X φ nm env ρ s) (O:Ok X.h₀ φ H s.heap) (h:Mini.E2 C e ρ Q H)
  (k:∀ v H' φ' x s',Q v H'->I4 X.h₀ φ s φ' H' s'->E7 X.h₀ φ' s'.heap v x->wpAny (M1 X) A (call (.type n) [x]) K EX s') :
  wpAny (M1 X) A (eval (.Call fn [re] [] p) env) K EX s:=by
 obtain ⟨p0,rfl,hg⟩:=bS hf
 refine wpAny_Call_NameR (Aw1 G hn L O hf ?_)
 refine PyProof.Rows.callWith_type1 (args_cons (he _ env nm ρ _ H φ s _ EX hc L O h fun v H1 φ1 x1 s1 q1 F1 r1=>args_nil (k v H1 φ1 x1 s1 q1 F1 r1)) (O0 hc _ _)) (O0 hc _ _)
set_option tactic.hygienic true in
theorem Cd0 (G:cR X) {e:Mini.E}(he:E4 X A C e):E4 X A C (.len e):=by
 intro re env nm ρ Q H φ s K EX hc L O h k
 have hlim:Mini.I3=16777216:=rfl
 refine Mini.eN hc fun fn e' p e9 hf9 hc9=>?_
 clear hc;subst e9
 ·replace h:=Mini.Cr3 h
  refine fn1 G (by decide) he hc9 hf9 L O h fun v H1 φ1 x s1 q F1 r=>?_
  unfold Mini.val at q
  split at q
  ·rename_i w e
   obtain ⟨i,e1,rfl⟩:=Option.map_eq_some_iff.mp e
   cases v with
   | str a0 =>
    cases e1
    have hz:=len_str r
    obtain ⟨t,rfl⟩:=I2 r
    refine P.len_str (by simp [Str.length];exact Int.ofNat_lt.mpr (Mini.G9 (Mini.I6 hz (Nat.le_of_eq hlim)))) (k _ _ _ _ _ q (F1.trans (I4.tok F1.ok)) ?_)
    simpa [Str.length] using R4
   | tup a0 =>
    cases e1
    have hz:=Aw2 r
    obtain ⟨a,vs,rfl,ht,rs⟩:=iY r
    have:=rs.length
    refine PyProof.Rows.len_tuple ht (by simp;exact Int.ofNat_lt.mpr (Mini.G9 (Mini.I6 (Nat.le_of_eq this.symm) (Mini.I6 hz (Nat.le_of_eq hlim))))) (k _ _ _ _ _ q (F1.trans (I4.tok F1.ok)) ?_)
    simpa [this] using R4
   | frz a0 =>
    cases e1
    obtain ⟨hz,a,vs,rfl,ht,rs⟩:=dH r
    have rs':C7 X.h₀ φ1 s1.heap (_:List V) vs:=rs.rels
    have:=rs'.length
    simp at this
    have hL:s1.heap.IsList a vs.toArray:=by obtain ⟨o,ho,r⟩:=ht;exact ⟨o,F1.ok.base _ _ ho,r⟩
    refine call_len_list hL (by simp;exact Int.ofNat_lt.mpr (Mini.G9 (Mini.I6 (Nat.le_of_eq this.symm) (Mini.I6 hz (Nat.le_of_eq hlim))))) (k _ _ _ _ _ q (F1.trans (I4.tok F1.ok)) ?_)
    simpa [this] using R4
   | ref a =>
    replace e1:(H1[a]?).map (fun l=>(l.length:Int))=some i:=e1
    cases e0:H1[a]? with
    | none=>rw [e0] at e1;cases e1
    | some l =>
     rw [e0] at e1
     simp at e1;subst e1
     obtain ⟨p,hp,rfl⟩:=J9 r
     obtain ⟨vs,hpl,rs⟩:=F1.ok.lists _ _ _ hp e0
     have hz:=F1.ok.small l (B9 e0)
     have:=rs.length
     refine call_len_list hpl.isList (by simp;exact Int.ofNat_lt.mpr (Mini.G9 (Mini.I6 (Nat.le_of_eq this.symm) (Mini.I6 hz (Nat.le_of_eq hlim))))) (k _ _ _ _ _ q (F1.trans (I4.tok F1.ok)) ?_)
     simpa [this] using R4
   | _=>exact nomatch (show Option.none=some _ from e1)
  ·exact q.elim
theorem Cc7 (G:cR X) {e:Mini.E}(he:E4 X A C e):E4 X A C (.ord e):=by
 intro re env nm ρ Q H φ s K EX hc L O h k
 refine Mini.eN hc fun fn e' p e9 hf9 hc9=>?_
 clear hc;subst e9
 ·replace h:=Mini.Bm4 h
  refine fn1 G (by decide) he hc9 hf9 L O h fun v H1 φ1 x s1 q F1 r=>?_
  obtain ⟨c,rfl,q⟩:=Mini.Z8 (Mini.Cm2 q)
  ·obtain ⟨t,rfl⟩:=I2 r
   exact P.ord_of_char (k _ _ _ _ _ q (F1.trans (I4.tok F1.ok)) R4)
theorem Bc9 (G:cR X) {e:Mini.E}(he:E4 X A C e):E4 X A C (.toInt e):=by
 intro re env nm ρ Q H φ s K EX hc L O h k
 refine Mini.eN hc fun fn e' p e9 hf9 hc9=>?_
 clear hc;subst e9
 ·replace h:=Mini.Aa6 h
  refine ty1 G (by decide) he hc9 hf9 L O h fun v H1 φ1 x s1 q F1 r=>?_
  cases v with
  | bool b0 =>
   obtain rfl:=X4 r
   exact call_int_bool (k _ _ _ _ _ q (F1.trans (I4.tok F1.ok)) R4)
  | _=>exact False.elim q
theorem dJ {T:String}{s:Shared}{K EX:Value->Shared->Prop}(hne:(Value.type "NoneType" == Value.type T)=false) (hty:typeOf (.type T)=pure (.type "type")) (hsub:isSubtype (.type "NoneType") (.type T)=pure false)
  (h:K (.bool false) { s with toks:=s.toks+1 }):wpAny (M1 X) A (call (.builtin "isinstance") [.none,.type T]) K EX s :=
 call_isinstance (isinstance_false_none hne hty hsub) h
theorem xV:isSubtype (.type "NoneType") (.type "str")=pure false:=by rw [isSubtype_type];kernel_rfl
theorem xW:isSubtype (.type "NoneType") (.type "int")=pure false:=by rw [isSubtype_type];kernel_rfl
theorem tB:isSubtype (.type "NoneType") (.type "bool")=pure false:=by rw [isSubtype_type];kernel_rfl
theorem tA:isSubtype (.type "NoneType") (.type "list")=pure false:=by rw [isSubtype_type];kernel_rfl
theorem sM:isSubtype (.type "NoneType") (.type "tuple")=pure false:=by rw [isSubtype_type];kernel_rfl
theorem Bt9 {v:V}{x:Value}{t:Mini.Ty}{φ:List Addr}{H:Mini.Heap}{s:Shared}{K EX:Value->Shared->Prop}(O:Ok X.h₀ φ H s.heap) (r:E7 X.h₀ φ s.heap v x)
  (k:∀ tk,s.toks<=tk->K (.bool (Mini.bX v t)) { s with toks:=tk }):wpAny (M1 X) A (call (.builtin "isinstance") [x,.type (Mini.Ak8 t)]) K EX s:=by
 have k0:=k s.toks (A4 _)
 have k1:=k (s.toks+1) (B8 _)
 cases v
 ·obtain rfl:=lA r
  cases t
  ·exact dJ (by decide +kernel) F.isi_meta_str xV k1
  ·exact dJ (by decide +kernel) F.isi_meta_int xW k1
  ·exact dJ (by decide +kernel) F.isi_meta_bool tB k1
  ·exact dJ (by decide +kernel) F.isi_meta_list tA k1
  ·exact dJ (by decide +kernel) F.isi_meta_tuple sM k1
 ·obtain rfl:=X4 r
  cases t
  ·exact IsiPair.bool_str k1
  ·exact IsiPair.bool_int k0
  ·exact IsiPair.bool_bool k0
  ·exact IsiPair.bool_list k1
  ·exact IsiPair.bool_tuple k1
 ·obtain ⟨_,rfl⟩:=E3 r
  cases t
  ·exact IsiPair.int_str k1
  ·exact IsiPair.int_int k0
  ·exact IsiPair.int_bool k1
  ·exact IsiPair.int_list k1
  ·exact IsiPair.int_tuple k1
 ·obtain ⟨_,rfl⟩:=I2 r
  cases t
  ·exact IsiPair.str_str k0
  ·exact IsiPair.str_int k1
  ·exact IsiPair.str_bool k1
  ·exact IsiPair.str_list k1
  ·exact IsiPair.str_tuple k1
 ·obtain ⟨a,ha,rfl⟩:=J9 r
  obtain ⟨vs,n,e⟩:=O.mem (B9 ha)
  cases t
  ·exact IsiPair.list_str e rfl k1
  ·exact IsiPair.list_int e rfl k1
  ·exact IsiPair.list_bool e rfl k1
  ·exact IsiPair.list_list e rfl k0
  ·exact IsiPair.list_tuple e rfl k1
 ·obtain ⟨a,vs,rfl,⟨o,e,hc,_⟩,_⟩:=iY r
  cases t
  ·exact IsiPair.tuple_str e hc k1
  ·exact IsiPair.tuple_int e hc k1
  ·exact IsiPair.tuple_bool e hc k1
  ·exact IsiPair.tuple_list e hc k1
  ·exact IsiPair.tuple_tuple e hc k0
 ·obtain ⟨_,a,vs,rfl,⟨o,e,hc,_⟩,_⟩:=dH r
  have e:=O.base _ _ e
  cases t
  ·exact IsiPair.list_str e hc k1
  ·exact IsiPair.list_int e hc k1
  ·exact IsiPair.list_bool e hc k1
  ·exact IsiPair.list_list e hc k0
  ·exact IsiPair.list_tuple e hc k1
theorem Ao1 (G:cR X) {e:Mini.E}{t:Mini.Ty}(he:E4 X A C e):E4 X A C (.isinst e t):=by
 intro re env nm ρ Q H φ s K EX hc L O h k
 refine Mini.Aq5 hc fun fn re' ty p e9 hc9=>?_
 clear hc;subst e9
 ·simp only [Bool.and_eq_true] at hc9
  obtain ⟨⟨h1,h2⟩,h3⟩:=hc9
  replace h:=Mini.Be5 h
  obtain ⟨p0,rfl,hg⟩:=bS h1
  obtain ⟨p1,rfl,hg1⟩:=bS h2
  refine wpAny_Call_NameR (wS G (by decide) L O h1 ?_)
  refine PyProof.Rows.callWith_builtin1 (args_cons (he _ env nm ρ _ H φ s _ EX h3 L O h fun v H1 φ1 x1 s1 q1 F1 r1=>?_) (O0 h3 _ _)) (O0 h3 _ _)
  refine args_cons (Aw1 G (by cases t<;>decide) (L.fwd O F1) F1.ok h2 ?_)
  exact args_nil (Bt9 F1.ok r1 fun tk ht=>k _ _ _ _ _ q1 (F1.trans (I4.tok F1.ok ht)) bT)
end
end MiniS
namespace MiniS
open PySem PySem.Calls PyProof.Rows
open Mini (V D)
section
variable {X:Cx}{A:Around}{C:Mini.Calls}
set_option tactic.hygienic true in
theorem Aw9 {o:Expr}(h:Mini.Aj8 o=true) (name:Str) (env:Env):attributeBase o name env (eval o env)=eval o env:=by
 cases o<;>try rfl
 rename_i f args kws p
 cases args with
 | cons _ _=>cases f<;>rfl
 | nil=>cases kws with
  | cons _ _=>cases f<;>rfl
  | nil=>nomatch h
theorem Bc4 {o:Mini.E}{o':Expr}{es:List Mini.E}{res:List Expr}{env:Env}{nm:List Str}{ρ:Mini.D7}{φ:List Addr}{H:Mini.Heap}{s:Shared}{K EX:Value->Shared->Prop}{ap p:Pos}{name:Str}{T id:String}
  {Q:V->Mini.Heap->Prop}{Q':V->List V->Mini.Heap->Prop}
  (ho:E4 X A C o) (hs:fI X A C es) (hr:Mini.Aj8 o'=true) (hline:(ap.endLine==p.line)=true) (hc:Mini.D5 X.gl env.scope.names nm o o'=true) (hcs:Mini.J8 X.gl env.scope.names nm es res=true) (hfew:es.length<30)
  (pa:PlainAttrs T) (slot:Slot T name id) (hty:typeOf (.builtin id)=pure (.type "method_descriptor"))
  (L:E5 X φ nm env ρ s) (O:Ok X.h₀ φ H s.heap) (h:Mini.E2 C o ρ Q H)
  (hq:∀ v H',Q v H'->Mini.S2 C es ρ (Q' v) H')
  (hT:∀ v H' φ' x s',Q v H'->I4 X.h₀ φ s φ' H' s'->E7 X.h₀ φ' s'.heap v x->s'.TypeIs x T/\∀ a,x=.ref a->∃ ob,s'.heap.get? a=some ob/\ob.dict=none)
  (k:∀ v vs H' φ' x xs s',Q' v vs H'->I4 X.h₀ φ s φ' H' s'->E7 X.h₀ φ' s'.heap v x->C7 X.h₀ φ' s'.heap vs xs->Ax0 X.gl.pos es xs s'.toks->wpAny (M1 X) A (call (.builtin id) (x::xs)) K EX s') :
  wpAny (M1 X) A (eval (.Call (.Attribute o' name ap) res [] p) env) K EX s:=by
 refine wpAny_Call_method (Aw9 hr _ _) ?_ hline pa slot hty (ho _ env nm ρ _ H φ s _ EX hc L O h fun v H1 φ1 x s1 q1 F1 r1=>?_)
 ·rw [lO hcs]
  have:=Aw8 hcs
  have h1:decide (res.length+([]:List Keyword).length+(if ([]:List Keyword).isEmpty then 0 else 1)<30)=true:=by
   simp;exact Mini.G9 (Mini.I6 (Nat.le_of_eq this) hfew)
  rw [h1];rfl
 ·refine ⟨(hT v H1 φ1 x s1 q1 F1 r1).1,(hT v H1 φ1 x s1 q1 F1 r1).2,?_⟩
  refine callWith_builtin (lN hcs) (X2 hcs (Y2 es res env nm ρ _ H1 φ1 s1 _ EX p hs hcs (L.fwd O F1) F1.ok (hq v H1 q1) fun vs H2 φ2 xs s2 q2 F2 r2 hl hla=>?_))
  exact k v vs H2 φ2 x xs s2 q2 (F1.trans F2) (F2.val F1.ok r1) r2 hla
theorem gS {φ:List Addr}{H:Mini.Heap}{s:Shared}{a:Nat}{x:Value}(O:Ok X.h₀ φ H s.heap) (r:E7 X.h₀ φ s.heap (.ref a) x):s.TypeIs x "list" /\ ∀ b,x=.ref b->∃ ob,s.heap.get? b=some ob/\ob.dict=none:=by
 obtain ⟨p,hp,rfl⟩:=J9 r
 obtain ⟨vs,n,e⟩:=O.mem (B9 hp)
 refine ⟨⟨_,e,rfl⟩,fun b hb=>?_⟩
 cases hb
 exact ⟨_,e,rfl⟩
theorem eZ {φ:List Addr}{s:Shared}{l:List Nat}{x:Value}(r:E7 X.h₀ φ s.heap (.str l) x):s.TypeIs x "str" /\ ∀ b,x=.ref b->∃ ob,s.heap.get? b=some ob/\ob.dict=none:=by
 obtain ⟨t,rfl⟩:=I2 r
 exact ⟨typeIs_str _ _ _,fun b hb=>by cases hb⟩
theorem Bs6:fI X A C []:=fun e he=>by cases he
theorem jB {e:Mini.E}(he:E4 X A C e):fI X A C [e]:=fun e' he'=>by simp at he';subst he';exact he
theorem Bs5 {e e2:Mini.E}(he:E4 X A C e) (he2:E4 X A C e2):fI X A C [e,e2]:=fun e' he'=>by
 simp at he';rcases he' with rfl | rfl<;>assumption
theorem iL {gl sc nm e re}(h:Mini.D5 gl sc nm e re=true):Mini.J8 gl sc nm [e] [re]=true:=Mini.gX h rfl
theorem Ce7 {gl sc nm e re e2 re2}(h:Mini.D5 gl sc nm e re=true) (h2:Mini.D5 gl sc nm e2 re2=true):Mini.J8 gl sc nm [e,e2] [re,re2]=true:=Mini.gX h (Mini.gX h2 rfl)
noncomputable def one (Q:V->Mini.Heap->Prop) (vs:List V) (H:Mini.Heap):Prop:=match vs with
 | [a]=>Q a H
 | _=>False
noncomputable def two (Q:V->V->Mini.Heap->Prop) (vs:List V) (H:Mini.Heap):Prop:=match vs with
 | [a,b]=>Q a b H
 | _=>False
theorem wA {e:Mini.E}{ρ:Mini.D7}{Q:V->Mini.Heap->Prop}{H:Mini.Heap}(h:Mini.E2 C e ρ Q H):Mini.S2 C [e] ρ (one Q) H:=h
theorem Cq3 {e e2:Mini.E}{ρ:Mini.D7}{Q:V->V->Mini.Heap->Prop}{H:Mini.Heap}(h:Mini.E2 C e ρ (fun v H₁=>Mini.E2 C e2 ρ (Q v) H₁) H):Mini.S2 C [e,e2] ρ (two Q) H:=h
theorem wC {Q:V->Mini.Heap->Prop}{vs:List V}{H:Mini.Heap}(h:one Q vs H):∃ v,vs=[v]/\Q v H:=by
 unfold one at h
 split at h
 ·exact ⟨_,rfl,h⟩
 ·exact h.elim
theorem Cq4 {Q:V->V->Mini.Heap->Prop}{vs:List V}{H:Mini.Heap}(h:two Q vs H):∃ v w,vs=[v,w]/\Q v w H:=by
 unfold two at h
 split at h
 ·exact ⟨_,_,rfl,h⟩
 ·exact h.elim
noncomputable def zB (P:List Nat->Prop) (v:V):Prop:=match v with
 | .str s=>P s
 | _=>False
theorem qA {P:List Nat->Prop}{v:V}(h:zB P v):∃ s,v=.str s/\P s:=by
 unfold zB at h
 split at h
 ·exact ⟨_,rfl,h⟩
 ·exact h.elim
set_option tactic.hygienic true in
theorem Ao4 {o e:Mini.E}(ho:E4 X A C o) (he:E4 X A C e):E4 X A C (.append o e):=by
 intro re env nm ρ Q H φ s K EX hc L O h k
 refine Mini.m1 hc fun o' e' ap p e9 h2 h3 h4 h5=>?_
 clear hc;subst e9
 ·replace h:=Mini.uD h
  refine Bc4 (Q':=fun vo=>one fun v H₂=>Mini.hea (Mini.aC vo v H₂) Q) ho (jB he) h3 h2 h4 (iL h5) (by simp) F.plainAttrs_list F.slot_list_append F.type_list_append L O h (fun v H' q=>?_) (fun v H1 φ1 x s1 q F1 r=>?_)
   (fun v vs H1 φ1 x xs s1 q F1 r rs zz=>?_)
  ·cases v<;>first | exact wA q | exact False.elim q
  ·cases v<;>first | exact gS F1.ok r | exact False.elim q
  ·have q2:=wC q
   clear q
   obtain ⟨w,rfl,q⟩:=q2
   unfold Mini.hea at q
   split at q
   ·rename_i H2 e2
    unfold Mini.aC at e2
    split at e2
    ·rename_i a
     obtain ⟨p,hp,rfl⟩:=J9 r
     obtain ⟨y,r',rfl,ry,rn⟩:=rs.uncons
     obtain rfl:=rn.unnil
     cases e0:H1[a]? with
     | none=>rw [e0] at e2;cases e2
     | some l =>
      rw [e0] at e2
      simp only [Option.bind_some] at e2
      split at e2
      ·rename_i hlt
       cases e2
       obtain ⟨vs',⟨n,hl⟩,rl⟩:=F1.ok.lists _ _ _ hp e0
       have hz:vs'.toArray.size<=sizeLine:=by rw [G7];simp [<- rl.length];exact Mini.G9 hlt
       refine call_meets F.slot_list_append ⟨_,hl,rfl⟩ F.entry_list_append (F.args_list_append_2 _ _) (list_append p _ n y hz) ⟨hl,?_⟩
       have F2:=I4.change (tk:=s1.toks) F1.ok hp (Heap.SameBut.update s1.heap p (Obj.mapSeq fun xs=>xs.push y)) ⟨_,by
        have:=IsL.update hl (fun xs=>xs.push y)
        rwa [List.push_toArray] at this⟩ (rl.append (C7.one ry)) (by simp;exact Mini.G9 hlt)
       exact k _ _ _ _ _ q (F1.trans F2) (by rfl)
      ·cases e2
    ·cases e2
   ·exact q.elim
set_option tactic.hygienic true in
theorem Ao2 {o e:Mini.E}(ho:E4 X A C o) (he:E4 X A C e):E4 X A C (.extend o e):=by
 intro re env nm ρ Q H φ s K EX hc L O h k
 refine Mini.m1 hc fun o' e' ap p e9 h2 h3 h4 h5=>?_
 clear hc;subst e9
 ·replace h:=Mini.uC h
  refine Bc4 (Q':=fun vo=>one fun v H₂=>Mini.hea (Mini.xB vo v H₂) Q) ho (jB he) h3 h2 h4 (iL h5) (by simp) F.plainAttrs_list F.slot_list_extend F.type_list_extend L O h (fun v H' q=>?_) (fun v H1 φ1 x s1 q F1 r=>?_)
   (fun v vs H1 φ1 x xs s1 q F1 r rs zz=>?_)
  ·cases v<;>first | exact wA q | exact False.elim q
  ·cases v<;>first | exact gS F1.ok r | exact False.elim q
  ·have q2:=wC q
   clear q
   obtain ⟨w,rfl,q⟩:=q2
   unfold Mini.hea at q
   split at q
   ·rename_i H2 e2
    replace e2:=Mini.jE e2;obtain ⟨a,rfl,e2⟩:=e2
    replace e2:=Mini.jE e2;obtain ⟨b,rfl,e2⟩:=e2
    ·obtain ⟨p,hp,rfl⟩:=J9 r
     obtain ⟨y,r',rfl,ry,rn⟩:=rs.uncons
     obtain rfl:=rn.unnil
     obtain ⟨p',hp',rfl⟩:=J9 ry
     cases e0:H1[a]? with
     | none=>rw [e0] at e2;cases e2
     | some l =>
      cases e1:H1[b]? with
      | none=>rw [e0,e1] at e2;cases e2
      | some l2 =>
       rw [e0,e1] at e2
       simp only [Option.bind_some] at e2
       split at e2
       ·rename_i hlt
        cases e2
        obtain ⟨vs',⟨n,hl⟩,rl⟩:=F1.ok.lists _ _ _ hp e0
        obtain ⟨vs2,⟨n2,hl2⟩,rl2⟩:=F1.ok.lists _ _ _ hp' e1
        have z1:=rl.length
        have z2:=rl2.length
        have hz:vs'.toArray.size<=sizeLine:=by rw [G7];simp;exact Mini.G9 (Mini.I6 (Nat.le_of_eq z1.symm) hlt.2)
        have hz2:vs'.toArray.size+vs2.toArray.size<=sizeLine+1:=by rw [G7];simp;exact Mini.G9 (Mini.I6 (Nat.le_of_eq z1.symm) (Mini.I6 hlt.2 (Nat.le_of_eq z2.symm)))
        refine call_meets F.slot_list_extend ⟨_,hl,rfl⟩ F.entry_list_extend (F.args_list_extend_2 _ _) (AutoSeq1.list_extend_list_list_0 p _ n p' _ n2 ?_ hz hz2) ⟨hl,hl2,?_⟩
        ·simp only [Builtin.List.listTooLong,Bool.and_eq_true,decide_eq_true_eq,not_and,Nat.not_lt]
         intro _
         rw [G7];simp;exact Mini.G9 (Mini.I6 (Nat.le_of_eq z1.symm) (Mini.I6 hlt.2 (Nat.le_of_eq z2.symm)))
        ·have F2:=I4.change (tk:=s1.toks) F1.ok hp (Heap.SameBut.update s1.heap p (Obj.mapSeq fun xs=>xs++vs2.toArray)) ⟨_,by
          have:=IsL.update hl (fun xs=>xs++vs2.toArray)
          rwa [List.append_toArray] at this⟩ (rl.append rl2) (by simp;exact Mini.G9 hlt.2)
         exact k _ _ _ _ _ q (F1.trans F2) (by rfl)
       ·cases e2
   ·exact q.elim
theorem sO (vs:List Value) (h:vs≠[]):vs.toArray.eraseIdxIfInBounds (vs.toArray.size - 1)=vs.dropLast.toArray:=by
 have hl:vs.length - 1<vs.length:=by
  have:0<vs.length:=List.length_pos_iff.mpr h
  exact Nat.sub_lt (Mini.G9 this) (Mini.fG)
 unfold Array.eraseIdxIfInBounds
 rw [dif_pos (by simpa using hl)]
 apply Array.ext'
 simp
theorem C7.dropLast {h₀ φ h}{l:List V}{vs:List Value}(r:C7 h₀ φ h l vs):C7 h₀ φ h l.dropLast vs.dropLast:=by
 rw [List.dropLast_eq_take,List.dropLast_eq_take,<- r.length]
 exact C7.take _ r
set_option tactic.hygienic true in
theorem Cc6 {o:Mini.E}(ho:E4 X A C o):E4 X A C (.pop o):=by
 intro re env nm ρ Q H φ s K EX hc L O h k
 refine Mini.Cg5 hc fun o' ap p e9 h2 h3 h4=>?_
 clear hc;subst e9
 ·replace h:=Mini.Bm3 h
  refine Bc4 (Q':=fun vo vs H₂=>vs=[]/\Mini.res (Mini.Aj9 vo H₂) Q) (es:=[]) ho Bs6 h3 h2 h4 rfl (by simp) F.plainAttrs_list F.slot_list_pop F.type_list_pop L O h (fun v H' q=>?_) (fun v H1 φ1 x s1 q F1 r=>?_)
   (fun v vs H1 φ1 x xs s1 q F1 r rs zz=>?_)
  ·cases v<;>first | exact ⟨rfl,q⟩ | exact False.elim q
  ·cases v<;>first | exact gS F1.ok r | exact False.elim q
  ·obtain ⟨rfl,q⟩:=q
   obtain rfl:=rs.unnil
   unfold Mini.res at q
   split at q
   ·rename_i w H2 e2
    unfold Mini.Aj9 at e2
    split at e2
    ·rename_i a
     obtain ⟨p,hp,rfl⟩:=J9 r
     cases e0:H1[a]? with
     | none=>rw [e0] at e2;cases e2
     | some l =>
      rw [e0] at e2
      simp only [Option.bind_some] at e2
      obtain ⟨w',hw,e3⟩:=Option.map_eq_some_iff.mp e2
      cases e3
      obtain ⟨vs',⟨n,hl⟩,rl⟩:=F1.ok.lists _ _ _ hp e0
      have z1:=rl.length
      have z2:=F1.ok.small l (B9 e0)
      rw [List.getLast?_eq_getElem?] at hw
      obtain ⟨y,hy,ry⟩:=rl.get hw
      have hne:vs'≠[]:=by rintro rfl;simp at hy
      have hz:vs'.toArray.size<=sizeLine:=by rw [G7];simp;exact Mini.G9 (Mini.I6 (Nat.le_of_eq z1.symm) z2)
      refine call_meets F.slot_list_pop ⟨_,hl,rfl⟩ F.entry_list_pop (F.args_list_pop_1 _) (MeetsSeq.list_pop_last p _ n y (by rw [<- hy,z1];simp) hz) ⟨hl,?_⟩
      have F2:=I4.change (tk:=s1.toks) F1.ok hp (Heap.SameBut.update s1.heap p (Obj.mapSeq fun xs=>xs.eraseIdxIfInBounds (vs'.toArray.size - 1))) ⟨_,by
        have:=IsL.update hl (fun xs=>xs.eraseIdxIfInBounds (vs'.toArray.size - 1))
        rwa [sO _ hne] at this⟩ (C7.dropLast rl) (by simp;exact Mini.G9 z2)
      exact k _ _ _ _ _ q (F1.trans F2) (F2.val F1.ok ry)
    ·cases e2
   ·exact q.elim
theorem zY {c:Nat}:∀ {l:List Nat},(∀ j:Nat,l[j]? ≠ some c)->Mini.idx? c l=none
 | [],_=>rfl
 | x::l,h=>by
  unfold Mini.idx?
  have h0:¬ x=c:=fun e=>h 0 (by simp [e])
  rw [if_neg h0,zY fun j=>by have:=h (j+1);simpa using this];rfl
theorem zX {c:Nat}:∀ {l:List Nat}{k:Nat},l[k]? = some c->(∀ j:Nat,j<k->l[j]? ≠ some c)->Mini.idx? c l=some k
 | [],_,e,_=>by simp at e
 | x::l,0,e,_=>by
  unfold Mini.idx?
  have:x=c:=by simpa using e
  rw [if_pos this]
 | x::l,k+1,e,h=>by
  unfold Mini.idx?
  have h0:¬ x=c:=fun e=>h 0 (Nat.succ_pos _) (by simp [e])
  rw [if_neg h0,zX (k:=k) (by simpa using e) fun j hj=>by have:=h (j+1) (Nat.succ_lt_succ hj);simpa using this];rfl
theorem Ag5 (l:List Nat) (c:Nat) (i:Int) (h0:0<=i):Txt.find3 ⟨l.toArray⟩ ⟨#[c]⟩ i=Mini.tL l c i.toNat:=by
 have hg:∀ v,l[v]? = some c->(Str.mk l.toArray).cps.getD v 0=c:=fun v hv=>by
  have hlt:=(List.getElem?_eq_some_iff.mp hv).1
  have:=(List.getElem?_eq_some_iff.mp hv).2
  simp [Array.getD,hlt,this]
 have hg':∀ v,v<l.length->(Str.mk l.toArray).cps.getD v 0=c->l[v]? = some c:=fun v hlt hv=>by
  simp [Array.getD,hlt] at hv
  rw [List.getElem?_eq_getElem hlt,hv]
 have hlen:(Str.mk l.toArray).length=l.length:=by simp [Str.length]
 have hf:fromIndex l.length i=i.toNat:=by
  show (max 0 (if i<0 then i+(l.length:Nat) else i)).toNat=_
  rw [if_neg (Int.not_lt.mpr h0),Int.max_eq_right h0]
 unfold Mini.tL
 rcases StrLaws.find3_spec ⟨l.toArray⟩ c i with ⟨e,hn⟩ | ⟨k,e,h1,h2,h3,h4⟩
 ·rw [e]
  rw [hlen,hf] at hn
  rw [zY fun j hj=>?_]
  rw [List.getElem?_drop] at hj
  exact hn (i.toNat+j) (B4 _ _) (List.getElem?_eq_some_iff.mp hj).1 (hg _ hj)
 ·rw [e]
  rw [hlen] at h2
  rw [hlen,hf] at h1 h4
  rw [zX (k:=k - i.toNat) ?_ fun j hj hx=>?_]
  ·simp only
   congr 1
   exact (Nat.add_sub_cancel' (Mini.G9 h1)).symm
  ·rw [List.getElem?_drop]
   have:i.toNat+(k - i.toNat)=k:=Nat.add_sub_cancel' h1
   rw [this];exact hg' k h2 h3
  ·rw [List.getElem?_drop] at hx
   exact h4 (i.toNat+j) (B4 _ _) (Nat.add_lt_of_lt_sub' hj) (hg _ hx)
theorem Br6 {o a b:Mini.E}(ho:E4 X A C o) (ha:E4 X A C a) (hb:E4 X A C b):E4 X A C (.find o a b):=by
 intro re env nm ρ Q H φ s K EX hc L O h k
 refine Mini.Bw0 hc fun o' x' y' ap p e9 h2 h3 h4 h5 h6=>?_
 clear hc;subst e9
 ·replace h:=Mini.Ax5 h
  refine Bc4 (Q':=fun vo=>two fun va vb H₂=>zB (fun s=>Mini.zI s va vb Q H₂) vo) ho (Bs5 ha hb) h3 h2 h4 (Ce7 h5 h6) (by simp) F.plainAttrs_str F.slot_str_find F.type_str_find L O h (fun v H' q=>?_) (fun v H1 φ1 x s1 q F1 r=>?_)
   (fun v vs H1 φ1 x xs s1 q F1 r rs zz=>?_)
  ·cases v<;>first | exact Cq3 q | exact False.elim q
  ·cases v<;>first | exact eZ r | exact False.elim q
  ·have q2:=Cq4 q
   clear q
   obtain ⟨va,vb,rfl,q3⟩:=q2
   have q2:=qA q3
   clear q3
   obtain ⟨l,rfl,q⟩:=q2
   replace q:=Mini.Z8 q;obtain ⟨c,rfl,q⟩:=q
   replace q:=Mini.Ax8 q;obtain ⟨i,rfl,q⟩:=q
   ·obtain ⟨t,rfl⟩:=I2 r
    obtain ⟨y,r',rfl,ry,rn⟩:=rs.uncons
    obtain ⟨z,r'',rfl,rz,rn⟩:=rn.uncons
    obtain rfl:=rn.unnil
    obtain ⟨u,rfl⟩:=I2 ry
    obtain ⟨u',rfl⟩:=E3 rz
    refine SC.find3 ?_
    rw [Ag5 _ _ _ q.1]
    exact k _ _ _ _ _ q.2 (F1.trans (I4.tok F1.ok)) R4
noncomputable def mkS (l:List Nat):Str:=⟨l.toArray⟩
theorem tR {h₀ φ h}:∀ {l:List V}{ls:List (List Nat)}{vs:List Value},Mini.sX l=some ls->C7 h₀ φ h l vs->∃ lt:List (Str×Tok),vs=strValues lt/\lt.map (·.1)=ls.map mkS
 | [],ls,vs,e,r=>by
  cases (show some []=some ls from e)
  obtain rfl:=r.unnil
  exact ⟨[],rfl,rfl⟩
 | v::l,ls,vs,e,r=>by
  obtain ⟨x,vs',rfl,rx,rr⟩:=r.uncons
  cases v with
  | str w =>
   obtain ⟨ls',e',rfl⟩:=Option.map_eq_some_iff.mp (show (Mini.sX l).map (w::·)=some ls from e)
   obtain ⟨t,rfl⟩:=I2 rx
   obtain ⟨lt,rfl,h2⟩:=tR e' rr
   exact ⟨(mkS w,t)::lt,rfl,congrArg (mkS w::·) h2⟩
  | _=>exact nomatch (show Option.none=some ls from e)
theorem Aw3 (s:List Nat):∀ ls:List (List Nat),Txt.join (mkS s) (ls.map mkS)=mkS (Mini.D8 s ls):=by
 intro ls
 show Builtin.Str.glued _ _=_
 rw [StrLaws.glued_eq_join]
 induction ls with
 | nil=>rfl
 | cons w r ih =>
  cases r with
  | nil=>rfl
  | cons w2 r =>
   show mkS w++mkS s++Str.join (mkS s) ((w2::r).map mkS)=_
   rw [ih]
   show Str.append (Str.append (mkS w) (mkS s)) (mkS (Mini.D8 s (w2::r)))=mkS (w++s++Mini.D8 s (w2::r))
   simp [Str.append,mkS]
theorem Ce4 {s:List Nat}{ls:List (List Nat)}(h:(ls.map List.length).sum+ls.length * s.length<=Mini.I3):JoinOk (mkS s) (ls.map mkS)=true:=by
 unfold JoinOk
 rw [StrLaws.joinTotal]
 have e:((ls.map mkS).map (·.length))=ls.map List.length:=by
  simp [List.map_map,Function.comp_def,mkS,Str.length]
 rw [e]
 simp only [Builtin.Str.tooLong,B6,Bool.not_eq_true',decide_eq_false_iff_not,Nat.not_lt]
 rw [G7]
 simpa [mkS,Str.length] using h
theorem ar4 (w s M X:Nat):w+s+(M+X)=w+M+(X+s):=by rw [Nat.add_comm X s,<- Nat.add_assoc (w+M),Nat.add_right_comm w M s,Nat.add_assoc (w+s)]
theorem zV (s:List Nat):∀ ls:List (List Nat),(Mini.D8 s ls).length<=(ls.map List.length).sum+ls.length * s.length
 | []=>B0 _
 | [w]=>by
  show w.length<=w.length+0+1 * s.length
  exact B4 _ _
 | w::w2::r=>by
  have:=zV s (w2::r)
  show (w++s++Mini.D8 s (w2::r)).length<=w.length+((w2::r).map List.length).sum+((w2::r).length+1) * s.length
  rw [A6,A6,Nat.add_mul,Nat.one_mul]
  exact A3 (Nat.add_le_add_left this (w.length+s.length)) (Nat.le_of_eq (ar4 _ _ _ _))
set_option tactic.hygienic true in
theorem Br2 {o a:Mini.E}(ho:E4 X A C o) (ha:E4 X A C a):E4 X A C (.join o a):=by
 intro re env nm ρ Q H φ s K EX hc L O h k
 refine Mini.m1 hc fun o' e' ap p e9 h2 h3 h4 h5=>?_
 clear hc;subst e9
 ·replace h:=Mini.Ax4 h
  refine Bc4 (Q':=fun vo=>one fun va H₂=>zB (fun s=>Mini.fP s va Q H₂) vo) ho (jB ha) h3 h2 h4 (iL h5) (by simp) F.plainAttrs_str F.slot_str_join F.type_str_join L O h (fun v H' q=>?_) (fun v H1 φ1 x s1 q F1 r=>?_)
   (fun v vs H1 φ1 x xs s1 q F1 r rs zz=>?_)
  ·cases v<;>first | exact wA q | exact False.elim q
  ·cases v<;>first | exact eZ r | exact False.elim q
  ·have q2:=wC q
   clear q
   obtain ⟨va,rfl,q3⟩:=q2
   have q2:=qA q3
   clear q3
   obtain ⟨l,rfl,q⟩:=q2
   unfold Mini.fP at q
   split at q
   ·rename_i b
    obtain ⟨t,rfl⟩:=I2 r
    obtain ⟨y,r',rfl,ry,rn⟩:=rs.uncons
    obtain rfl:=rn.unnil
    obtain ⟨p,hp,rfl⟩:=J9 ry
    cases e0:H1[b]? with
    | none=>rw [e0] at q;exact q.elim
    | some ls =>
     rw [e0] at q
     simp only [Option.bind_some] at q
     split at q
     ·rename_i ts e1
      obtain ⟨vs',hpl,rl⟩:=F1.ok.lists _ _ _ hp e0
      obtain ⟨lt,rfl,hlt⟩:=tR e1 rl
      refine free (SC.join hpl.isList hlt (Ce4 q.1) (fun t' k' ht=>?_))
      have e9:Txt.join ⟨l.toArray⟩ (ts.map mkS)=⟨(Mini.D8 l ts).toArray⟩:=Aw3 l ts
      rw [e9]
      exact k _ _ _ _ _ q.2 (F1.trans (I4.tok F1.ok ht)) (kO (A3 (zV _ _) q.1))
     ·exact q.elim
   ·exact q.elim
theorem jN {c:Nat}:∀ {p:List Nat},c ∉ p->Mini.splitAt c p=[p]
 | [],_=>rfl
 | x::l,h=>by
  have h1:¬ x=c:=fun e=>h (by simp [e])
  have h2:c ∉ l:=fun e=>h (by simp [e])
  unfold Mini.splitAt
  rw [if_neg h1,jN h2]
theorem mM {c:Nat}(rest:List Nat):∀ {p:List Nat},c ∉ p->Mini.splitAt c (p++c::rest)=p::Mini.splitAt c rest
 | [],_=>by simp [Mini.splitAt]
 | x::l,h=>by
  have h1:¬ x=c:=fun e=>h (by simp [e])
  have h2:c ∉ l:=fun e=>h (by simp [e])
  have e:Mini.splitAt c (x::(l++c::rest))=match Mini.splitAt c (l++c::rest) with
   | []=>[[x]]
   | w::r=>(x::w)::r:=by
   conv=>lhs;unfold Mini.splitAt
   rw [if_neg h1]
   all_goals (cases Mini.splitAt c (l++c::rest)<;>rfl)
  show Mini.splitAt c (x::(l++c::rest))=_
  rw [e,mM rest h2]
theorem jM {c:Nat}:∀ {ps:List (List Nat)},ps≠[]->(∀ p∈ps,c ∉ p)->Mini.splitAt c (Mini.D8 [c] ps)=ps
 | [],h,_=>absurd rfl h
 | [p],_,h=>jN (h p (by simp))
 | p::q::r,_,h=>by
  have e:Mini.D8 [c] (p::q::r)=p++c::Mini.D8 [c] (q::r):=A7 p [c] _
  rw [e,mM _ (h p (by simp)),jM (by simp) fun x hx=>h x (List.mem_cons_of_mem _ hx)]
theorem mL (c:Nat):∀ l:List Nat,(Mini.splitAt c l).length<=l.length+1
 | []=>by simp [Mini.splitAt]
 | x::l=>by
  have:=mL c l
  unfold Mini.splitAt
  split
  ·simp;exact Mini.G9 this
  ·split
   ·simp
   ·rename_i e;rw [e] at this;simp at this ⊢;exact Mini.G9 this
set_option tactic.hygienic true in
theorem fT (c:Nat):∀ l:List Nat,∀ p∈Mini.splitAt c l,p.length<=l.length
 | [],p,h=>by simp [Mini.splitAt] at h;simp [h]
 | x::l,p,h=>by
  have ih:=fT c l
  unfold Mini.splitAt at h
  split at h
  ·rcases List.mem_cons.mp h with rfl | h
   ·simp
   ·have:=ih p h;simp;exact Mini.G9 this
  ·split at h
   ·simp at h;simp [h]
   ·rename_i w r e
    rcases List.mem_cons.mp h with rfl | h
    ·have:=ih w (by rw [e];simp);simp;exact Mini.G9 this
    ·have:=ih p (by rw [e];simp [h]);simp;exact Mini.G9 this
theorem Bq4 (c:Nat) (l:List Nat):Txt.split (mkS l) ⟨#[c]⟩=(Mini.splitAt c l).map mkS:=by
 have hj:=StrLaws.join_split (mkS l) ⟨#[c]⟩
 have hf:=StrLaws.split_free (mkS l) c
 have hne:Txt.split (mkS l) ⟨#[c]⟩≠[]:=by
  unfold Txt.split
  split
  ·simp
  ·split
   ·simp
   ·rw [StrLaws.partsBetween_eq]
    obtain ⟨p,r,e⟩:=StrLaws.partsFrom_ne (mkS l) (Str.length ⟨#[c]⟩) 0 (Builtin.Str.occurrences (mkS l) ⟨#[c]⟩ 0 (mkS l).length ((mkS l).length+1))
    rw [e];simp
 generalize Txt.split (mkS l) ⟨#[c]⟩=ps at *
 have e:ps=(ps.map fun p=>p.cps.toList).map mkS:=by
  rw [List.map_map]
  conv=>lhs;rw [<- List.map_id ps]
  apply List.map_congr_left
  intro p _
  simp [mkS,Function.comp]
 have hj2:mkS (Mini.D8 [c] (ps.map fun p=>p.cps.toList))=mkS l:=by
  rw [<- Aw3,<- e]
  show Builtin.Str.glued _ _=_
  rw [StrLaws.glued_eq_join];exact hj
 have hj3:Mini.D8 [c] (ps.map fun p=>p.cps.toList)=l:=by
  have:=congrArg (fun s:Str=>s.cps.toList) hj2
  simpa [mkS] using this
 have:=jM (c:=c) (ps:=ps.map fun p=>p.cps.toList) (by simpa using hne) (by
  intro p hp
  obtain ⟨q,hq,rfl⟩:=List.mem_map.mp hp
  exact hf q hq)
 rw [hj3] at this
 rw [this,<- e]
theorem C7.ofStrs {h₀ φ h}:∀ {lt:List (Str×Tok)}{ls:List (List Nat)},lt.map (·.1)=ls.map mkS->(∀ p∈ls,p.length<=Mini.I3)->C7 h₀ φ h (ls.map V.str) (strValues lt)
 | [],[],_,_=>C7.nil
 | [],_::_,e,_=>by simp at e
 | _::_,[],e,_=>by simp at e
 | (x,t)::lt,p::ls,e,hz=>by
  simp only [List.map_cons,List.cons.injEq] at e
  obtain ⟨e1,e2⟩:=e
  subst e1
  exact C7.cons (kO (hz p (by simp))) (C7.ofStrs e2 fun q hq=>hz q (List.mem_cons_of_mem _ hq))
theorem Bd0 {o a:Mini.E}(ho:E4 X A C o) (ha:E4 X A C a):E4 X A C (.split o a):=by
 intro re env nm ρ Q H φ s K EX hc L O h k
 refine Mini.m1 hc fun o' e' ap p e9 h2 h3 h4 h5=>?_
 clear hc;subst e9
 ·replace h:=Mini.Aa7 h
  refine Bc4 (Q':=fun vo=>one fun va H₂=>zB (fun s=>Mini.Ak9 s va Q H₂) vo) ho (jB ha) h3 h2 h4 (iL h5) (by simp) F.plainAttrs_str F.slot_str_split F.type_str_split L O h (fun v H' q=>?_) (fun v H1 φ1 x s1 q F1 r=>?_)
   (fun v vs H1 φ1 x xs s1 q F1 r rs zz=>?_)
  ·cases v<;>first | exact wA q | exact False.elim q
  ·cases v<;>first | exact eZ r | exact False.elim q
  ·have q2:=wC q
   clear q
   obtain ⟨va,rfl,q3⟩:=q2
   have q2:=qA q3
   clear q3
   obtain ⟨l,rfl,q⟩:=q2
   replace q:=Mini.Z8 q
   obtain ⟨c,rfl,q⟩:=q
   ·skip
    have hz:=len_str r
    obtain ⟨t,rfl⟩:=I2 r
    obtain ⟨y,r',rfl,ry,rn⟩:=rs.uncons
    obtain rfl:=rn.unnil
    obtain ⟨u,rfl⟩:=I2 ry
    have hx:(mkS l).length<=sizeLine:=by rw [G7];simpa [mkS,Str.length] using hz
    have hsp:=Bq4 c l
    have hparts:∀ p∈Mini.splitAt c l,p.length<=Mini.I3:=fun p hp=>A3 (fT c l p hp) hz
    have hlen:((Mini.splitAt c l).map V.str).length<=Mini.I3:=by
     have:=mL c l
     simp;exact Mini.G9 (Mini.I6 this q.1)
    have fin:∀ (lt:List (Str×Tok)) (tk:Nat),lt.map (·.1)=(Mini.splitAt c l).map mkS->s1.toks<=tk ->
      K (.ref s1.heap.objs.size) { s1 with heap:=s1.heap.push { cls:=.type "list",data:=.seq (strValues lt).toArray },toks:=tk }:=by
     intro lt tk e ht
     have F2:=I4.alloc (n:=0) (tk:=tk) F1.ok (C7.ofStrs e hparts) hlen ht
     exact k _ _ _ _ _ q.2 (F1.trans F2) (cY (by rw [<- F1.ok.len];simp))
    have hy:((Str.mk #[c]).length==0)=false:=rfl
    unfold Txt.split at hsp
    cases h1:(decide ((mkS l).length<(Str.mk #[c]).length)||decide (Builtin.Str.strKind (mkS l)<Builtin.Str.strKind ⟨#[c]⟩)) with
    | true =>
     rw [if_pos h1] at hsp
     refine call_meets F.slot_str_split (typeIs_str _ _ _) F.entry_str_split (F.args_str_split_2 _ _) (meets_str_split_cannot_occur (mkS l) ⟨#[c]⟩ t u h1) ?_
     exact fin [(mkS l,t)] s1.toks (by simpa using hsp) (A4 _)
    | false =>
     rw [if_neg (by rw [h1];simp)] at hsp
     cases hf:(Builtin.Str.occurrences (mkS l) ⟨#[c]⟩ 0 (mkS l).length ((mkS l).length+1)).isEmpty with
     | true =>
      rw [if_pos hf] at hsp
      refine call_meets F.slot_str_split (typeIs_str _ _ _) F.entry_str_split (F.args_str_split_2 _ _) (meets_str_split_not_found (mkS l) ⟨#[c]⟩ t u h1 hy hf) ?_
      exact fin [(mkS l,t)] s1.toks (by simpa using hsp) (A4 _)
     | false =>
      rw [if_neg (by rw [hf];simp)] at hsp
      have hn:(Builtin.Str.partsBetween (mkS l) (Builtin.Str.occurrences (mkS l) ⟨#[c]⟩ 0 (mkS l).length ((mkS l).length+1)) (Str.mk #[c]).length).length<=sizeLine:=by
       rw [hsp,G7];simpa using hlen
      refine call_meets F.slot_str_split (typeIs_str _ _ _) F.entry_str_split (F.args_str_split_2 _ _) (meets_str_split_sep (mkS l) ⟨#[c]⟩ t u h1 hy hf hx hn) ?_
      rw [strsFrom_eq]
      exact fin (numbered s1.toks _) _ ((numbered_texts _ _).trans hsp) (B4 _ _)
end
end MiniS
namespace MiniS
open PySem PySem.Calls PyProof.Rows
open Mini (V D)
section
variable {X:Cx}{A:Around}{C:Mini.Calls}
theorem zW {h₀:Heap}{φ:List Addr}{h:Heap}:∀ {l:List V}{ns:List Int}{vs:List Value},Mini.intL l=some ns->C7 h₀ φ h l vs->IntsAre vs ns
 | [],ns,vs,e,r=>by
  cases e
  obtain rfl:=r.unnil
  exact .nil
 | v::l,ns,vs,e,r=>by
  obtain ⟨x,vs',rfl,rx,rs⟩:=r.uncons
  cases v with
  | int i =>
   obtain ⟨ns',e',rfl⟩:=Option.map_eq_some_iff.mp (show (Mini.intL l).map (i::·)=some ns from e)
   obtain ⟨t,rfl⟩:=rx
   exact .cons i t (zW e' rs)
  | _=>exact nomatch (show none=some ns from e)
theorem tU {h₀:Heap}{φ:List Addr}{h:Heap}:∀ {ns:List Int}{vs:List Value},IntsAre vs ns->C7 h₀ φ h (ns.map V.int) vs
 | _,_,.nil=>C7.nil
 | _,_,.cons n t r=>C7.cons ⟨t,rfl⟩ (tU r)
theorem sN (G:cR X) {e:Mini.E}(he:E4 X A C e):E4 X A C (.sortedDown e):=by
 intro re env nm ρ Q H φ s K EX hc L O h k
 refine Mini.Bu9 hc fun fn e' kp k1 k2 p e9 hf9 hc9=>?_
 clear hc;subst e9
 replace h:=Mini.fW h
 have hf9':=hf9
 obtain ⟨p0,rfl,hg⟩:=bS hf9
 refine wpAny_Call_Name_kw (wS G (by decide) L O hf9' ?_)
 refine callWith_kw (args_cons (he _ env nm ρ _ H φ s _ EX hc9 L O h fun v H1 φ1 x1 s1 q1 F1 r1=>args_nil (kws_cons (wpAny_pure (kws_nil ?_)))) (O0 hc9 _ _)) (by rw [O0 hc9];rfl) (by rw [O0 hc9];rfl) rfl rfl
 cases v with
 | ref a =>
  replace q1:(match (H1[a]?).bind Mini.intL with | some l=>l.length<64/\∀ r:List Int,r.Perm l->Q (.ref H1.length) (H1++[r.map .int]) | none=>False):=q1
  cases e0:H1[a]? with
  | none=>rw [e0] at q1;exact q1.elim
  | some l =>
   rw [e0] at q1
   replace q1:(match Mini.intL l with | some l=>l.length<64/\∀ r:List Int,r.Perm l->Q (.ref H1.length) (H1++[r.map .int]) | none=>False):=q1
   cases e1:Mini.intL l with
   | none=>rw [e1] at q1;exact q1.elim
   | some ns =>
    rw [e1] at q1
    obtain ⟨a',hp,rfl⟩:=J9 r1
    obtain ⟨vs,hpl,rs⟩:=F1.ok.lists _ _ _ hp e0
    have hi:=zW e1 rs
    have hlen:=hi.length
    have h64:vs.length<64:=by rw [hlen];exact q1.1
    refine sorted_ints_rev (b:=true) hpl.isList hi h64 fun out ns' a1 a2 a3=>?_
    obtain ⟨c',hn⟩:=sortedAll_at s1.heap vs out
    have rr:C7 X.h₀ φ1 s1.heap (ns'.map V.int) out.toList:=tU a1
    have hz:(ns'.map V.int).length<=Mini.I3:=by
     rw [B6,a2.length_eq]
     exact A3 (B5 q1.1) (by show 64<=16777216;decide)
    have F2:=I4.allocG (tk:=s1.toks) F1.ok rr hz (B8 s1.heap.objs.size) (fun zz zz=>sortedAll_old) ⟨c',hn⟩
    exact k _ _ _ _ _ (q1.2 ns' a2) (F1.trans F2) (cY (by rw [<- F1.ok.len];simp))
 | _=>exact q1.elim
end
end MiniS
set_option linter.unusedVariables false
namespace MiniS
open PySem PySem.Calls PyProof.Rows
open Mini (V D)
section
variable {X:Cx}{A:Around}{C:Mini.Calls}
end
end MiniS
namespace MiniS
open PySem PySem.Calls PyProof.Rows
open Mini (V D)
section
variable {X:Cx}{A:Around}{C:Mini.Calls}
noncomputable def X0 (X:Cx) (A:Around) (C:Mini.Calls) (e:Mini.E):Prop :=
 ∀ (re:Expr) (env:Env) (nm:List Str) (ρ:Mini.D7) (Q:Bool->Mini.Heap->Prop) (H:Mini.Heap) (φ:List Addr) (s:Shared) (K:Bool->Shared->Prop) (EX:Value->Shared->Prop),
  Mini.D5 X.gl env.scope.names nm e re=true->E5 X φ nm env ρ s->Ok X.h₀ φ H s.heap->Mini.E2 C e ρ (fun v H₁=>Mini.boo (Mini.I7 v) Q H₁) H ->
  (∀ b H' φ' s',Q b H'->I4 X.h₀ φ s φ' H' s'->K b s')->wpAny (M1 X) A (isTrue re env (eval re env)) K EX s
set_option tactic.hygienic true in
theorem Ap3 {gl sc nm e re}(h:Mini.D5 gl sc nm e re=true) (hp:Mini.pK e=true) (env:Env) (w:Sem Value) :
  isTrue re env w=(do let v <- w;standAt re.pos;holding [v] (truthy v)):=by
 have hf:=(Mini.mE h).form
 have ht:=(Mini.mE h).test hp
 clear h
 cases re<;>first | rfl | exact Bool.noConfusion hf | exact Bool.noConfusion ht | skip
 rename_i o _ _
 cases o<;>first | rfl | exact Bool.noConfusion ht
set_option tactic.hygienic true in
theorem Ao5 {e:Mini.E}(he:E4 X A C e) (hp:Mini.pK e=true):X0 X A C e:=by
 intro re env nm ρ Q H φ s K EX hc L O h k
 refine isTrue_plain (he re env nm ρ _ H φ s _ EX hc L O h fun v H1 φ1 x s1 q F1 r=>?_) (Ap3 hc hp env _)
 unfold Mini.boo at q
 split at q
 ·rename_i t e
  obtain rfl:=iZ r e
  exact wpAny_truthy_bool (k _ _ _ _ q F1)
 ·exact q.elim
theorem Bs7 {e:Mini.E}(he:X0 X A C e):X0 X A C (.not e):=by
 intro re env nm ρ Q H φ s K EX hc L O h k
 refine Mini.Ay1 hc fun e' p e9 hc9=>?_
 clear hc;subst e9
 ·replace h:=Mini.Bm5 h
  refine isTrue_not (he _ env nm ρ (fun b H=>Q (!b) H) H φ s _ EX hc9 L O ?_ fun b H1 φ1 s1 q F1=>k _ _ _ _ q F1)
  have e:(fun v H₁=>Mini.boo (Mini.I7 v) (fun b H=>Mini.boo (Mini.I7 (V.bool !b)) Q H) H₁)=fun v H₁=>Mini.boo (Mini.I7 v) (fun b H=>Q (!b) H) H₁:=by
   funext v H₁
   cases v<;>rfl
  rw [e] at h;exact h
set_option tactic.hygienic true in
theorem Bs8 (hu:A.units+106<cLine) {o:Mini.Cmp}{l r:Mini.E}(hl:E4 X A C l) (hr:E4 X A C r):X0 X A C (.cmp o l r):=by
 intro re env nm ρ Q H φ s K EX hc L O h k
 refine Mini.Ay4 hc fun l' o' r' p e9 hc9=>?_
 clear hc;subst e9
 ·simp only [Bool.and_eq_true] at hc9
  obtain ⟨⟨h1,h2⟩,h3⟩:=hc9
  replace h:=Mini.Ak7 h
  refine wpAny_isTrue_Compare1 (hl _ env nm ρ _ H φ s _ EX h2 L O h fun a H1 φ1 x1 s1 q1 F1 r1=>?_) (jC h3 _)
  refine hr _ env nm ρ _ H1 φ1 s1 _ EX h3 (L.fwd O F1) F1.ok q1 fun b H2 φ2 x2 s2 q2 F2 r2=>?_
  unfold Mini.boo at q2
  split at q2
  ·rename_i t e
   exact aQ hu h1 F2.ok (F2.val F1.ok r1) r2 e (wpAny_truthy_bool (k _ _ _ _ q2 (F1.trans F2)))
  ·exact q2.elim
set_option tactic.hygienic true in
theorem Bd6 (hu:A.units+106<cLine) {o₁ o₂:Mini.Cmp}{a b c:Mini.E}(ha:E4 X A C a) (hb:E4 X A C b) (hcc:E4 X A C c):X0 X A C (.cmp2 o₁ o₂ a b c):=by
 intro re env nm ρ Q H φ s K EX hc L O h k
 refine Mini.Ab5 hc fun a' o' p' b' c' p e9 hc9=>?_
 clear hc;subst e9
 ·simp only [Bool.and_eq_true] at hc9
  obtain ⟨⟨⟨⟨h1,h2⟩,h3⟩,h4⟩,h5⟩:=hc9
  replace h:=Mini.wX h
  refine isTrue_chain (ha _ env nm ρ _ H φ s _ EX h3 L O h fun va H1 φ1 x1 s1 q1 F1 r1=>?_) (by simpa [lastMarks] using jC h5 _)
  refine test_link (hb _ env nm ρ _ H1 φ1 s1 _ EX h4 (L.fwd O F1) F1.ok q1 fun vb H2 φ2 x2 s2 q2 F2 r2=>?_)
  unfold Mini.boo at q2
  split at q2
  ·rename_i t e
   refine aQ hu h1 F2.ok (F2.val F1.ok r1) r2 e (wpAny_truthy_bool ?_)
   cases t with
   | false=>exact k _ _ _ _ q2 (F1.trans F2)
   | true =>
    refine test_last (hcc _ env nm ρ _ H2 φ2 s2 _ EX h5 ((L.fwd O F1).fwd F1.ok F2) F2.ok q2 fun vc H3 φ3 x3 s3 q3 F3 r3=>?_)
    split at q3
    ·rename_i t e
     exact aQ hu h2 F3.ok (F3.val F2.ok r2) r3 e (wpAny_truthy_bool (k _ _ _ _ q3 ((F1.trans F2).trans F3)))
    ·exact q3.elim
  ·exact q2.elim
theorem Cd9 {e:Mini.E}{c:Mini.Cst}(he:E4 X A C e):X0 X A C (.is e c):=by
 intro re env nm ρ Q H φ s K EX hc L O h k
 refine Mini.Bn9 hc fun e' r' p e9 hc9=>?_
 clear hc;subst e9
 ·simp only [Bool.and_eq_true] at hc9
  replace h:=Mini.Cl9 h
  refine wpAny_isTrue_Compare1 (he _ env nm ρ _ H φ s _ EX hc9.1 L O h fun a H1 φ1 x1 s1 q1 F1 r1=>?_) (fB hc9.2 _)
  obtain ⟨y,ev,hp,hq⟩:=wD (X:=X) (A:=A) (env:=env) (s:=s1) r1 hc9.2
  refine ev (wpAny_is_plain hp ?_)
  rw [hq]
  exact wpAny_truthy_bool (k _ _ _ _ q1 F1)
theorem Ao6 {e:Mini.E}{c:Mini.Cst}(he:E4 X A C e):X0 X A C (.isnot e c):=by
 intro re env nm ρ Q H φ s K EX hc L O h k
 refine Mini.uH hc fun e' r' p e9 hc9=>?_
 clear hc;subst e9
 ·simp only [Bool.and_eq_true] at hc9
  replace h:=Mini.Aa8 h
  refine wpAny_isTrue_Compare1 (he _ env nm ρ _ H φ s _ EX hc9.1 L O h fun a H1 φ1 x1 s1 q1 F1 r1=>?_) (fB hc9.2 _)
  obtain ⟨y,ev,hp,hq⟩:=wD (X:=X) (A:=A) (env:=env) (s:=s1) r1 hc9.2
  refine ev (wpAny_isNot_plain hp ?_)
  rw [hq]
  exact wpAny_truthy_bool (k _ _ _ _ q1 F1)
noncomputable def pB (X:Cx) (A:Around) (C:Mini.Calls) (es:List Mini.E):Prop:=∀ e∈es,X0 X A C e
set_option tactic.hygienic true in
theorem mO:∀ (es:List Mini.E) (res:List Expr) (env:Env) (nm:List Str) (ρ:Mini.D7) (Q:Bool->Mini.Heap->Prop) (H:Mini.Heap) (φ:List Addr) (s:Shared) (K:Bool->Shared->Prop) (EX:Value->Shared->Prop) (p:Pos) (w:Sem Value),
  pB X A C es->Mini.J8 X.gl env.scope.names nm es res=true->E5 X φ nm env ρ s->Ok X.h₀ φ H s.heap->Mini.iG C es ρ (fun v H₁=>Mini.boo (Mini.I7 v) Q H₁) H ->
  (∀ b H' φ' s',Q b H'->I4 X.h₀ φ s φ' H' s'->K b s')->wpAny (M1 X) A (isTrue (.BoolOp .And res p) env w) K EX s
 | [],_,_,_,_,_,_,_,_,_,_,_,_,_,_,_,_,h,_=>False.elim h
 | e::es,res,env,nm,ρ,Q,H,φ,s,K,EX,p,w,hs,hc,L,O,h,k=>by
  cases res with
  | nil=>nomatch hc
  | cons re res =>
   replace hc:=Mini.C3 hc
   cases es with
   | nil =>
    cases res with
    | cons _ _=>nomatch hc
    | nil =>
     refine isTrue_and (hs e (by simp) _ env nm ρ Q H φ s _ EX hc.1 L O h fun b H1 φ1 s1 q F1=>?_)
     cases b with
     | false=>exact k _ _ _ _ q F1
     | true=>exact isTrue_and_nil (k _ _ _ _ q F1)
   | cons e2 es =>
    refine isTrue_and (hs e (by simp) _ env nm ρ (fun b H₁=>match b with
      | true=>Mini.iG C (e2::es) ρ (fun v H₁=>Mini.boo (Mini.I7 v) Q H₁) H₁
      | false=>Q false H₁) H φ s _ EX hc.1 L O ?_ fun b H1 φ1 s1 q F1=>?_)
    ·have e9:(fun v H₁=>Mini.boo (Mini.I7 v) (fun b H₁=>match b with
      | true=>Mini.iG C (e2::es) ρ (fun v H₁=>Mini.boo (Mini.I7 v) Q H₁) H₁
      | false=>Mini.boo (Mini.I7 v) Q H₁) H₁)=fun v H₁=>Mini.boo (Mini.I7 v) (fun b H₁=>match b with
      | true=>Mini.iG C (e2::es) ρ (fun v H₁=>Mini.boo (Mini.I7 v) Q H₁) H₁
      | false=>Q false H₁) H₁:=by
      funext v H₁
      cases v<;>try rfl
      rename_i b
      cases b<;>rfl
     exact Eq.mp (congrArg (fun q=>Mini.E2 C e ρ q H) e9) h
    ·cases b with
     | false=>exact k _ _ _ _ q F1
     | true=>exact mO (e2::es) res env nm ρ Q H1 φ1 s1 K EX p w (fun e' he'=>hs e' (List.mem_cons_of_mem _ he')) hc.2 (L.fwd O F1) F1.ok q fun b H2 φ2 s2 q2 F2=>k _ _ _ _ q2 (F1.trans F2)
set_option tactic.hygienic true in
theorem qV:∀ (es:List Mini.E) (res:List Expr) (env:Env) (nm:List Str) (ρ:Mini.D7) (Q:Bool->Mini.Heap->Prop) (H:Mini.Heap) (φ:List Addr) (s:Shared) (K:Bool->Shared->Prop) (EX:Value->Shared->Prop) (p:Pos) (w:Sem Value),
  pB X A C es->Mini.J8 X.gl env.scope.names nm es res=true->E5 X φ nm env ρ s->Ok X.h₀ φ H s.heap->Mini.vX C es ρ (fun v H₁=>Mini.boo (Mini.I7 v) Q H₁) H ->
  (∀ b H' φ' s',Q b H'->I4 X.h₀ φ s φ' H' s'->K b s')->wpAny (M1 X) A (isTrue (.BoolOp .Or res p) env w) K EX s
 | [],_,_,_,_,_,_,_,_,_,_,_,_,_,_,_,_,h,_=>False.elim h
 | e::es,res,env,nm,ρ,Q,H,φ,s,K,EX,p,w,hs,hc,L,O,h,k=>by
  cases res with
  | nil=>nomatch hc
  | cons re res =>
   replace hc:=Mini.C3 hc
   cases es with
   | nil =>
    cases res with
    | cons _ _=>nomatch hc
    | nil =>
     refine isTrue_or (hs e (by simp) _ env nm ρ Q H φ s _ EX hc.1 L O h fun b H1 φ1 s1 q F1=>?_)
     cases b with
     | true=>exact k _ _ _ _ q F1
     | false=>exact isTrue_or_nil (k _ _ _ _ q F1)
   | cons e2 es =>
    refine isTrue_or (hs e (by simp) _ env nm ρ (fun b H₁=>match b with
      | true=>Q true H₁
      | false=>Mini.vX C (e2::es) ρ (fun v H₁=>Mini.boo (Mini.I7 v) Q H₁) H₁) H φ s _ EX hc.1 L O ?_ fun b H1 φ1 s1 q F1=>?_)
    ·have e9:(fun v H₁=>Mini.boo (Mini.I7 v) (fun b H₁=>match b with
      | true=>Mini.boo (Mini.I7 v) Q H₁
      | false=>Mini.vX C (e2::es) ρ (fun v H₁=>Mini.boo (Mini.I7 v) Q H₁) H₁) H₁)=fun v H₁=>Mini.boo (Mini.I7 v) (fun b H₁=>match b with
      | true=>Q true H₁
      | false=>Mini.vX C (e2::es) ρ (fun v H₁=>Mini.boo (Mini.I7 v) Q H₁) H₁) H₁:=by
      funext v H₁
      cases v<;>try rfl
      rename_i b
      cases b<;>rfl
     exact Eq.mp (congrArg (fun q=>Mini.E2 C e ρ q H) e9) h
    ·cases b with
     | true=>exact k _ _ _ _ q F1
     | false=>exact qV (e2::es) res env nm ρ Q H1 φ1 s1 K EX p w (fun e' he'=>hs e' (List.mem_cons_of_mem _ he')) hc.2 (L.fwd O F1) F1.ok q fun b H2 φ2 s2 q2 F2=>k _ _ _ _ q2 (F1.trans F2)
theorem Bs9 {es:List Mini.E}(hs:pB X A C es):X0 X A C (.and es):=by
 intro re env nm ρ Q H φ s K EX hc L O h k
 refine Mini.Ay5 hc fun es' p e9 hc9=>?_
 clear hc;subst e9
 ·replace h:=Mini.Bm8 h
  exact mO es _ env nm ρ Q H φ s K EX _ _ hs hc9 L O h k
theorem Cd8 {es:List Mini.E}(hs:pB X A C es):X0 X A C (.or es):=by
 intro re env nm ρ Q H φ s K EX hc L O h k
 refine Mini.Bn8 hc fun es' p e9 hc9=>?_
 clear hc;subst e9
 ·replace h:=Mini.Cl8 h
  exact qV es _ env nm ρ Q H φ s K EX _ _ hs hc9 L O h k
end
end MiniS
namespace MiniS
open PySem PySem.Calls PyProof.Rows
open Mini (V D)
noncomputable def Own (env:Env) (b:Addr):Prop:=b=env.locals∨∃ x,env.cells.lookup x=some b
structure K7 (h₀:Heap) (env:Env) (φ:List Addr) (s:Shared) (φ':List Addr) (H':Mini.Heap) (s':Shared):Prop where
 same:∃ h' tk,s'={ s with heap:=h',toks:=tk }
 keep:∀ b o,b ∉ φ->¬ Own env b->s.heap.get? b=some o->s'.heap.get? b=some o
 size:s.heap.objs.size<=s'.heap.objs.size
 toks:s.toks<=s'.toks
 grow:∃ ψ,φ'=φ++ψ/\∀ a∈ψ,s.heap.objs.size<=a
 ok:Ok h₀ φ' H' s'.heap
theorem I4.toS {h₀ φ s φ' H' s'}(F:I4 h₀ φ s φ' H' s') (env:Env):K7 h₀ env φ s φ' H' s' :=
 ⟨F.step.same,fun b o h zz e=>F.step.keep b o h e,F.step.size,F.step.toks,F.grow,F.ok⟩
theorem K7.refl {h₀ env φ s H}(K:Ok h₀ φ H s.heap):K7 h₀ env φ s φ H s:=(I4.refl K).toS env
theorem K7.trans {h₀ env φ s φ₁ H₁ s₁ φ₂ H₂ s₂}(a:K7 h₀ env φ s φ₁ H₁ s₁) (b:K7 h₀ env φ₁ s₁ φ₂ H₂ s₂):K7 h₀ env φ s φ₂ H₂ s₂:=by
 obtain ⟨⟨h1,t1,e1⟩,k1,z1,w1,⟨ψ1,g1,m1⟩,o1⟩:=a
 obtain ⟨⟨h2,t2,e2⟩,k2,z2,w2,⟨ψ2,g2,m2⟩,o2⟩:=b
 refine ⟨⟨h2,t2,by rw [e2,e1]⟩,fun b o hb hn e=>?_,A3 z1 z2,A3 w1 w2,⟨ψ1++ψ2,by rw [g2,g1,A7],fun a ha=>?_⟩,o2⟩
 ·refine k2 b o ?_ hn (k1 b o hb hn e)
  rw [g1,List.mem_append,not_or]
  exact ⟨hb,fun hm=>absurd (Heap.lt_size e) (Nat.not_lt.mpr (m1 b hm))⟩
 ·rcases List.mem_append.mp ha with q | q
  ·exact m1 a q
  ·exact A3 z1 (m2 a q)
theorem K7.idx {h₀ env φ s φ' H' s'}(F:K7 h₀ env φ s φ' H' s'):∀ (i:Nat) (a:Addr),φ[i]? = some a->φ'[i]? = some a:=by
 obtain ⟨ψ,e,_⟩:=F.grow
 intro i a hi
 rw [e,List.getElem?_append_left (List.getElem?_eq_some_iff.mp hi).1];exact hi
theorem K7.fields {X:Cx}{env φ nm ρ s φ' H H' s'}(K:Ok X.h₀ φ H s.heap) (L:E5 X φ nm env ρ s) (F:K7 X.h₀ env φ s φ' H' s') {b:Addr}{o:Obj}{vs:Array Value}(hd:o.data=.fields vs)
  (e:s.heap.get? b=some o):s'.heap.get? b=some o:=by
 refine F.keep b o (fun hm=>?_) (fun hn=>?_) e
 ·obtain ⟨vs',n,e'⟩:=K.mem hm
  rw [e'] at e;cases e;simp at hd
 ·rcases hn with rfl | ⟨x,hx⟩
  ·obtain ⟨m,⟨o',es,ep,ho',hd',_⟩,_⟩:=L.locals
   rw [ho'] at e;cases e;rw [hd'] at hd;cases hd
  ·obtain ⟨ov,o',ho',hd'⟩:=L.cellAll x b hx
   rw [ho'] at e;cases e;rw [hd'] at hd;cases hd
theorem Ok.other {h₀ φ H h h'}{a:Addr}{o:Obj}(K:Ok h₀ φ H h) (hs:Heap.SameBut a h h') (ho:h.get? a=some o) (hn:∀ vs n,o.data≠.seq vs n) (hab:h₀.objs.size<=a):Ok h₀ φ H h':=by
 have hna:a ∉ φ:=fun hm=>by
  obtain ⟨vs,n,e⟩:=K.mem hm
  rw [e] at ho;cases ho;exact hn _ _ rfl
 have keep:∀ b o,b≠a->h.get? b=some o->h'.get? b=some o:=fun b o hb e=>(hs.2 b hb).trans e
 have tups:∀ b o,N8 o->h.get? b=some o->h'.get? b=some o:=fun b o' ht e=>keep b o' (by
  rintro rfl
  rw [e] at ho;cases ho
  obtain ⟨_,vs,n,hd⟩:=ht
  exact hn _ _ hd) e
 refine ⟨fun b o e=>keep b o (fun q=>?_) (K.base b o e),K.len,K.nodup,K.above,K.small,A3 K.room (Nat.le_of_eq hs.1.symm),fun i b l hi hl=>?_⟩
 ·subst q;exact absurd (Heap.lt_size e) (Nat.not_lt.mpr hab)
 ·obtain ⟨vs,⟨n,e⟩,r⟩:=K.lists i b l hi hl
  have hb:b≠a:=fun q=>hna (q▸B9 hi)
  exact ⟨vs,⟨n,keep b _ hb e⟩,C7.mono (fun zz zz q=>q) tups l r⟩
theorem qT {h₀ φ h h'}{a:Addr}{o:Obj}(hs:Heap.SameBut a h h') (ho:h.get? a=some o) (hn:∀ vs n,o.data≠.seq vs n) {v:V}{x:Value}(r:E7 h₀ φ h v x):E7 h₀ φ h' v x :=
 E7.mono (fun zz zz q=>q) (fun b o' ht e=>(hs.2 b (by
  rintro rfl
  rw [e] at ho;cases ho
  obtain ⟨_,vs,n,hd⟩:=ht
  exact hn _ _ hd)).trans e) v r
section
variable {X:Cx}{A:Around}{C:Mini.Calls}
theorem cD {ρ:Mini.D7}{x:Nat}{v:V}(h:x<ρ.length):((ρ.set x (some v))[x]?).getD none=some v:=by
 rw [List.getElem?_set_self h];rfl
theorem V5 {ρ:Mini.D7}{x y:Nat}{v:V}(h:x≠y):(ρ.set x (some v))[y]? = ρ[y]?:=List.getElem?_set_ne h
theorem bD {env:Env}{nm:List Str}{ρ:Mini.D7}{φ:List Addr}{H:Mini.Heap}{s:Shared}{K:Unit->Shared->Prop}{EX:Value->Shared->Prop}{id:Str}{x:Nat}{v:V}{y:Value}
  (L:E5 X φ nm env ρ s) (O:Ok X.h₀ φ H s.heap) (hx:nm[x]? = some id) (hl:Mini.S8 env.scope.names id=true) (hf:(env.scope.names.lookup id != some .free)=true) (hlit:X.gl.lits.contains x=false)
  (r:E7 X.h₀ φ s.heap v y) (k:∀ s',K7 X.h₀ env φ s φ H s'->E5 X φ nm env (ρ.set x (some v)) s'->K () s'):wpAny (M1 X) A (storeName env id y) K EX s:=by
 have hkind:env.kindOf id=env.scope.names.lookup id:=rfl
 have hxl:x<ρ.length:=by rw [L.len];exact (List.getElem?_eq_some_iff.mp hx).1
 have hxlit:x ∉ X.gl.lits:=by simpa using hlit
 have hone:∀ (i:Nat) (z:Str),nm[i]? = some z->z=id->i=x:=fun i z hz e=>by
  subst e
  exact (List.getElem?_inj (List.getElem?_eq_some_iff.mp hz).1 L.nodup).mp (hz.trans hx.symm)
 have hother:∀ (i:Nat) (z:Str),nm[i]? = some z->z≠id->i≠x:=fun i z hz e q=>by
  subst q
  rw [hx] at hz;cases hz;exact e rfl
 unfold Mini.S8 at hl
 split at hl
 ·rename_i e
  obtain ⟨m,hns,hm⟩:=L.locals
  obtain ⟨o,es,ep,ho,hd,_⟩:=_root_.id hns
  refine wpAny_storeName_local (hkind.trans e) hns (fun h' hn hs=>?_) (by rw [L.kind];rfl)
  have hnd:∀ vs n,o.data≠.seq vs n:=fun vs n q=>by rw [hd] at q;cases q
  have O':Ok X.h₀ φ H h':=O.other hs ho hnd L.above
  have hr:∀ v x,E7 X.h₀ φ s.heap v x->E7 X.h₀ φ h' v x:=fun v x q=>qT hs ho hnd q
  refine k _ ⟨⟨h',_,rfl⟩,fun b o hb hno e=>(hs.2 b fun q=>hno (Or.inl q)).trans e,Nat.le_of_eq hs.1.symm,B8 _,⟨[],by simp,by simp⟩,O'⟩ ?_
  refine ⟨L.kind,L.glob,L.blt,by simp [L.len],L.nodup,fun hp=>A8 (L.pos hp) (B8 _),⟨_,hn,fun i z hz hk=>?_⟩,fun i z hz hk=>?_,L.above,L.aboveC,fun z c hc=>?_,L.apart⟩
  ·by_cases hzi:z=id
   ·have:=hone i z hz hzi
    subst this
    rw [cD hxl,if_pos hzi]
    exact ⟨⟨y,rfl,hr _ _ r⟩,fun hi=>absurd hi hxlit⟩
   ·rw [V5 (Ne.symm (hother i z hz hzi)),if_neg hzi]
    exact ⟨(hm i z hz hk).1.mono hr,(hm i z hz hk).2.mono (B8 _)⟩
  ·obtain ⟨c,ov,hc,⟨oc,hoc,hdc⟩,q,lr⟩:=L.cells i z hz hk
   have hzi:z≠id:=by
    rintro rfl
    rw [hkind,e] at hk
    rcases hk with hk | hk<;>cases hk
   have hcl:c≠env.locals:=by
    rintro rfl
    rw [ho] at hoc;cases hoc;rw [hd] at hdc;cases hdc
   rw [V5 (Ne.symm (hother i z hz hzi))]
   exact ⟨c,ov,hc,⟨oc,(hs.2 c hcl).trans hoc,hdc⟩,q.mono hr,lr.mono (B8 _)⟩
  ·obtain ⟨ov,oc,hoc,hdc⟩:=L.cellAll z c hc
   have hcl:c≠env.locals:=by
    rintro rfl
    rw [ho] at hoc;cases hoc;rw [hd] at hdc;cases hdc
   exact ⟨ov,oc,(hs.2 c hcl).trans hoc,hdc⟩
 ·rename_i e
  obtain ⟨c,ov,hc,hcell,q,lr⟩:=L.cells x id hx (Or.inl (hkind.trans e))
  obtain ⟨o,ho,hd⟩:=_root_.id hcell
  refine wpAny_storeName_cell L.kind (hkind.trans e) hc hcell fun h' hn hs=>?_
  have hnd:∀ vs n,o.data≠.seq vs n:=fun vs n q=>by rw [hd] at q;cases q
  have O':Ok X.h₀ φ H h':=O.other hs ho hnd (L.aboveC _ _ hc)
  have hr:∀ v x,E7 X.h₀ φ s.heap v x->E7 X.h₀ φ h' v x:=fun v x q=>qT hs ho hnd q
  refine k _ ⟨⟨h',_,rfl⟩,fun b o hb hno e=>(hs.2 b fun q=>hno (Or.inr ⟨id,by rw [q];exact hc⟩)).trans e,Nat.le_of_eq hs.1.symm,A4 _,⟨[],by simp,by simp⟩,O'⟩ ?_
  refine ⟨L.kind,L.glob,L.blt,by simp [L.len],L.nodup,L.pos,?_,fun i z hz hk=>?_,L.above,L.aboveC,fun z c' hc'=>?_,L.apart⟩
  ·obtain ⟨m,hns,hm⟩:=L.locals
   obtain ⟨ol,es,ep,hol,hdl,rest⟩:=hns
   have hcl:env.locals≠c:=by
    intro q
    rw [q,ho] at hol;cases hol;rw [hd] at hdl;cases hdl
   refine ⟨m,⟨ol,es,ep,(hs.2 _ hcl).trans hol,hdl,rest⟩,fun i z hz hk=>?_⟩
   have hzi:z≠id:=by
    rintro rfl
    rw [hkind,e] at hk;cases hk
   rw [V5 (Ne.symm (hother i z hz hzi))]
   exact ⟨(hm i z hz hk).1.mono hr,(hm i z hz hk).2⟩
  ·obtain ⟨c',ov',hc',⟨oc,hoc,hdc⟩,q',lr'⟩:=L.cells i z hz hk
   by_cases hzi:z=id
   ·have:=hone i z hz hzi
    subst this
    subst hzi
    rw [hc] at hc';cases hc'
    rw [cD hxl]
    exact ⟨c,some y,hc,hn,⟨y,rfl,hr _ _ r⟩,fun hi=>absurd hi hxlit⟩
   ·have hcc:c'≠c:=by
     rintro rfl
     exact hzi (L.apart z id c' hc' hc)
    rw [V5 (Ne.symm (hother i z hz hzi))]
    exact ⟨c',ov',hc',⟨oc,(hs.2 c' hcc).trans hoc,hdc⟩,q'.mono hr,lr'⟩
  ·by_cases hcc:c'=c
   ·subst hcc;exact ⟨some y,hn⟩
   ·obtain ⟨ov',oc,hoc,hdc⟩:=L.cellAll z c' hc'
    exact ⟨ov',oc,(hs.2 c' hcc).trans hoc,hdc⟩
 ·rename_i e
  rw [e] at hf;simp at hf
 ·cases hl
end
end MiniS
namespace MiniS
open PySem
theorem zR (h:Heap) (a:Addr) (f:Obj->Obj):(h.update a f).objs.size=h.objs.size:=by
 obtain ⟨o,l⟩:=h
 simp [Heap.update]
theorem zS (h:Heap) (o:Obj):(h.push o).objs.size=h.objs.size+1:=by
 obtain ⟨os,l⟩:=h
 simp [Heap.push]
theorem runs_size {M:Model}{Γ:Ctx}{p:Pos}{t:Sem Fin}{fs:List Frame}{s s':Shared}{e:End}(h:Runs M Γ p t fs s e s'):s.heap.objs.size<=s'.heap.objs.size:=by
 induction h<;>(try simp only [Shared.setGen,zR,zS] at *)<;>lia
theorem xX {M:Model}{Γ:Ctx}{p:Pos}{s s':Shared}{r:Result}(h:Returns M Γ p s r s'):s.heap.objs.size<=s'.heap.objs.size:=runs_size h
theorem An9 {M:Model}{Γ:Ctx}{p:Pos}{g:Nat}{r:Resume}{s s':Shared}{res:GenResult}(h:Wakes M Γ p g r s res s'):s.heap.objs.size<=s'.heap.objs.size:=by
 unfold Wakes at h
 split at h
 ·exact h.elim
 ·split at h
  ·obtain ⟨e₁,s₁,hr,_,_,rfl⟩:=h;exact (runs_size hr:(s.setGen g .running).heap.objs.size<=s₁.heap.objs.size)
  ·rw [h.2];exact A4 _
  ·rw [h.2];exact A4 _
 ·obtain ⟨e₁,s₁,hr,_,_,rfl⟩:=h;exact (runs_size hr:(s.setGen g .running).heap.objs.size<=s₁.heap.objs.size)
 ·rw [h.2];exact A4 _
 ·rw [h.2];exact A4 _
open Sem (wp)
theorem Cb9 {α:Type}(M:Model) (Γ:Ctx) (n:Nat) (t:Sem α):∀ (Q:α->Pos->Shared->Prop) (E:Value->Pos->Shared->Prop) (p:Pos) (s:Shared),n<=s.heap.objs.size->wp M Γ t Q E p s ->
  wp M Γ t (fun a p' s'=>n<=s'.heap.objs.size/\Q a p' s') (fun e p' s'=>n<=s'.heap.objs.size/\E e p' s') p s:=by
 induction t with
 | pure a=>intro Q E p s hn h;exact ⟨hn,h⟩
 | raise e=>intro Q E p s hn h;exact ⟨hn,h⟩
 | unsupported _=>intro Q E p s _ h;exact h
 | finish _=>intro Q E p s _ h;exact h
 | rule _ k ih=>intro Q E p s hn h;exact ih () Q E p s hn h
 | «at» p' k ih=>intro Q E p s hn h;exact ih () Q E p' s hn h
 | load a _ k ih=>intro Q E p s hn h;obtain ⟨o,ho,h⟩:=h;exact ⟨o,ho,ih o Q E p s hn h⟩
 | update a _ f k ih=>intro Q E p s hn h;exact ⟨h.1,ih () Q E p _ (by show n<=(s.heap.update a f).objs.size;rw [zR];exact hn) h.2⟩
 | loadIfAlive a k ih=>intro Q E p s hn h;exact ih _ Q E p s hn h
 | point _ k ih=>intro Q E p s hn h;exact ih () Q E p s hn h
 | register _ _=>intro Q E p s _ h;exact h
 | alloc o k ih=>intro Q E p s hn h;exact ih _ Q E p _ (by show n<=(s.heap.push o).objs.size;rw [zS];exact Nat.le_succ_of_le hn) h
 | fresh k ih=>intro Q E p s hn h;exact ih _ Q E p _ hn h
 | ask k ih=>intro Q E p s hn h;exact ih _ Q E p s hn h
 | choose src m k ih=>intro Q E p s hn h;exact ⟨h.1,ih _ Q E p _ hn h.2⟩
 | os q _ k ih=>intro Q E p s hn h;exact ih _ Q E p _ hn h
 | call c hd _ _ k ih=>intro Q E p s hn h;obtain ⟨r,s',hr,h⟩:=h;exact ⟨r,s',hr,ih r Q E p s' (A3 hn (xX hr)) h⟩
 | handled own k ih=>intro Q E p s hn h;exact ih _ Q E p s hn h
 | genState g k ih=>intro Q E p s hn h;obtain ⟨st,hs,h⟩:=h;exact ⟨st,hs,ih _ Q E p s hn h⟩
 | newGen c k ih=>intro Q E p s hn h;exact ih _ Q E p _ hn h
 | resume g r _ k ih=>intro Q E p s hn h;obtain ⟨res,s',hw,h⟩:=h;exact ⟨res,s',hw,ih res Q E p s' (A3 hn (An9 hw)) h⟩
 | yield _ _ _ _=>intro Q E p s _ h;exact h
 | stack k ih=>intro Q E p s hn h;exact ih _ Q E p s hn h
 | fork _ _=>intro Q E p s _ h;exact h
 | thread k ih=>intro Q E p s hn h;exact ih _ Q E p s hn h
 | await _ _ _ _ _=>intro Q E p s _ h;exact h
theorem tJ {α:Type}{M:Model}{A:Around}{t:Sem α}{K:α->Shared->Prop}{EX:Value->Shared->Prop}{s:Shared}
  (h:wpAny M A t (fun x s'=>s.heap.objs.size<=s'.heap.objs.size->K x s') EX s):wpAny M A t K EX s :=
 fun Γ p hΓ=>Sem.wp_mono M Γ t (fun zz zz zz q=>q.2 q.1) (fun zz zz zz q=>q.2) p s (Cb9 M Γ s.heap.objs.size t _ _ p s (A4 _) (h Γ p hΓ))
end MiniS
namespace MiniS
open PySem PySem.Calls PyProof.Rows
open Mini (V D)
structure fF (I:Addr) (s s':Shared):Prop where
 same:∃ h' tk,s'={ s with heap:=h',toks:=tk }
 keep:∀ b o,b≠I->s.heap.get? b=some o->s'.heap.get? b=some o
 size:s.heap.objs.size<=s'.heap.objs.size
 toks:s.toks<=s'.toks
theorem fF.ok {h₀ φ H I s s'}{o:Obj}{vs:Array Value}(B:fF I s s') (K:Ok h₀ φ H s.heap) (ho:s.heap.get? I=some o) (hd:o.data=.fields vs) (hab:h₀.objs.size<=I):Ok h₀ φ H s'.heap:=by
 have hna:I ∉ φ:=fun hm=>by
  obtain ⟨vs',n,e⟩:=K.mem hm
  rw [e] at ho;cases ho;simp at hd
 have tups:∀ b o,N8 o->s.heap.get? b=some o->s'.heap.get? b=some o:=fun b o' ht e=>B.keep b o' (by
  rintro rfl
  rw [e] at ho;cases ho
  obtain ⟨_,vs',n,hd'⟩:=ht
  rw [hd] at hd';cases hd') e
 refine ⟨fun b o e=>B.keep b o (fun q=>?_) (K.base b o e),K.len,K.nodup,K.above,K.small,A3 K.room B.size,fun i b l hi hl=>?_⟩
 ·subst q;exact absurd (Heap.lt_size e) (Nat.not_lt.mpr hab)
 ·obtain ⟨vs',⟨n,e⟩,r⟩:=K.lists i b l hi hl
  have hb:b≠I:=fun q=>hna (q▸B9 hi)
  exact ⟨vs',⟨n,B.keep b _ hb e⟩,C7.mono (fun zz zz q=>q) tups l r⟩
theorem fF.val {h₀ φ I s s'}{o:Obj}{vs:Array Value}(B:fF I s s') (ho:s.heap.get? I=some o) (hd:o.data=.fields vs) {v:V}{x:Value}(r:E7 h₀ φ s.heap v x):E7 h₀ φ s'.heap v x :=
 E7.mono (fun zz zz q=>q) (fun b o' ht e=>B.keep b o' (by
  rintro rfl
  rw [e] at ho;cases ho
  obtain ⟨_,vs',n,hd'⟩:=ht
  rw [hd] at hd';cases hd') e) v r
theorem fF.env {X:Cx}{φ nm env ρ I s s'}{o:Obj}{vs:Array Value}(B:fF I s s') (L:E5 X φ nm env ρ s) (ho:s.heap.get? I=some o) (hd:o.data=.fields vs):E5 X φ nm env ρ s':=by
 have hr:∀ v x,E7 X.h₀ φ s.heap v x->E7 X.h₀ φ s'.heap v x:=fun v x r=>B.val ho hd r
 have hcell:∀ c ov,s.heap.IsCell c ov->s'.heap.IsCell c ov:=fun c ov hc=>by
  obtain ⟨oc,hoc,hdc⟩:=hc
  refine ⟨oc,B.keep c oc (fun q=>?_) hoc,hdc⟩
  subst q
  rw [ho] at hoc;cases hoc;rw [hd] at hdc;cases hdc
 refine ⟨L.kind,L.glob,L.blt,L.len,L.nodup,fun hp=>A8 (L.pos hp) B.toks,?_,?_,L.above,L.aboveC,fun x c hc=>?_,L.apart⟩
 ·obtain ⟨m,⟨ol,es,ep,hol,hdl,q⟩,hm⟩:=L.locals
  have hn:env.locals≠I:=fun e=>by
   rw [e,ho] at hol;cases hol;rw [hd] at hdl;cases hdl
  exact ⟨m,⟨ol,es,ep,B.keep _ _ hn hol,hdl,q⟩,fun i x hx hk=>⟨(hm i x hx hk).1.mono hr,(hm i x hx hk).2.mono B.toks⟩⟩
 ·intro i x hx hk
  obtain ⟨c,ov,hc,hcl,r,lr⟩:=L.cells i x hx hk
  exact ⟨c,ov,hc,hcell c ov hcl,r.mono hr,lr.mono B.toks⟩
 ·obtain ⟨ov,hcl⟩:=L.cellAll x c hc
  exact ⟨ov,hcell c ov hcl⟩
theorem K7.but {h₀ env φ₀ s₀ φ H I s s'}(F:K7 h₀ env φ₀ s₀ φ H s) (B:fF I s s') (hI:s₀.heap.objs.size<=I) (O:Ok h₀ φ H s'.heap):K7 h₀ env φ₀ s₀ φ H s':=by
 obtain ⟨⟨h1,t1,e1⟩,k1,z1,w1,g1,_⟩:=F
 obtain ⟨⟨h2,t2,e2⟩,k2,z2,w2⟩:=B
 exact ⟨⟨h2,t2,by rw [e2,e1]⟩,fun b o hb hn e=>k2 b o (fun q=>by
  subst q;exact absurd (Heap.lt_size e) (Nat.not_lt.mpr hI)) (k1 b o hb hn e),A3 z1 z2,A3 w1 w2,g1,O⟩
inductive ItOk (X:Cx) (φ:List Addr):Mini.It->Addr->Nat->Heap->Prop
 | lst {a:Nat}{p I:Addr}{i:Nat}{h:Heap}:φ[a]? = some p->h.IsListIter I p i->ItOk X φ (.lst a) I i h
 | frz {ns:List Int}{a:Addr}{items:List Value}{I:Addr}{i:Nat}{h:Heap}:X.h₀.IsList a items.toArray->dC ns items->h.IsListIter I a i->ItOk X φ (.fix (ns.map V.int)) I i h
 | str {l:List Nat}{ty:String}{t:Tok}{I:Addr}{i:Nat}{h:Heap}:(ty = "str_ascii_iterator" ∨ ty = "str_iterator")->h.IsStrIter I ty ⟨l.toArray⟩ t i->ItOk X φ (.fix (l.map fun c=>V.str [c])) I i h
 | rng {n:Nat}{I:Addr}{i:Nat}{h:Heap}:i<=n->IsRangeIter h I (i:Int) ((n:Int) - (i:Int)) 1->ItOk X φ (.fix ((List.range n).map fun k:Nat=>V.int (k:Int))) I i h
theorem ItOk.obj {X:Cx}{φ it I i h}(W:ItOk X φ it I i h):∃ o vs,h.get? I=some o/\o.data=.fields vs/\∀ φ' h',(∀ (j:Nat) (a:Addr),φ[j]? = some a->φ'[j]? = some a)->h'.get? I=some o->ItOk X φ' it I i h':=by
 cases W with
 | lst hp hi =>
  obtain ⟨o,ho,hc,hd⟩:=hi
  exact ⟨o,_,ho,hd,fun φ' h' hφ ho'=>.lst (hφ _ _ hp) ⟨o,ho',hc,hd⟩⟩
 | frz hl hn hi =>
  obtain ⟨o,ho,hc,hd⟩:=hi
  exact ⟨o,_,ho,hd,fun φ' h' hφ ho'=>.frz hl hn ⟨o,ho',hc,hd⟩⟩
 | str ht hi =>
  obtain ⟨o,ho,hc,hd⟩:=hi
  exact ⟨o,_,ho,hd,fun φ' h' hφ ho'=>.str ht ⟨o,ho',hc,hd⟩⟩
 | rng hle hi=>exact ⟨_,_,hi,rfl,fun φ' h' hφ ho'=>.rng hle ho'⟩
section
variable {X:Cx}{A:Around}{C:Mini.Calls}
theorem Aw4 (hh:A.handled=none) {φ:List Addr}{H:Mini.Heap}{s:Shared}{it:Mini.It}{I:Addr}{i:Nat}{K:Option Value->Shared->Prop}{EX:Value->Shared->Prop}
  (O:Ok X.h₀ φ H s.heap) (W:ItOk X φ it I i s.heap)
  (hitem:∀ v x s',it.at H i=some v->E7 X.h₀ φ s'.heap v x->fF I s s'->ItOk X φ it I (i+1) s'.heap->K (some x) s')
  (hend:∀ s',it.at H i=none->fF I s s'->K none s'):wpAny (M1 X) A (pyNext (.ref I)) K EX s:=by
 have same:∀ {h':Heap}{tk:Nat},Heap.SameBut I s.heap h'->s.toks<=tk->fF I s { s with heap:=h',toks:=tk }:=fun hs ht =>
  ⟨⟨_,_,rfl⟩,fun b o hb e=>(hs.2 b hb).trans e,Nat.le_of_eq hs.1.symm,ht⟩
 obtain ⟨o,vs,hoI,hdI,_⟩:=W.obj
 have ext:∀ {h':Heap},Heap.ExtBut I s.heap h'->s.heap.objs.size<=h'.objs.size->fF I s { s with heap:=h' }:=fun hs hz =>
  ⟨⟨_,_,rfl⟩,fun b o hb e=>hs b o hb e,hz,A4 _⟩
 cases W with
 | @lst a p _ _ _ hp hi =>
  have hlt:a<H.length:=by rw [<- O.len];exact (List.getElem?_eq_some_iff.mp hp).1
  obtain ⟨l,hl⟩:∃ l,H[a]? = some l:=⟨_,List.getElem?_eq_getElem hlt⟩
  obtain ⟨vs',hpl,rs⟩:=O.lists _ _ _ hp hl
  cases hx:l[i]? with
  | some v =>
   obtain ⟨x,hx',rx⟩:=rs.get hx
   refine wpAny_pyNext_list_item hi hpl.isList (by simpa using hx') fun h' hi' hs=>?_
   have B:=same (tk:=s.toks) hs (A4 _)
   exact hitem v x _ (by simp [Mini.It.at,hl,hx]) (B.val hoI hdI rx) B (.lst hp hi')
  | none =>
   have hx':vs'[i]? = none:=by
    rw [List.getElem?_eq_none_iff] at hx ⊢
    rw [<- rs.length];exact hx
   exact tJ (wpAny_pyNext_list_end hh hi hpl.isList (by simpa using hx') fun h' he hz=>hend _ (by simp [Mini.It.at,hl,hx]) (ext he hz))
 | @frz ns a items _ _ _ hl hn hi =>
  have rs:C7 X.h₀ φ s.heap (ns.map V.int) items:=hn.rels
  have hL:s.heap.IsList a items.toArray:=by obtain ⟨o,ho,r⟩:=hl;exact ⟨o,O.base _ _ ho,r⟩
  cases hx:(ns.map V.int)[i]? with
  | some v =>
   obtain ⟨x,hx',rx⟩:=rs.get hx
   refine wpAny_pyNext_list_item hi hL (by simpa using hx') fun h' hi' hs=>?_
   have B:=same (tk:=s.toks) hs (A4 _)
   exact hitem v x _ hx (B.val hoI hdI rx) B (.frz hl hn hi')
  | none =>
   have hx':items[i]? = none:=by
    rw [List.getElem?_eq_none_iff] at hx ⊢
    rw [<- rs.length];exact hx
   exact tJ (wpAny_pyNext_list_end hh hi hL (by simpa using hx') fun h' he hz=>hend _ hx (ext he hz))
 | @str l ty t _ _ _ ht hi =>
  cases hx:l[i]? with
  | some c =>
   have hx':(Str.mk l.toArray).cps[i]? = some c:=by simpa using hx
   have hat:(Mini.It.fix (l.map fun c=>V.str [c])).at H i=some (.str [c]):=by simp [Mini.It.at,hx]
   rcases ht with rfl | rfl
   ·refine wpAny_pyNext_ascii_item hi hx' fun h' hi' hs=>?_
    exact hitem _ _ _ hat (kO (by simp [Mini.I3])) (same hs (B8 _)) (.str (Or.inl rfl) hi')
   ·refine wpAny_pyNext_wide_item hi hx' fun h' hi' hs=>?_
    exact hitem _ _ _ hat (kO (by simp [Mini.I3])) (same hs (B8 _)) (.str (Or.inr rfl) hi')
  | none =>
   have hx':(Str.mk l.toArray).cps[i]? = none:=by
    rw [List.getElem?_eq_none_iff] at hx
    simpa using hx
   have hat:(Mini.It.fix (l.map fun c=>V.str [c])).at H i=none:=by simp [Mini.It.at,hx]
   rcases ht with rfl | rfl
   ·exact tJ (wpAny_pyNext_ascii_end hh hi hx' fun h' he hz=>hend _ hat (ext he hz))
   ·exact tJ (wpAny_pyNext_wide_end hh hi hx' fun h' he hz=>hend _ hat (ext he hz))
 | @rng n _ _ _ hle hi =>
  by_cases hlt:i<n
  ·have hat:(Mini.It.fix ((List.range n).map fun k:Nat=>V.int (k:Int))).at H i=some (.int (i:Int)):=by simp [Mini.It.at,hlt]
   refine wpAny_pyNext_range_item hi (by lia) fun h' hi' hs=>?_
   refine hitem _ _ _ hat R4 (same hs (B8 _)) (.rng hlt ?_)
   have e1:((i:Int)+1)=((i+1:Nat):Int):=rfl
   have e2:((n:Int) - (i:Int) - 1)=(n:Int) - ((i+1:Nat):Int):=Int.sub_sub _ _ _
   rw [e1,e2] at hi'
   exact hi'
  ·have hat:(Mini.It.fix ((List.range n).map fun k:Nat=>V.int (k:Int))).at H i=none:=by simp [Mini.It.at];exact Mini.G9 (Nat.le_of_not_lt hlt)
   exact tJ (wpAny_pyNext_range_end hh hi (by lia) fun h' he hz=>hend _ hat (ext he hz))
theorem Ce6 {φ:List Addr}{H:Mini.Heap}{s:Shared}{v:V}{x:Value}{it:Mini.It}{K:Value->Shared->Prop}{EX:Value->Shared->Prop}(O:Ok X.h₀ φ H s.heap) (r:E7 X.h₀ φ s.heap v x) (h:Mini.iterV v=some it)
  (k:∀ o s',s'={ s with heap:=s.heap.push o }->ItOk X φ it s.heap.objs.size 0 s'.heap->I4 X.h₀ φ s φ H s'->K (.ref s.heap.objs.size) s'):wpAny (M1 X) A (pyIter x) K EX s:=by
 cases v with
 | ref a =>
  cases h
  obtain ⟨p,hp,rfl⟩:=J9 r
  obtain ⟨vs,n,e⟩:=O.mem (B9 hp)
  exact wpAny_pyIter_list ⟨_,e,rfl,n,rfl⟩ (k _ _ rfl (.lst hp ⟨_,Heap.get?_push_size _ rfl,rfl,rfl⟩) (I4.push (tk:=s.toks) O))
 | frz a0 =>
  cases h
  obtain ⟨_,a,vs,rfl,hl,hn⟩:=dH r
  have hL:s.heap.IsList a vs.toArray:=by obtain ⟨o,ho,r⟩:=hl;exact ⟨o,O.base _ _ ho,r⟩
  exact wpAny_pyIter_list hL (k _ _ rfl (.frz hl hn ⟨_,Heap.get?_push_size _ rfl,rfl,rfl⟩) (I4.push (tk:=s.toks) O))
 | str l =>
  cases h
  obtain ⟨t,rfl⟩:=I2 r
  cases ha:(Str.mk l.toArray).cps.all (· < 128) with
  | true=>exact wpAny_pyIter_ascii ha (k _ _ rfl (.str (Or.inl rfl) ⟨_,Heap.get?_push_size _ rfl,rfl,rfl⟩) (I4.push (tk:=s.toks) O))
  | false=>exact wpAny_pyIter_wide ha (k _ _ rfl (.str (Or.inr rfl) ⟨_,Heap.get?_push_size _ rfl,rfl,rfl⟩) (I4.push (tk:=s.toks) O))
 | _=>exact nomatch (show Option.none=some _ from h)
theorem Ce5 {φ:List Addr}{s:Shared}{it:Mini.It}{I:Addr}{i:Nat}{K:Value->Shared->Prop}{EX:Value->Shared->Prop}(W:ItOk X φ it I i s.heap) (k:K (.ref I) s):wpAny (M1 X) A (pyIter (.ref I)) K EX s:=by
 cases W with
 | lst hp hi=>exact wpAny_pyIter_listiter hi k
 | frz hl hn hi=>exact wpAny_pyIter_listiter hi k
 | str ht hi =>
  rcases ht with rfl | rfl
  ·exact wpAny_pyIter_striter_ascii hi k
  ·exact wpAny_pyIter_striter_wide hi k
 | rng hle hi=>exact wpAny_pyIter_rangeiter hi k
set_option tactic.hygienic true in
theorem Bt7 {φ:List Addr}{H:Mini.Heap}{s:Shared}{v:V}{x:Value}{it:Mini.It}{K:Value->Shared->Prop}{EX:Value->Shared->Prop}(O:Ok X.h₀ φ H s.heap) (r:E7 X.h₀ φ s.heap v x) (h:Mini.rangeV v=some it)
  (k:∀ I s',s.heap.objs.size<=I->ItOk X φ it I 0 s'.heap->I4 X.h₀ φ s φ H s'->K (.ref I) s'):wpAny (M1 X) A (call (.type "range") [x]) (fun y s₁=>wpAny (M1 X) A (pyIter y) K EX s₁) EX s:=by
 unfold Mini.rangeV at h
 split at h
 ·rename_i n
  split at h
  ·rename_i hn
   cases h
   obtain ⟨t,rfl⟩:=E3 r
   refine call_range_1 ?_
   have F1:I4 X.h₀ φ s φ H { s with heap:=s.heap.push { cls:=.type "range",data:=.fields #[.int 0 s.toks,.int n t,.int 1 (s.toks+1)] },toks:=s.toks+1+1 }:=I4.push O
   ·refine wpAny_pyIter_range (IsRange.new ..) (small_one (by lia) (by lia) (by lia) (by lia)) ?_
    have F2:=I4.push (ob:={ cls:=.type "range_iterator",data:=.fields #[rawInt 0,rawInt (Builtin.Range.rangeSize 0 n 1),rawInt 1] }) (tk:=s.toks+1+1) F1.ok
    refine k _ _ ?_ (.rng (B0 _) ?_) (F1.trans F2)
    ·show s.heap.objs.size<=(s.heap.push _).objs.size
     rw [Heap.size_push];exact B8 _
    ·have e:Builtin.Range.rangeSize 0 n 1=((n.toNat:Nat):Int) - ((0:Nat):Int):=by
      rw [rangeSize_one];split<;>lia
     rw [e]
     exact Heap.get?_push_size _ rfl
  ·cases h
 ·cases h
end
end MiniS
namespace MiniS
open PySem PySem.Calls PyProof.Rows
open Mini (V D)
noncomputable def V0 (env:Env):List (Str×NameKind)->List (Str×Addr)->List (Str×Addr)
 | [],acc=>acc
 | (n,k)::r,acc=>if k==.free then V0 env r ((n,(env.cells.lookup n).getD 0)::acc) else V0 env r acc
theorem wT (env:Env) (f:Str×NameKind->List (Str×Addr)->Sem (ForInStep (List (Str×Addr)))) (hf:∀ n k cs,f (n,k) cs=if k==.free then (do let a <- cellOf env n;pure (.yield ((n,a)::cs))) else pure (.yield cs)) :
  ∀ (names:List (Str×NameKind)) (acc:List (Str×Addr)),(∀ x∈names,x.2=.free->(env.cells.lookup x.1).isSome=true)->(forIn names acc f:Sem (List (Str×Addr)))=pure (V0 env names acc)
 | [],acc,_=>by rw [List.forIn_nil];rfl
 | (n,k)::r,acc,h=>by
  rw [List.forIn_cons,hf]
  unfold V0
  cases hk:k==NameKind.free with
  | false =>
   simp only [Bool.false_eq_true,if_false]
   show (forIn r acc f:Sem _)=_
   exact wT env f hf r acc fun x hx=>h x (List.mem_cons_of_mem _ hx)
  | true =>
   simp only [if_true]
   have hs:=h (n,k) (by simp) (by simpa using hk)
   obtain ⟨c,hc⟩:=Option.isSome_iff_exists.mp hs
   have e:cellOf env n=pure c:=by unfold cellOf;simp only at hc;rw [hc]
   rw [e]
   simp only at hc
   rw [hc]
   show (forIn r ((n,c)::acc) f:Sem _)=_
   exact wT env f hf r _ fun x hx=>h x (List.mem_cons_of_mem _ hx)
theorem tC {scope:Scope}{env:Env}(h:∀ x∈scope.names,x.2=.free->(env.cells.lookup x.1).isSome=true):closureFor scope env=pure (V0 env scope.names []):=by
 unfold closureFor
 have:=wT env (fun x cs=>match x with | (name,kind)=>if kind==.free then (do let a <- cellOf env name;pure (.yield ((name,a)::cs))) else pure (.yield cs)) (fun n k cs=>rfl) scope.names [] h
 show (do let s <- forIn scope.names [] _;pure s)=_
 rw [this]
 rfl
theorem lJ (env:Env):∀ (names:List (Str×NameKind)) (acc:List (Str×Addr)),(∀ x∈names,x.2=.free->(env.cells.lookup x.1).isSome=true)->(∀ x c,acc.lookup x=some c->env.cells.lookup x=some c) ->
  ∀ x c,(V0 env names acc).lookup x=some c->env.cells.lookup x=some c
 | [],_,_,ha,x,c,h=>ha x c h
 | (n,k)::r,acc,hn,ha,x,c,h=>by
  unfold V0 at h
  split at h
  ·rename_i hk
   refine lJ env r _ (fun y hy=>hn y (List.mem_cons_of_mem _ hy)) (fun y d hd=>?_) x c h
   rw [List.lookup_cons] at hd
   split at hd
   ·rename_i e
    have e:y=n:=by simpa using e
    subst e
    cases hd
    obtain ⟨c',hc'⟩:=Option.isSome_iff_exists.mp (hn (y,k) (by simp) (by simpa using hk))
    simp only at hc'
    rw [hc'];rfl
   ·exact ha y d hd
  ·exact lJ env r acc (fun y hy=>hn y (List.mem_cons_of_mem _ hy)) ha x c h
theorem lK (env:Env):∀ (names:List (Str×NameKind)) (acc:List (Str×Addr)) (x:Str),((x,NameKind.free)∈names∨(acc.lookup x).isSome=true)->((V0 env names acc).lookup x).isSome=true
 | [],_,_,h=>by
  rcases h with h | h
  ·cases h
  ·exact h
 | (n,k)::r,acc,x,h=>by
  unfold V0
  split
  ·rename_i hk
   refine lK env r _ x ?_
   rcases h with h | h
   ·rcases List.mem_cons.mp h with h | h
    ·cases h;right;simp
    ·exact Or.inl h
   ·right
    rw [List.lookup_cons]
    split
    ·rfl
    ·exact h
  ·rename_i hk
   refine lK env r _ x ?_
   rcases h with h | h
   ·rcases List.mem_cons.mp h with h | h
    ·cases h;simp at hk
    ·exact Or.inl h
   ·exact Or.inr h
theorem mQ {scope:Scope}{env:Env}(hk:env.scope.kind=.function):(relabel scope env).names=Mini.R2 env.scope.names scope.names:=by
 unfold relabel Mini.R2
 simp only [hk]
 apply List.map_congr_left
 intro x _
 obtain ⟨n,k⟩:=x
 simp [Env.kindOf]
theorem jQ {sc:List (Str×NameKind)}:∀ {names:List (Str×NameKind)}{z:Str}{k:NameKind},(Mini.R2 sc names).lookup z=some k->∃ k',names.lookup z=some k'/\(k=k'∨(k'=.free/\k=.cell))
 | [],_,_,h=>by simp [Mini.R2] at h
 | (n,k0)::r,z,k,h=>by
  unfold Mini.R2 at h
  simp only [List.map_cons] at h
  by_cases hz:z=n
  ·subst hz
   by_cases hc:(k0==NameKind.free&&sc.lookup z==some NameKind.cell)=true
   ·rw [if_pos hc] at h
    simp at h
    refine ⟨k0,by simp,Or.inr ⟨?_,h.symm⟩⟩
    simp at hc;exact hc.1
   ·rw [if_neg hc] at h
    simp at h
    exact ⟨k0,by simp,Or.inl h.symm⟩
  ·have hb:(z==n)=false:=by simpa using hz
   have:(Mini.R2 sc r).lookup z=some k:=by
    unfold Mini.R2
    by_cases hc:(k0==NameKind.free&&sc.lookup n==some NameKind.cell)=true
    ·rw [if_pos hc] at h
     simpa [List.lookup_cons,hb] using h
    ·rw [if_neg hc] at h
     simpa [List.lookup_cons,hb] using h
   obtain ⟨k',e,q⟩:=jQ this
   exact ⟨k',by simp [List.lookup_cons,hb,e],q⟩
section
variable {X:Cx}{A:Around}{C:Mini.Calls}
structure Ak6 (env:Env) (nm:List Str) (id:Str) (scope:Scope):Prop where
 kind:scope.kind=.function
 loc:scope.names.lookup id=some .local
 nocell:∀ x∈scope.names,x.2≠.cell
 locs:∀ x∈scope.names,x.2=.local->scope.names.lookup x.1=some .local/\(x.1=id∨x.1 ∉ nm)
 frees:∀ x∈scope.names,x.2=.free->x.1∈nm/\(env.kindOf x.1=some .cell∨env.kindOf x.1=some .free)
theorem lI {env:Env}{nm:List Str}{id:Str}{scope:Scope}(h:Mini.Q9 env.scope.names nm id scope=true):Ak6 env nm id scope:=by
 unfold Mini.Q9 at h
 simp only [Bool.and_eq_true,List.all_eq_true,beq_iff_eq,bne_iff_ne,Bool.or_eq_true] at h
 obtain ⟨⟨⟨h1,h2⟩,h3⟩,h4⟩:=h
 refine ⟨h1,h2,fun x hx=>(h3 x hx).1,fun x hx hl=>?_,fun x hx hf=>?_⟩
 ·rcases (h3 x hx).2 with q | q
  ·exact absurd hl q
  ·refine ⟨q.1,q.2.imp _root_.id fun q=>by simpa using q⟩
 ·rcases h4 x hx with q | q
  ·exact absurd hf q
  ·exact ⟨by simpa using q.1,q.2⟩
end
end MiniS
namespace MiniS
open PySem PySem.Calls PyProof.Rows
open Mini (V D)
theorem fF.ok' {h₀ φ H a s s'}{o:Obj}(B:fF a s s') (K:Ok h₀ φ H s.heap) (hna:a ∉ φ) (ho:s.heap.get? a=some o) (ht:¬ N8 o) (hab:h₀.objs.size<=a):Ok h₀ φ H s'.heap:=by
 have tups:∀ b o,N8 o->s.heap.get? b=some o->s'.heap.get? b=some o:=fun b o' h e=>B.keep b o' (by
  rintro rfl
  rw [e] at ho;cases ho;exact ht h) e
 refine ⟨fun b o e=>B.keep b o (fun q=>?_) (K.base b o e),K.len,K.nodup,K.above,K.small,A3 K.room B.size,fun i b l hi hl=>?_⟩
 ·subst q;exact absurd (Heap.lt_size e) (Nat.not_lt.mpr hab)
 ·obtain ⟨vs',⟨n,e⟩,r⟩:=K.lists i b l hi hl
  have hb:b≠a:=fun q=>hna (q▸B9 hi)
  exact ⟨vs',⟨n,B.keep b _ hb e⟩,C7.mono (fun zz zz q=>q) tups l r⟩
theorem fF.val' {h₀ φ a s s'}{o:Obj}(B:fF a s s') (ho:s.heap.get? a=some o) (ht:¬ N8 o) {v:V}{x:Value}(r:E7 h₀ φ s.heap v x):E7 h₀ φ s'.heap v x :=
 E7.mono (fun zz zz q=>q) (fun b o' h e=>B.keep b o' (by
  rintro rfl
  rw [e] at ho;cases ho;exact ht h) e) v r
theorem fF.vals' {h₀ φ a s s'}{o:Obj}(B:fF a s s') (ho:s.heap.get? a=some o) (ht:¬ N8 o) {v:List V}{x:List Value}(r:C7 h₀ φ s.heap v x):C7 h₀ φ s'.heap v x :=
 C7.mono (fun zz zz q=>q) (fun b o' h e=>B.keep b o' (by
  rintro rfl
  rw [e] at ho;cases ho;exact ht h) e) v r
theorem fF.env' {X:Cx}{φ nm env ρ a s s'}{o:Obj}(B:fF a s s') (L:E5 X φ nm env ρ s) (ho:s.heap.get? a=some o) (ht:¬ N8 o) (hd1:∀ es ep,o.data≠.dict es ep) (hd2:∀ ov,o.data≠.cell ov):E5 X φ nm env ρ s':=by
 have hr:∀ v x,E7 X.h₀ φ s.heap v x->E7 X.h₀ φ s'.heap v x:=fun v x r=>B.val' ho ht r
 have hcell:∀ c ov,s.heap.IsCell c ov->s'.heap.IsCell c ov:=fun c ov hc=>by
  obtain ⟨oc,hoc,hdc⟩:=hc
  refine ⟨oc,B.keep c oc (fun q=>?_) hoc,hdc⟩
  subst q
  rw [ho] at hoc;cases hoc;exact hd2 _ hdc
 refine ⟨L.kind,L.glob,L.blt,L.len,L.nodup,fun hp=>A8 (L.pos hp) B.toks,?_,?_,L.above,L.aboveC,fun x c hc=>?_,L.apart⟩
 ·obtain ⟨m,⟨ol,es,ep,hol,hdl,q⟩,hm⟩:=L.locals
  have hn:env.locals≠a:=fun e=>by
   rw [e,ho] at hol;cases hol;exact hd1 _ _ hdl
  exact ⟨m,⟨ol,es,ep,B.keep _ _ hn hol,hdl,q⟩,fun i x hx hk=>⟨(hm i x hx hk).1.mono hr,(hm i x hx hk).2.mono B.toks⟩⟩
 ·intro i x hx hk
  obtain ⟨c,ov,hc,hcl,r,lr⟩:=L.cells i x hx hk
  exact ⟨c,ov,hc,hcell c ov hcl,r.mono hr,lr.mono B.toks⟩
 ·obtain ⟨ov,hcl⟩:=L.cellAll x c hc
  exact ⟨ov,hcell c ov hcl⟩
theorem I4.but {h₀ φ₀ s₀ φ H a s s'}(F:I4 h₀ φ₀ s₀ φ H s) (B:fF a s s') (ha:s₀.heap.objs.size<=a) (O:Ok h₀ φ H s'.heap):I4 h₀ φ₀ s₀ φ H s':=by
 obtain ⟨⟨⟨h1,t1,e1⟩,k1,z1,w1⟩,g1,_⟩:=F
 obtain ⟨⟨h2,t2,e2⟩,k2,z2,w2⟩:=B
 exact ⟨⟨⟨h2,t2,by rw [e2,e1]⟩,fun b o hb e=>k2 b o (fun q=>by
  subst q;exact absurd (Heap.lt_size e) (Nat.not_lt.mpr ha)) (k1 b o hb e),A3 z1 z2,A3 w1 w2⟩,g1,O⟩
theorem fF.of_same {a:Addr}{s:Shared}{h':Heap}{tk:Nat}(hs:Heap.SameBut a s.heap h') (ht:s.toks<=tk:=by first | exact A4 _ | exact B8 _):fF a s { s with heap:=h',toks:=tk } :=
 ⟨⟨_,_,rfl⟩,fun b o hb e=>(hs.2 b hb).trans e,Nat.le_of_eq hs.1.symm,ht⟩
theorem R0 {o:Obj}{es:Array DictEntry}{ep}(h:o.data=.dict es ep):¬ N8 o:=by
 rintro ⟨_,vs,n,e⟩;rw [h] at e;cases e
theorem Z0 {o:Obj}{vs:Array Value}(h:o.data=.fields vs):¬ N8 o:=by
 rintro ⟨_,vs,n,e⟩;rw [h] at e;cases e
theorem jR {o:Obj}(h:o.cls=.type "list"):¬ N8 o:=by
 rintro ⟨e,_⟩;rw [h] at e;simp at e
theorem Ok.add {h₀ φ H h}{a:Addr}{l:List V}{vs:List Value}(K:Ok h₀ φ H h) (hna:a ∉ φ) (hab:h₀.objs.size<=a) (hp:h.PlainList a vs.toArray) (r:C7 h₀ φ h l vs) (hl:l.length<=Mini.I3):Ok h₀ (φ++[a]) (H++[l]) h:=by
 have hi:∀ (i:Nat) (b:Addr),φ[i]? = some b->(φ++[a])[i]? = some b:=fun i b e=>by
  rw [List.getElem?_append_left (List.getElem?_eq_some_iff.mp e).1];exact e
 refine ⟨K.base,by simp [K.len],?_,?_,?_,K.room,?_⟩
 ·rw [List.nodup_append]
  refine ⟨K.nodup,by simp,fun b hb c hc=>?_⟩
  simp at hc;subst hc
  rintro rfl;exact hna hb
 ·intro b hb
  rcases List.mem_append.mp hb with q | q
  ·exact K.above b q
  ·simp at q;subst q;exact hab
 ·intro l' hl'
  rcases List.mem_append.mp hl' with q | q
  ·exact K.small l' q
  ·simp at q;subst q;exact hl
 ·intro i b l' e el
  by_cases hlt:i<φ.length
  ·rw [List.getElem?_append_left hlt] at e
   rw [List.getElem?_append_left (by rw [<- K.len];exact hlt)] at el
   obtain ⟨vs',p,r'⟩:=K.lists i b l' e el
   exact ⟨vs',p,C7.mono hi (fun a o zz q=>q) l' r'⟩
  ·have hle:φ.length<=i:=Nat.le_of_not_lt hlt
   rw [List.getElem?_append_right hle] at e
   rw [List.getElem?_append_right (by rw [<- K.len];exact hle)] at el
   have:i - φ.length=0:=by
    cases h:i - φ.length with
    | zero=>rfl
    | succ k=>rw [h] at e;simp at e
   rw [this] at e
   rw [<- K.len,this] at el
   simp at e el
   subst e;subst el
   exact ⟨vs,hp,C7.mono hi (fun a o zz q=>q) _ r⟩
theorem I4.add {h₀ φ₀ s₀ φ H s}{a:Addr}{l:List V}{vs:List Value}(F:I4 h₀ φ₀ s₀ φ H s) (hna:a ∉ φ) (ha:s₀.heap.objs.size<=a) (hab:h₀.objs.size<=a) (hp:s.heap.PlainList a vs.toArray) (r:C7 h₀ φ s.heap l vs) (hl:l.length<=Mini.I3) :
  I4 h₀ φ₀ s₀ (φ++[a]) (H++[l]) s:=by
 obtain ⟨st,⟨ψ,g,m⟩,O⟩:=F
 refine ⟨st,⟨ψ++[a],by rw [g,A7],fun b hb=>?_⟩,O.add hna hab hp r hl⟩
 rcases List.mem_append.mp hb with q | q
 ·exact m b q
 ·simp at q;subst q;exact ha
section
variable {X:Cx}{A:Around}{C:Mini.Calls}
theorem Ag0 {env:Env}{nm:List Str}{ρ:Mini.D7}{φ:List Addr}{s:Shared}{K:Unit->Shared->Prop}{EX:Value->Shared->Prop}{id:Str}{x:Nat}{v:V}{y:Value}
  (L:E5 X φ nm env ρ s) (hx:nm[x]? = some id) (e:env.kindOf id=some .local) (hxlit:x ∉ X.gl.lits)
  (r:E7 X.h₀ φ s.heap v y) (k:∀ s',fF env.locals s s'->E5 X φ nm env (ρ.set x (some v)) s'->K () s'):wpAny (M1 X) A (storeName env id y) K EX s:=by
 have hxl:x<ρ.length:=by rw [L.len];exact (List.getElem?_eq_some_iff.mp hx).1
 have hone:∀ (i:Nat) (z:Str),nm[i]? = some z->z=id->i=x:=fun i z hz e=>by
  subst e
  exact (List.getElem?_inj (List.getElem?_eq_some_iff.mp hz).1 L.nodup).mp (hz.trans hx.symm)
 have hother:∀ (i:Nat) (z:Str),nm[i]? = some z->z≠id->i≠x:=fun i z hz e q=>by
  subst q
  rw [hx] at hz;cases hz;exact e rfl
 obtain ⟨m,hns,hm⟩:=L.locals
 obtain ⟨o,es,ep,ho,hd,_⟩:=_root_.id hns
 refine wpAny_storeName_local e hns (fun h' hn hs=>?_) (by rw [L.kind];rfl)
 have B:fF env.locals s { s with heap:=h',toks:=s.toks+1 }:=fF.of_same hs
 have hr:∀ v x,E7 X.h₀ φ s.heap v x->E7 X.h₀ φ h' v x:=fun v x q=>B.val' ho (R0 hd) q
 refine k _ B ?_
 refine ⟨L.kind,L.glob,L.blt,by simp [L.len],L.nodup,fun hp=>A8 (L.pos hp) (B8 _),⟨_,hn,fun i z hz hk=>?_⟩,fun i z hz hk=>?_,L.above,L.aboveC,fun z c hc=>?_,L.apart⟩
 ·by_cases hzi:z=id
  ·have:=hone i z hz hzi
   subst this
   rw [cD hxl,if_pos hzi]
   exact ⟨⟨y,rfl,hr _ _ r⟩,fun hi=>absurd hi hxlit⟩
  ·rw [V5 (Ne.symm (hother i z hz hzi)),if_neg hzi]
   exact ⟨(hm i z hz hk).1.mono hr,(hm i z hz hk).2.mono (B8 _)⟩
 ·obtain ⟨c,ov,hc,⟨oc,hoc,hdc⟩,q,lr⟩:=L.cells i z hz hk
  have hzi:z≠id:=by
   rintro rfl
   rw [e] at hk
   rcases hk with hk | hk<;>cases hk
  have hcl:c≠env.locals:=by
   rintro rfl
   rw [ho] at hoc;cases hoc;rw [hd] at hdc;cases hdc
  rw [V5 (Ne.symm (hother i z hz hzi))]
  exact ⟨c,ov,hc,⟨oc,(hs.2 c hcl).trans hoc,hdc⟩,q.mono hr,lr.mono (B8 _)⟩
 ·obtain ⟨ov,oc,hoc,hdc⟩:=L.cellAll z c hc
  have hcl:c≠env.locals:=by
   rintro rfl
   rw [ho] at hoc;cases hoc;rw [hd] at hdc;cases hdc
  exact ⟨ov,oc,(hs.2 c hcl).trans hoc,hdc⟩
theorem Bt8 {env:Env}{nm:List Str}{ρ:Mini.D7}{φ:List Addr}{s:Shared}{id:Str}{x:Nat}{scope:Scope}{Ca:Addr}(L:E5 X φ nm env ρ s) (W:Ak6 env nm id scope) (hx:nm[x]? = some id)
  (hn:s.heap.Ns Ca fun zz=>none) (hab:X.h₀.objs.size<=Ca) :
  E5 X φ nm (compEnvC scope (V0 env scope.names []) Ca env) (ρ.set x none) s:=by
 have hclos:∀ y∈scope.names,y.2=.free->(env.cells.lookup y.1).isSome=true:=fun y hy hf=>by
  obtain ⟨hm,hk⟩:=W.frees y hy hf
  obtain ⟨i,hi⟩:=List.getElem?_of_mem hm
  obtain ⟨c,ov,hc,_⟩:=L.cells i _ hi hk
  rw [hc];rfl
 have hsub:=lJ env scope.names [] hclos (fun x c h=>by simp at h)
 have hlook:∀ z k,(compEnvC scope (V0 env scope.names []) Ca env).kindOf z=some k->∃ k',scope.names.lookup z=some k'/\(k=k'∨(k'=.free/\k=.cell)):=fun z k h=>by
  have h:(relabel scope env).names.lookup z=some k:=h
  rw [mQ L.kind] at h
  exact jQ h
 refine ⟨W.kind,L.glob,L.blt,by simp [L.len],L.nodup,L.pos,⟨_,hn,fun i z hz hk=>?_⟩,fun i z hz hk=>?_,hab,fun z c hc=>L.aboveC z c (hsub z c hc),fun z c hc=>L.cellAll z c (hsub z c hc),fun y z c hy hz=>L.apart y z c (hsub y c hy) (hsub z c hz)⟩
 ·obtain ⟨k',hk',e⟩:=hlook z _ hk
  rcases e with rfl | ⟨_,e⟩
  ·obtain ⟨_,e | e⟩:=W.locs (z,.local) (mem_of_lookup hk') rfl
   ·have:i=x:=by
     simp only at e;subst e
     exact (List.getElem?_inj (List.getElem?_eq_some_iff.mp hz).1 L.nodup).mp (hz.trans hx.symm)
    subst this
    refine ⟨?_,fun zz y hy=>by cases hy⟩
    rw [List.getElem?_set_self (by rw [L.len];exact (List.getElem?_eq_some_iff.mp hz).1)]
    trivial
   ·exact absurd (B9 hz) e
  ·cases e
 ·have hf:scope.names.lookup z=some .free:=by
   rcases hk with hk | hk
   ·obtain ⟨k',hk',e⟩:=hlook z _ hk
    rcases e with rfl | ⟨rfl,_⟩
    ·exact absurd rfl (W.nocell _ (mem_of_lookup hk'))
    ·exact hk'
   ·obtain ⟨k',hk',e⟩:=hlook z _ hk
    rcases e with rfl | ⟨rfl,_⟩
    ·exact hk'
    ·exact hk'
  obtain ⟨hm,hk2⟩:=W.frees (z,.free) (mem_of_lookup hf) rfl
  obtain ⟨c,ov,hc,hcl,r,lr⟩:=L.cells i z hz hk2
  obtain ⟨c',hc'⟩:=Option.isSome_iff_exists.mp (lK env scope.names [] z (Or.inl (mem_of_lookup hf)))
  have e:=hsub z c' hc'
  rw [hc] at e;cases e
  have hix:i≠x:=by
   rintro rfl
   rw [hx] at hz;cases hz
   rw [W.loc] at hf;cases hf
  refine ⟨c,ov,hc',hcl,?_,lr⟩
  rw [List.getElem?_set_ne (Ne.symm hix)];exact r
theorem mK {env:Env}:∀ (ifs:List Expr),(forIn ifs false fun c r=>if r=true then do let ok <- isTrue c env (eval c env);pure (ForInStep.yield ok) else pure (ForInStep.yield r):Sem Bool)=pure false
 | []=>rfl
 | c::ifs=>by
  rw [List.forIn_cons]
  simp only [Bool.false_eq_true,if_false]
  show (forIn ifs false _:Sem Bool)=_
  have:=mK (env:=env) ifs
  simpa using this
theorem tS:∀ (ifs:List Mini.E) (ifs':List Expr) (env:Env) (nm:List Str) (ρ:Mini.D7) (Q:Bool->Mini.Heap->Prop) (H:Mini.Heap) (φ:List Addr) (s:Shared) (K:Bool->Shared->Prop) (EX:Value->Shared->Prop),
  (∀ e∈ifs,X0 X A C e)->Mini.J8 X.gl env.scope.names nm ifs ifs'=true->E5 X φ nm env ρ s->Ok X.h₀ φ H s.heap->Mini.P6 C ifs ρ Q H ->
  (∀ b H' φ' s',Q b H'->I4 X.h₀ φ s φ' H' s'->K b s') ->
  wpAny (M1 X) A (forIn ifs' true fun c r=>if r=true then do let ok <- isTrue c env (eval c env);pure (ForInStep.yield ok) else pure (ForInStep.yield r)) K EX s
 | [],ifs',env,nm,ρ,Q,H,φ,s,K,EX,_,hc,L,O,h,k=>by
  cases ifs' with
  | cons _ _=>nomatch hc
  | nil =>
   exact wpAny_tests_nil (k _ _ _ _ h (I4.refl O))
 | e::es,ifs',env,nm,ρ,Q,H,φ,s,K,EX,hs,hc,L,O,h,k=>by
  cases ifs' with
  | nil=>nomatch hc
  | cons re res =>
   replace hc:=Mini.C3 hc
   rw [List.forIn_cons]
   simp only [if_true]
   refine wpAny_bind (wpAny_bind (hs e (by simp) re env nm ρ _ H φ s _ EX hc.1 L O h fun b H1 φ1 s1 q F1=>wpAny_pure ?_))
   cases b with
   | false =>
    show wpAny (M1 X) A (forIn res false _) K EX s1
    exact wpAny_of_eq (mK (env:=env) res) (k _ _ _ _ q F1)
   | true =>
    exact tS es res env nm ρ Q H1 φ1 s1 K EX (fun e' he'=>hs e' (List.mem_cons_of_mem _ he')) hc.2 (L.fwd O F1) F1.ok q fun b H2 φ2 s2 q2 F2=>k _ _ _ _ q2 (F1.trans F2)
structure Ce8 (X:Cx) (Q:List V->Mini.Heap->Prop) (φ₀:List Addr) (s₀:Shared) (Da Ca:Addr) (s':Shared):Prop where
 ex:∃ acc H' φ' vs m,Q acc H'/\I4 X.h₀ φ₀ s₀ φ' H' s'/\Da ∉ φ'/\s'.heap.PlainList Da vs.toArray/\C7 X.h₀ φ' s'.heap acc vs/\acc.length<=Mini.I3/\s'.heap.Ns Ca m
 D:s₀.heap.objs.size<=Da
 C:s₀.heap.objs.size<=Ca
 ne:Da≠Ca
theorem tX (hh:A.handled=none) {elt:Mini.E}{ifs:List Mini.E}(he:E4 X A C elt) (ht:∀ e∈ifs,X0 X A C e)
  {env:Env}{nm:List Str}{ρ:Mini.D7}{φ:List Addr}{H:Mini.Heap}{s₀ s:Shared}{I:Addr}{it:Mini.It}{x n:Nat}{id:Str}{scope:Scope}{elt' iter:Expr}{ifs':List Expr}{pos px:Pos}
  {Q:List V->Mini.Heap->Prop}{R:Value->Addr->Result->Shared->Prop}{EX:Value->Shared->Prop}
  (L:E5 X φ nm env ρ s) (F0:I4 X.h₀ φ s₀ φ H s) (hroom:X.h₀.objs.size<=s₀.heap.objs.size) (W:ItOk X φ it I 0 s.heap) (hI:s₀.heap.objs.size<=I) (hx:nm[x]? = some id) (hlit:X.gl.lits.contains x=false)
  (hsc:Mini.Q9 env.scope.names nm id scope=true) (h1:Mini.D5 X.gl (Mini.R2 env.scope.names scope.names) nm elt elt'=true) (h2:Mini.J8 X.gl (Mini.R2 env.scope.names scope.names) nm ifs ifs'=true)
  (hwp:Mini.S9 (Mini.P6 C ifs) (Mini.E2 C elt) x ρ it n 0 [] Q H) (k:∀ Da Ca s',Ce8 X Q φ s₀ Da Ca s'->R (.ref Da) Ca (.ok .next) s') :
  wpAny (M1 X) A (newList []) (fun acc s₃ =>
   wpAny (M1 X) A (newFunctionEnv scope env.globals (V0 env scope.names []) [] env.qual none .none (some env)) (fun cenv s₄ =>
    codeAny (M1 X) A (.compStart (.ListComp elt' [⟨.Name id px,iter,ifs',0⟩] scope pos) 0 (.ref I) acc { cenv with scope:=relabel scope env }) (R acc cenv.locals) s₄) EX s₃) EX s:=by
 have CW:=lI hsc
 have hkd:(compEnvC scope (V0 env scope.names []) default env).scope.kind=.function:=CW.kind
 refine wpAny_newObj_type (hd:=lC (by simp)) (wpAny_newFunctionEnv CW.nocell (by intro y hy;simp at hy) (fun h₁ hns hsb=>?_) CW.kind)
 dsimp only at hns hsb ⊢
 generalize hH2:s.heap.push { cls:=.type "list",dict:=none,data:=.seq ([]:List Value).toArray }=H2 at hns hsb ⊢
 have hC:H2.objs.size=s.heap.objs.size+1:=by rw [<- hH2,Heap.size_push]
 generalize hDa:s.heap.objs.size=Da at hC ⊢
 generalize hCa:H2.objs.size=Ca at hC hns hsb ⊢
 have hz0:=F0.step.size
 have hIlt:@LT.lt Nat _ I Da:=by
  obtain ⟨o,vs,ho,_⟩:=W.obj
  rw [<- hDa];exact Heap.lt_size ho
 have hC:@Eq Nat Ca (Da+1):=hC
 have hDa:@Eq Nat s.heap.objs.size Da:=hDa
 have hDC:@LT.lt Nat _ Da Ca:=by rw [hC];exact B1 _
 have old:∀ b o,s.heap.get? b=some o->h₁.get? b=some o:=fun b o e=>by
  have:=Heap.lt_size e
  have hne:b≠Ca:=by
   have:@LT.lt Nat _ b s.heap.objs.size:=this
   exact Nat.ne_of_lt (Nat.lt_trans (hDa▸this) hDC)
  exact hsb.extBut b o hne (Heap.get?_push_of_some _ (hH2▸Heap.get?_push_of_some _ e))
 have hDCne:Da≠Ca:=Nat.ne_of_lt hDC
 have hDIne:Da≠I:=Nat.ne_of_gt hIlt
 have hICne:I≠Ca:=Nat.ne_of_lt (Nat.lt_trans hIlt hDC)
 have zD:s₀.heap.objs.size<=Da:=A3 hI (B5 hIlt)
 have zC:s₀.heap.objs.size<=Ca:=A3 zD (B5 hDC)
 have zC0:X.h₀.objs.size<=Ca:=A3 hroom zC
 have zD0:X.h₀.objs.size<=Da:=A3 hroom zD
 have zI0:X.h₀.objs.size<=I:=A3 hroom hI
 have hDobj:h₁.PlainList Da ([]:List Value).toArray:=⟨0,hsb.extBut _ _ hDCne (Heap.get?_push_of_some _ (hH2▸hDa▸Heap.get?_push_size _ rfl))⟩
 have hz1:@LT.lt Nat _ Ca h₁.objs.size:=hns.lt
 have F1:I4 X.h₀ φ s φ H { s with heap:=h₁,toks:=s.toks+([]:List (Str×Value)).length }:=I4.ext F0.ok old (by show @LE.le Nat _ s.heap.objs.size h₁.objs.size;rw [hDa];exact B5 (Nat.lt_trans hDC hz1)) (A4 _)
 have L1:=Bt8 (Ca:=Ca) (L.fwd F0.ok F1) CW hx (by simpa using hns) zC0
 have hna:∀ a,s.heap.objs.size<=a->a ∉ φ:=fun a ha hm=>absurd (F0.ok.lt hm) (Nat.not_lt.mpr ha)
 obtain ⟨oI,vI,hoI,hdI,hItk⟩:=W.obj
 let J:Nat->Shared->Prop:=fun k st=>∃ i acc H' φ' ov vs,Mini.S9 (Mini.P6 C ifs) (Mini.E2 C elt) x ρ it k i acc Q H'/\I4 X.h₀ φ s₀ φ' H' st /\
  E5 X φ' nm (compEnvC scope (V0 env scope.names []) Ca env) (ρ.set x ov) st/\ItOk X φ' it I i st.heap/\Da ∉ φ'/\st.heap.PlainList Da vs.toArray/\C7 X.h₀ φ' st.heap acc vs/\acc.length<=Mini.I3
 have hJ:J n { s with heap:=h₁,toks:=s.toks+([]:List (Str×Value)).length } :=
  ⟨0,[],H,φ,none,[],hwp,F0.trans F1,L1,hItk φ h₁ (fun zz zz q=>q) (old _ _ hoI),hna _ (Nat.le_of_eq hDa),hDobj,C7.nil,by simp⟩
 have names:(compEnvC scope (V0 env scope.names []) Ca env).scope.names=Mini.R2 env.scope.names scope.names:=mQ L.kind
 have kid:(compEnvC scope (V0 env scope.names []) Ca env).kindOf id=some .local:=lookup_relabel_local CW.loc
 have loop:∀ st,J n st->codeAny (M1 X) A (.compLoop (.ListComp elt' [⟨.Name id px,iter,ifs',0⟩] scope pos) 0 (.ref I) (.ref Da) (compEnvC scope (V0 env scope.names []) Ca env)) (R (.ref Da) Ca) st:=by
  intro st hst
  refine codeAny_compLoop_tests J (fun k0 st hst=>?_) n hst
  obtain ⟨i,acc,H',φ',ov,vs,hw,F,LE,WI,hD,hDp,rs,hlen⟩:=hst
  cases k0 with
  | zero=>exact False.elim hw
  | succ k0 =>
   replace hw:(match it.at H' i with | none=>_ | some v=>_):=hw
   obtain ⟨oJ,vJ,hoJ,hdJ,hJk⟩:=WI.obj
   refine Aw4 hh F.ok WI (fun v y s' hat ry B WI'=>?_) (fun s' hat B=>?_)
   ·rw [hat] at hw
    simp only at hw
    have hDI:Da≠I:=hDIne
    have O1:=B.ok F.ok hoJ hdJ zI0
    have F2:=F.but B hI O1
    have LE2:=B.env LE hoJ hdJ
    have hDp2:s'.heap.PlainList Da vs.toArray:=by obtain ⟨m,e⟩:=hDp;exact ⟨m,B.keep _ _ hDI e⟩
    have rs2:=B.vals' hoJ (Z0 hdJ) rs
    refine wpAny_assign_Name (Ag0 LE2 hx kid (by simpa using hlit) ry fun s2 B2 LE3=>?_)
    rw [List.set_set] at LE3
    obtain ⟨m2,⟨o2,es2,ep2,ho2,hd2,_⟩,_⟩:=LE2.locals
    have hCD:Da≠Ca:=hDCne
    have hIC:I≠Ca:=hICne
    have hCφ:Ca ∉ φ':=fun hm=>by
     obtain ⟨vs',n',e'⟩:=O1.mem hm
     have ho2:s'.heap.get? Ca=some o2:=ho2
     rw [e'] at ho2;cases ho2;cases hd2
    have O2:=B2.ok' O1 hCφ ho2 (R0 hd2) zC0
    have F3:=F2.but B2 zC O2
    have hDp3:s2.heap.PlainList Da vs.toArray:=by obtain ⟨m,e⟩:=hDp2;exact ⟨m,B2.keep _ _ hCD e⟩
    have rs3:=B2.vals' ho2 (R0 hd2) rs2
    obtain ⟨oK,vK,hoK,hdK,hKk⟩:=WI'.obj
    have WI2:=hKk φ' s2.heap (fun zz zz q=>q) (B2.keep _ _ hIC hoK)
    refine tS ifs ifs' _ nm _ _ H' φ' s2 _ _ ht (by rw [names];exact h2) LE3 O2 hw fun b H3 φ3 s3 q3 F4=>?_
    have hDφ:∀ {φa sa φb Hb sb},Da ∉ φa->(∃ m:Nat,sa.heap.get? Da=some { cls:=.type "list",data:=.seq vs.toArray m })->I4 X.h₀ φa sa φb Hb sb->Da ∉ φb:=fun h0 hm Fx hmem=>by
     obtain ⟨ψ,e,hψ⟩:=Fx.grow
     rw [e] at hmem
     rcases List.mem_append.mp hmem with q | q
     ·exact h0 q
     ·obtain ⟨m,em⟩:=hm
      exact absurd (Heap.lt_size em) (Nat.not_lt.mpr (hψ _ q))
    have LE4:=LE3.fwd O2 F4
    have hD4:Da ∉ φ3:=hDφ hD hDp3 F4
    have hDp4:s3.heap.PlainList Da vs.toArray:=by obtain ⟨m,e⟩:=hDp3;exact ⟨m,F4.step.keep _ _ hD e⟩
    have rs4:=F4.vals O2 rs3
    obtain ⟨oM,vM,hoM,hdM,hMk⟩:=WI2.obj
    have keepI:∀ {φa Ha sa φb Hb sb},Ok X.h₀ φa Ha sa.heap->ItOk X φa it I (i+1) sa.heap->I4 X.h₀ φa sa φb Hb sb->ItOk X φb it I (i+1) sb.heap:=fun Oa Wa Fx=>by
     obtain ⟨oN,vN,hoN,hdN,hNk⟩:=Wa.obj
     refine hNk _ _ Fx.idx (Fx.step.keep _ _ (fun hm=>?_) hoN)
     obtain ⟨vs',n',e'⟩:=Oa.mem hm
     rw [e'] at hoN;cases hoN;simp at hdN
    have WI4:=keepI O2 WI2 F4
    have F5:=F3.trans F4
    cases b with
    | false =>
     simp only at q3
     simp only [Bool.false_eq_true,if_false]
     exact ⟨k0,B1 _,i+1,acc,H3,φ3,_,vs,q3,F5,LE4,WI4,hD4,hDp4,rs4,hlen⟩
    | true =>
     simp only at q3
     simp only [if_true]
     refine he elt' _ nm _ _ H3 φ3 s3 _ _ (by rw [names];exact h1) LE4 F4.ok q3 fun w H6 φ6 y6 s6 q6 F6 r6=>?_
     obtain ⟨hlt,q6⟩:=q6
     have hD6:Da ∉ φ6:=hDφ hD4 hDp4 F6
     obtain ⟨m6,hDp6⟩:s6.heap.PlainList Da vs.toArray:=by obtain ⟨m,e⟩:=hDp4;exact ⟨m,F6.step.keep _ _ hD4 e⟩
     have rs6:=F6.vals F4.ok rs4
     have WI6:=keepI F4.ok WI4 F6
     have LE6:=LE4.fwd F4.ok F6
     have hz:vs.toArray.size<=sizeLine:=by rw [G7];simp [<- rs6.length];exact Mini.G9 hlen
     refine call_meets PySem.F.slot_list_append ⟨_,hDp6,rfl⟩ PySem.F.entry_list_append (PySem.F.args_list_append_2 _ _) (list_append Da _ m6 y6 hz) ⟨hDp6,?_⟩
     have B7:fF Da s6 { s6 with heap:=s6.heap.update Da (Obj.mapSeq fun xs=>xs.push y6),toks:=s6.toks }:=fF.of_same (Heap.SameBut.update s6.heap Da (Obj.mapSeq fun xs=>xs.push y6))
     have nt:¬ N8 { cls:=.type "list",data:=.seq vs.toArray m6 }:=jR rfl
     have O7:=B7.ok' F6.ok hD6 hDp6 nt zD0
     have F7:=(F5.trans F6).but B7 zD O7
     have hp7:PySem.Heap.PlainList (s6.heap.update Da (Obj.mapSeq fun xs=>xs.push y6)) Da (vs++[y6]).toArray:=⟨_,by
      have:=IsL.update hDp6 (fun xs=>xs.push y6)
      rwa [List.push_toArray] at this⟩
     have rs7:=B7.vals' hDp6 nt (rs6.append (C7.one r6))
     have LE7:=B7.env' LE6 hDp6 nt (fun zz zz h=>by cases h) (fun zz h=>by cases h)
     obtain ⟨oN,vN,hoN,hdN,hNk⟩:=WI6.obj
     refine ⟨k0,B1 _,i+1,acc++[w],H6,φ6,_,vs++[y6],q6,F7,LE7,hNk _ _ (fun zz zz q=>q) (B7.keep _ _ (Ne.symm hDI) hoN),hD6,hp7,rs7,by simp;exact Mini.G9 hlt⟩
   ·rw [hat] at hw
    simp only at hw
    have O1:=B.ok F.ok hoJ hdJ zI0
    have F2:=F.but B hI O1
    have LE2:=B.env LE hoJ hdJ
    obtain ⟨m2,hns2,_⟩:=LE2.locals
    have hDp2:s'.heap.PlainList Da vs.toArray:=by obtain ⟨m,e⟩:=hDp;exact ⟨m,B.keep _ _ hDIne e⟩
    exact k Da Ca s' ⟨⟨acc,H',φ',vs,m2,hw,F2,hD,hDp2,B.vals' hoJ (Z0 hdJ) rs,hlen,hns2⟩,zD,zC,hDCne⟩
 refine codeAny_compStart_list (loop _ hJ) (Ce5 (hItk φ h₁ (fun zz zz q=>q) (old _ _ hoI)) (loop _ hJ))
end
end MiniS
namespace MiniS
open PySem PySem.Calls PyProof.Rows
open Mini (V D)
theorem fF.env2 {X:Cx}{φ nm env ρ a s s'}{o:Obj}(B:fF a s s') (L:E5 X φ nm env ρ s) (ho:s.heap.get? a=some o) (ht:¬ N8 o) (hl:env.locals≠a) (hcs:∀ x,env.cells.lookup x≠some a):E5 X φ nm env ρ s':=by
 have hr:∀ v x,E7 X.h₀ φ s.heap v x->E7 X.h₀ φ s'.heap v x:=fun v x r=>B.val' ho ht r
 have hcell:∀ x c ov,env.cells.lookup x=some c->s.heap.IsCell c ov->s'.heap.IsCell c ov:=fun x c ov hx hc=>by
  obtain ⟨oc,hoc,hdc⟩:=hc
  exact ⟨oc,B.keep c oc (fun q=>hcs x (q▸hx)) hoc,hdc⟩
 refine ⟨L.kind,L.glob,L.blt,L.len,L.nodup,fun hp=>A8 (L.pos hp) B.toks,?_,?_,L.above,L.aboveC,fun x c hc=>?_,L.apart⟩
 ·obtain ⟨m,⟨ol,es,ep,hol,hdl,q⟩,hm⟩:=L.locals
  exact ⟨m,⟨ol,es,ep,B.keep _ _ hl hol,hdl,q⟩,fun i x hx hk=>⟨(hm i x hx hk).1.mono hr,(hm i x hx hk).2.mono B.toks⟩⟩
 ·intro i x hx hk
  obtain ⟨c,ov,hc,hcl,r,lr⟩:=L.cells i x hx hk
  exact ⟨c,ov,hc,hcell x c ov hc hcl,r.mono hr,lr.mono B.toks⟩
 ·obtain ⟨ov,hcl⟩:=L.cellAll x c hc
  exact ⟨ov,hcell x c ov hc hcl⟩
theorem At6 {gl sc nm e re}(h:Mini.D5 gl sc nm e re=true) (env:Env) (x:Value):foldedSetIterable re env x=pure x:=by
 have h:=(Mini.mE h).form
 cases re<;>first | rfl | nomatch h
section
variable {X:Cx}{A:Around}{C:Mini.Calls}
noncomputable def At8 (X:Cx) (φ:List Addr) (s:Shared) (Q:Mini.It->Mini.Heap->Prop) (s₁:Shared) (y:Value) (s₂:Shared):Prop :=
 ∃ it I H1 φ1,y=.ref I/\I4 X.h₀ φ s φ1 H1 s₁/\I4 X.h₀ φ1 s₁ φ1 H1 s₂/\ItOk X φ1 it I 0 s₂.heap/\s₁.heap.objs.size<=I/\Q it H1
theorem gT {src:Mini.E}(hs:E4 X A C src) {re:Expr}{env:Env}{nm:List Str}{ρ:Mini.D7}{φ:List Addr}{H:Mini.Heap}{s:Shared}{EX:Value->Shared->Prop}{Q:Mini.It->Mini.Heap->Prop}
  (hc:Mini.D5 X.gl env.scope.names nm src re=true) (L:E5 X φ nm env ρ s) (O:Ok X.h₀ φ H s.heap)
  (h:Mini.E2 C src ρ (fun v H₁=>match Mini.iterV v with
   | some it=>Q it H₁
   | none=>False) H):wpAny (M1 X) A (eval re env) (fun x s₁=>wpAny (M1 X) A (pyIter x) (At8 X φ s Q s₁) EX s₁) EX s:=by
 refine hs re env nm ρ _ H φ s _ EX hc L O h fun v H1 φ1 x s1 q F1 r=>?_
 cases hi:Mini.iterV v with
 | none=>simp only [hi] at q
 | some it =>
  simp only [hi] at q
  refine Ce6 F1.ok r hi fun o s' e W F2=>⟨it,_,H1,φ1,rfl,F1,F2,W,A4 _,q⟩
theorem dZ (G:cR X) {src:Mini.E}(hs:E4 X A C src) {re fn:Expr}{p:Pos}{env:Env}{nm:List Str}{ρ:Mini.D7}{φ:List Addr}{H:Mini.Heap}{s:Shared}{EX:Value->Shared->Prop}{Q:Mini.It->Mini.Heap->Prop}
  (hf:Mini.Q4 env.scope.names "range" fn=true) (hc:Mini.D5 X.gl env.scope.names nm src re=true) (L:E5 X φ nm env ρ s) (O:Ok X.h₀ φ H s.heap)
  (h:Mini.E2 C src ρ (fun v H₁=>match Mini.rangeV v with
   | some it=>Q it H₁
   | none=>False) H):wpAny (M1 X) A (eval (.Call fn [re] [] p) env) (fun x s₁=>wpAny (M1 X) A (pyIter x) (fun y s₂=>∃ s₁',At8 X φ s Q s₁' y s₂/\I4 X.h₀ φ s φ H s) EX s₁) EX s:=by
 refine ty1 G (by decide) hs hc hf L O h fun v H1 φ1 x s1 q F1 r=>?_
 cases hi:Mini.rangeV v with
 | none=>simp only [hi] at q
 | some it =>
  simp only [hi] at q
  exact Bt7 F1.ok r hi fun I s' hI W F2=>⟨s1,⟨it,_,H1,φ1,rfl,F1,F2,W,hI,q⟩,I4.refl O⟩
abbrev Cl6 (C:Mini.Calls) (ifs:List Mini.E) (elt:Mini.E) (x:Nat) (ρ:Mini.D7) (Q:V->Mini.Heap->Prop) (it:Mini.It) (H₁:Mini.Heap):Prop :=
 ∃ n,Mini.S9 (Mini.P6 C ifs) (Mini.E2 C elt) x ρ it n 0 [] (fun vs H₂=>Q (.ref H₂.length) (H₂++[vs])) H₁
theorem hclos {env:Env}{nm:List Str}{ρ:Mini.D7}{φ:List Addr}{s:Shared}{id:Str}{scope:Scope}(L:E5 X φ nm env ρ s) (W:Ak6 env nm id scope):closureFor scope env=pure (V0 env scope.names []) :=
 tC fun y hy hf=>by
  obtain ⟨hm,hk⟩:=W.frees y hy hf
  obtain ⟨i,hi⟩:=List.getElem?_of_mem hm
  obtain ⟨c,ov,hc,_⟩:=L.cells i _ hi hk
  rw [hc];rfl
theorem lH (hh:A.handled=none) {elt:Mini.E}{ifs:List Mini.E}(he:E4 X A C elt) (ht:∀ e∈ifs,X0 X A C e)
  {env:Env}{nm:List Str}{ρ:Mini.D7}{φ:List Addr}{H:Mini.Heap}{s:Shared}{x:Nat}{id:Str}{scope:Scope}{elt' iter:Expr}{ifs':List Expr}{pos px:Pos}
  {Q:V->Mini.Heap->Prop}{K EX:Value->Shared->Prop}(L:E5 X φ nm env ρ s) (O:Ok X.h₀ φ H s.heap) (hx:nm[x]? = some id) (hlit:X.gl.lits.contains x=false)
  (hsc:Mini.Q9 env.scope.names nm id scope=true) (h1:Mini.D5 X.gl (Mini.R2 env.scope.names scope.names) nm elt elt'=true) (h2:Mini.J8 X.gl (Mini.R2 env.scope.names scope.names) nm ifs ifs'=true)
  (hns:∀ y,foldedSetIterable iter env y=pure y)
  (hf:wpAny (M1 X) A (eval iter env) (fun x' s₁=>wpAny (M1 X) A (pyIter x') (fun y s₂=>∃ s₁',At8 X φ s (Cl6 C ifs elt x ρ Q) s₁' y s₂/\I4 X.h₀ φ s φ H s) EX s₁) EX s)
  (k:W6 X Q φ s K):wpAny (M1 X) A (eval (.ListComp elt' [⟨.Name id px,iter,ifs',0⟩] scope pos) env) K EX s:=by
 have W:=lI hsc
 show wpAny (M1 X) A (comprehension (.ListComp elt' [⟨.Name id px,iter,ifs',0⟩] scope pos) scope env _ (newList []) false (eval iter env) none) K EX s
 refine wpAny_comprehension_free rfl hns (hclos L W) W.kind (fun y hy hl=>(W.locs y hy hl).1) (wpAny_mono hf (fun x1 s1 hx1=>wpAny_mono hx1 (fun y s2 hy=>?_) fun zz zz q=>q) fun zz zz q=>q)
 obtain ⟨s1',⟨it,I,H1,φ1,rfl,F1,F2,WI,hI,n,hw⟩,_⟩:=hy
 refine tX (R:=compPost (M1 X) A EX none K) hh he ht (L.fwd O (F1.trans F2)) F2 (A3 O.room F1.step.size) WI hI hx hlit hsc h1 h2 hw fun Da Ca s' E=>?_
 obtain ⟨acc,H',φ',vs,m,q,F,hD,hp,rs,hl,hn⟩:=E.ex
 refine ⟨m,hn,fun h' hsb=>?_⟩
 have zD:=A3 (A3 O.room F1.step.size) E.D
 have zC:=A3 (A3 O.room F1.step.size) E.C
 have Fa:=F.add hD E.D zD hp rs hl
 have B:fF Ca s' { s' with heap:=h',toks:=s'.toks }:=fF.of_same hsb
 obtain ⟨o,es,ep,ho,hd,_⟩:=hn
 have hCn:Ca ∉ φ'++[Da]:=fun hm=>by
  obtain ⟨_,_,e⟩:=Fa.ok.mem hm
  rw [e] at ho;cases ho;cases hd
 have Fb:=Fa.but B E.C (B.ok' Fa.ok hCn ho (R0 hd) zC)
 exact k _ _ _ _ _ q (F1.trans Fb) (cY (by rw [<- F.ok.len];simp))
theorem Aa1 (hh:A.handled=none) {elt:Mini.E}{ifs:List Mini.E}(he:E4 X A C elt) (ht:∀ e∈ifs,X0 X A C e)
  {env:Env}{nm:List Str}{ρ:Mini.D7}{φ:List Addr}{H:Mini.Heap}{s:Shared}{x:Nat}{id:Str}{scope:Scope}{elt' iter:Expr}{ifs':List Expr}{pos px:Pos}{z:Nat}{tgt:Str}{pt:Pos}
  {Q:V->Mini.Heap->Prop}{K:Unit->Shared->Prop}{EX:Value->Shared->Prop}(L:E5 X φ nm env ρ s) (O:Ok X.h₀ φ H s.heap) (hx:nm[x]? = some id) (hlit:X.gl.lits.contains x=false)
  (hsc:Mini.Q9 env.scope.names nm id scope=true) (h1:Mini.D5 X.gl (Mini.R2 env.scope.names scope.names) nm elt elt'=true) (h2:Mini.J8 X.gl (Mini.R2 env.scope.names scope.names) nm ifs ifs'=true)
  (hns:∀ y,foldedSetIterable iter env y=pure y)
  (hz:nm[z]? = some tgt) (hzl:Mini.S8 env.scope.names tgt=true) (hzf:(env.scope.names.lookup tgt != some .free)=true) (hzlit:X.gl.lits.contains z=false)
  (hf:wpAny (M1 X) A (eval iter env) (fun x' s₁=>wpAny (M1 X) A (pyIter x') (fun y s₂=>∃ s₁',At8 X φ s (Cl6 C ifs elt x ρ Q) s₁' y s₂/\I4 X.h₀ φ s φ H s) EX s₁) EX s)
  (k:∀ v H' φ' s',Q v H'->K7 X.h₀ env φ s φ' H' s'->E5 X φ' nm env (ρ.set z (some v)) s'->K () s') :
  wpAny (M1 X) A (evalThenUse (.ListComp elt' [⟨.Name id px,iter,ifs',0⟩] scope pos) env (assign (.Name tgt pt) env)) K EX s:=by
 have W:=lI hsc
 show wpAny (M1 X) A (do let _ <- comprehension (.ListComp elt' [⟨.Name id px,iter,ifs',0⟩] scope pos) scope env _ (newList []) false (eval iter env) (some (assign (.Name tgt pt) env))) K EX s
 refine wpAny_bind ?_
 refine wpAny_comprehension_free rfl hns (hclos L W) W.kind (fun y hy hl=>(W.locs y hy hl).1) (wpAny_mono hf (fun x1 s1 hx1=>wpAny_mono hx1 (fun y s2 hy=>?_) fun zz zz q=>q) fun zz zz q=>q)
 obtain ⟨s1',⟨it,I,H1,φ1,rfl,F1,F2,WI,hI,n,hw⟩,_⟩:=hy
 refine tX (R:=compPost (M1 X) A EX (some (assign (.Name tgt pt) env)) _) hh he ht (L.fwd O (F1.trans F2)) F2 (A3 O.room F1.step.size) WI hI hx hlit hsc h1 h2 hw fun Da Ca s' E=>?_
 obtain ⟨acc,H',φ',vs,m,q,F,hD,hp,rs,hl,hn⟩:=E.ex
 have zD:=A3 (A3 O.room F1.step.size) E.D
 have zC:=A3 (A3 O.room F1.step.size) E.C
 have Fa:=F1.trans (F.add hD E.D zD hp rs hl)
 have L1:=L.fwd O Fa
 have hLC:@LT.lt Nat _ env.locals Ca:=by
  obtain ⟨_,hns,_⟩:=L.locals
  exact A8 hns.lt (A3 F1.step.size E.C)
 have hcC:∀ y,env.cells.lookup y≠some Ca:=fun y hy=>by
  obtain ⟨ov,oc,hoc,_⟩:=L.cellAll y Ca hy
  exact absurd (Heap.lt_size hoc) (Nat.not_lt.mpr (A3 F1.step.size E.C))
 show wpAny (M1 X) A (assign (.Name tgt pt) env (.ref Da)) _ EX s'
 refine wpAny_assign_Name (bD (v:=.ref H'.length) L1 Fa.ok hz hzl hzf hzlit (cY (by rw [<- F.ok.len];simp)) fun s2 F3 L3=>?_)
 obtain ⟨o,es,ep,ho,hd,hrest⟩:=hn
 have hCn:Ca ∉ φ'++[Da]:=fun hm=>by
  obtain ⟨_,_,e⟩:=Fa.ok.mem hm
  rw [e] at ho;cases ho;cases hd
 have ho2:s2.heap.get? Ca=some o:=F3.keep _ _ hCn (fun hown=>by
  rcases hown with q | ⟨y,hy⟩
  ·rw [<- q] at hLC;exact Nat.lt_irrefl _ hLC
  ·exact hcC y hy) ho
 refine ⟨m,⟨o,es,ep,ho2,hd,hrest⟩,fun h' hsb=>?_⟩
 have B:fF Ca s2 { s2 with heap:=h',toks:=s2.toks }:=fF.of_same hsb
 have O4:=B.ok' F3.ok hCn ho2 (R0 hd) zC
 have F4:=((Fa.toS env).trans F3).but B (A3 F1.step.size E.C) O4
 exact wpAny_pure (k _ _ _ _ q F4 (B.env2 L3 ho2 (R0 hd) (Nat.ne_of_lt hLC) hcC))
theorem Br9 (hh:A.handled=none) {elt src:Mini.E}{x:Nat}{ifs:List Mini.E}(he:E4 X A C elt) (hs:E4 X A C src) (ht:∀ e∈ifs,X0 X A C e):E4 X A C (.comp elt x src ifs):=by
 intro re env nm ρ Q H φ s K EX hc L O h k
 refine Mini.qE hc fun elt' id' px it' ifs' scope pos e9 hc9=>?_
 clear hc;subst e9
 ·simp only [Bool.and_eq_true,beq_iff_eq,Bool.not_eq_true'] at hc9
  obtain ⟨⟨⟨⟨⟨h1,h2⟩,h3⟩,h4⟩,h5⟩,h6⟩:=hc9
  replace h:=Mini.wW h
  exact lH hh he ht L O h1 h2 h3 h5 h6 (At6 h4 env) (wpAny_mono (gT hs h4 L O h) (fun zz zz q=>wpAny_mono q (fun zz zz q=>⟨_,q,I4.refl O⟩) fun zz zz q=>q) fun zz zz q=>q) k
theorem Bd4 (G:cR X) (hh:A.handled=none) {elt src:Mini.E}{x:Nat}{ifs:List Mini.E}(he:E4 X A C elt) (hs:E4 X A C src) (ht:∀ e∈ifs,X0 X A C e):E4 X A C (.compR elt x src ifs):=by
 intro re env nm ρ Q H φ s K EX hc L O h k
 refine Mini.uI hc fun elt' id' px fn n' pp ifs' scope pos e9 hf9 hc9=>?_
 clear hc;subst e9
 ·simp only [Bool.and_eq_true,beq_iff_eq,Bool.not_eq_true'] at hc9
  obtain ⟨⟨⟨⟨⟨h1,h2⟩,h3⟩,h5⟩,h6⟩,h7⟩:=hc9
  have h4:=hf9
  replace h:=Mini.qB h
  exact lH hh he ht L O h1 h2 h3 h6 h7 (fun zz=>rfl) (dZ G hs h4 h5 L O h) k
end
end MiniS
namespace MiniS
open PySem PySem.Calls PyProof.Rows
open Mini (V D)
theorem C7.set {h₀ φ h}:∀ {l:List V}{vs:List Value}{k:Nat}{v:V}{x:Value},C7 h₀ φ h l vs->E7 h₀ φ h v x->C7 h₀ φ h (l.set k v) (vs.set k x)
 | [],vs,_,_,_,H,_=>by obtain rfl:=H.unnil;exact H
 | w::l,vs,0,_,_,H,r=>by
  obtain ⟨y,r',rfl,_,ht⟩:=H.uncons
  exact C7.cons r ht
 | w::l,vs,k+1,_,_,H,r=>by
  obtain ⟨y,r',rfl,hy,ht⟩:=H.uncons
  exact C7.cons hy (C7.set ht r)
noncomputable def iN (h₀:Heap) (φ:List Addr) (h:Heap):Mini.kM->Flow->Prop
 | .next,f=>f=.next
 | .cont,f=>f=.cont
 | .ret v,f=>∃ x,f=.ret x/\E7 h₀ φ h v x
noncomputable def bU (X:Cx) (Q:Mini.E6) (env:Env) (nm:List Str) (φ:List Addr) (s:Shared) (K:Flow->Shared->Prop):Prop :=
 ∀ fl ρ' H' φ' f s',Q fl ρ' H'->K7 X.h₀ env φ s φ' H' s'->E5 X φ' nm env ρ' s'->iN X.h₀ φ' s'.heap fl f->K f s'
noncomputable def cS (X:Cx) (A:Around) (C:Mini.Calls) (st:Mini.S):Prop :=
 ∀ (re:Stmt) (env:Env) (nm:List Str) (ρ:Mini.D7) (Q:Mini.E6) (H:Mini.Heap) (φ:List Addr) (s:Shared) (K:Flow->Shared->Prop) (EX:Value->Shared->Prop),
  Mini.aN X.gl env.scope.names nm st re=true->E5 X φ nm env ρ s->Ok X.h₀ φ H s.heap->Mini.iC C st ρ Q H->bU X Q env nm φ s K ->
  wpAny (M1 X) A (exec re env) K EX s
noncomputable def Z4 (X:Cx) (A:Around) (C:Mini.Calls) (st:List Mini.S):Prop :=
 ∀ (re:List Stmt) (env:Env) (nm:List Str) (ρ:Mini.D7) (Q:Mini.E6) (H:Mini.Heap) (φ:List Addr) (s:Shared) (K:Flow->Shared->Prop) (EX:Value->Shared->Prop),
  Mini.N7 X.gl env.scope.names nm st re=true->E5 X φ nm env ρ s->Ok X.h₀ φ H s.heap->Mini.C6 C st ρ Q H->bU X Q env nm φ s K ->
  wpAny (M1 X) A (execs re env) K EX s
section
variable {X:Cx}{A:Around}{C:Mini.Calls}
theorem bU.after {Q:Mini.E6}{env nm φ s K φ₁ H₁ s₁}(k:bU X Q env nm φ s K) (F:K7 X.h₀ env φ s φ₁ H₁ s₁):bU X Q env nm φ₁ s₁ K :=
 fun fl ρ' H' φ' f s' q F' L' r=>k fl ρ' H' φ' f s' q (F.trans F') L' r
theorem Av7:Z4 X A C []:=by
 intro re env nm ρ Q H φ s K EX hc L O h k
 obtain rfl:=Mini.rH hc
 ·replace h:=Mini.Bl9 h
  exact wpAny_execs_nil (k .next ρ H φ _ s h (K7.refl O) L rfl)
theorem zQ {st:Mini.S}{sts:List Mini.S}(h1:cS X A C st) (h2:Z4 X A C sts):Z4 X A C (st::sts):=by
 intro re env nm ρ Q H φ s K EX hc L O h k
 obtain ⟨re,res,e9,hc9⟩:=Mini.eD hc
 clear hc;subst e9
 have hc:=hc9
 clear hc9
 ·replace h:=Mini.wV h
  refine wpAny_execs_cons (h1 re env nm ρ _ H φ s _ EX hc.1 L O h fun fl ρ1 H1 φ1 f s1 q F1 L1 r=>?_)
  cases fl with
  | next =>
   obtain rfl:=r
   exact h2 res env nm ρ1 Q H1 φ1 s1 K EX hc.2 L1 F1.ok q (k.after F1)
  | cont =>
   obtain rfl:=r
   exact k _ _ _ _ _ _ q F1 L1 rfl
  | ret v =>
   obtain ⟨x,rfl,r⟩:=r
   exact k _ _ _ _ _ _ q F1 L1 ⟨x,rfl,r⟩
theorem jA {gl sc nm e re}(h:Mini.D5 gl sc nm e re=true) (hn:Mini.Q8 e=true) (t:Option Expr) (l:Nat) (env:Env):swapsWith re t l env=pure false:=by
 have hf:=(Mini.mE h).form
 have hc:=(Mini.mE h).comp hn
 clear h
 cases re<;>first | rfl | exact Bool.noConfusion hf | exact Bool.noConfusion hc
theorem Bc8 (re:Expr) (o i:Expr) (p:Pos) (l:Nat) (env:Env):swapsWith re (some (.Subscript o i p)) l env=pure false:=by
 cases re<;>rfl
theorem Ao3 (G:cR X) (hh:A.handled=none) {x:Nat}{e:Mini.E}(he:E4 X A C e)
  (hcomp:∀ elt y src ifs,(e=.comp elt y src ifs∨e=.compR elt y src ifs)->E4 X A C elt/\E4 X A C src/\∀ c∈ifs,X0 X A C c):cS X A C (.assign x e):=by
 intro re env nm ρ Q H φ s K EX hc L O h k
 refine Mini.rI hc fun id p e' p' e9 hc9=>?_
 clear hc;subst e9
 ·simp only [Bool.and_eq_true,beq_iff_eq,Bool.not_eq_true'] at hc9
  obtain ⟨⟨⟨⟨h1,h2⟩,h3⟩,h4⟩,h5⟩:=hc9
  replace h:=Mini.Be4 h
  have plain:swapsWith e' (some (.Name id p)) p'.line env=pure false->wpAny (M1 X) A (exec (.Assign [.Name id p] e' p') env) K EX s:=fun hsw=>by
   refine wpAny_Assign_Name (he e' env nm ρ _ H φ s _ EX h5 L O h fun v H1 φ1 y s1 q F1 r=>?_) hsw
   exact bD (L.fwd O F1) F1.ok h1 h2 h3 h4 r fun s2 F2 L2=>k .next _ _ _ _ _ q ((F1.toS env).trans F2) L2 rfl
  cases hn:Mini.Q8 e with
  | true=>exact plain (jA h5 hn _ _ env)
  | false =>
   rcases Mini.tE hn with ⟨elt,y,src,ifs,rfl⟩ | ⟨elt,y,src,ifs,rfl⟩
   ·obtain ⟨e1,e2,e3⟩:=hcomp elt y src ifs (Or.inl rfl)
    refine Mini.qE h5 fun elt' id' px it' ifs' scope pos e9 hc8=>?_
    clear h5;subst e9
    ·simp only [Bool.and_eq_true,beq_iff_eq,Bool.not_eq_true'] at hc8
     obtain ⟨⟨⟨⟨⟨g1,g2⟩,g3⟩,g4⟩,g5⟩,g6⟩:=hc8
     have hb:∃ b,swapsWith (.ListComp elt' [⟨.Name id' px,it',ifs',0⟩] scope pos) (some (.Name id p)) p'.line env=pure b:=⟨_,rfl⟩
     obtain ⟨b,hb⟩:=hb
     cases b with
     | false=>exact plain hb
     | true =>
      rw [exec_Assign_Name_used _ _ _ _ hb]
      replace h:=Mini.wW h
      refine wpAny_bind (wpAny_standAt (wpAny_bind (Aa1 hh e1 e3 L O g1 g2 g3 g5 g6 (At6 g4 env) h1 h2 h3 h4
       (wpAny_mono (gT e2 g4 L O h) (fun zz zz q=>wpAny_mono q (fun zz zz q=>⟨_,q,I4.refl O⟩) fun zz zz q=>q) fun zz zz q=>q) fun v H1 φ1 s1 q F1 L1=>wpAny_pure (k .next _ _ _ _ _ q F1 L1 rfl))))
   ·obtain ⟨e1,e2,e3⟩:=hcomp elt y src ifs (Or.inr rfl)
    refine Mini.uI h5 fun elt' id' px fn n' pp ifs' scope pos e9 g4 hc8=>?_
    clear h5;subst e9
    ·simp only [Bool.and_eq_true,beq_iff_eq,Bool.not_eq_true'] at hc8
     obtain ⟨⟨⟨⟨⟨g1,g2⟩,g3⟩,g5⟩,g6⟩,g7⟩:=hc8
     have hb:∃ b,swapsWith (.ListComp elt' [⟨.Name id' px,.Call fn [n'] [] pp,ifs',0⟩] scope pos) (some (.Name id p)) p'.line env=pure b:=⟨_,rfl⟩
     obtain ⟨b,hb⟩:=hb
     cases b with
     | false=>exact plain hb
     | true =>
      rw [exec_Assign_Name_used _ _ _ _ hb]
      replace h:=Mini.qB h
      refine wpAny_bind (wpAny_standAt (wpAny_bind (Aa1 hh e1 e3 L O g1 g2 g3 g6 g7 (fun zz=>rfl) h1 h2 h3 h4
       (dZ G e2 g4 g5 L O h) fun v H1 φ1 s1 q F1 L1=>wpAny_pure (k .next _ _ _ _ _ q F1 L1 rfl))))
set_option tactic.hygienic true in
theorem Ao0 {o i e:Mini.E}(ho:E4 X A C o) (hi:E4 X A C i) (he:E4 X A C e):cS X A C (.setIdx o i e):=by
 intro re env nm ρ Q H φ s K EX hc L O h k
 have hlim:Mini.I3=16777216:=rfl
 refine Mini.Aq4 hc fun o' i' p e' p' e9 hc9=>?_
 clear hc;subst e9
 ·simp only [Bool.and_eq_true] at hc9
  obtain ⟨⟨h1,h2⟩,h3⟩:=hc9
  replace h:=Mini.uB h
  refine wpAny_Assign_Subscript (he _ env nm ρ _ H φ s _ EX h3 L O h fun v H1 φ1 x1 s1 q1 F1 r1=>?_) (Bc8 ..)
  refine ho _ env nm ρ _ H1 φ1 s1 _ EX h1 (L.fwd O F1) F1.ok q1 fun vo H2 φ2 x2 s2 q2 F2 r2=>?_
  have F12:=F1.trans F2
  refine hi _ env nm ρ _ H2 φ2 s2 _ EX h2 (L.fwd O F12) F12.ok q2 fun vi H3 φ3 x3 s3 q3 F3 r3=>?_
  have F13:=F12.trans F3
  have r1':=F3.val F2.ok (F2.val F1.ok r1)
  have r2':=F3.val F2.ok r2
  unfold Mini.hea at q3
  split at q3
  ·rename_i H4 e4
   replace e4:=Mini.jE e4;obtain ⟨a,rfl,e4⟩:=e4
   replace e4:=Mini.I9 e4;obtain ⟨j,rfl,e4⟩:=e4
   ·obtain ⟨p,hp,rfl⟩:=J9 r2'
    obtain ⟨t,rfl⟩:=E3 r3
    cases e0:H3[a]? with
    | none=>rw [e0] at e4;cases e4
    | some l =>
     rw [e0] at e4
     simp only [Option.bind_some] at e4
     obtain ⟨kk,ek,rfl⟩:=Option.map_eq_some_iff.mp e4
     obtain ⟨vs,⟨n,hl⟩,rl⟩:=F3.ok.lists _ _ _ hp e0
     have hlen:=rl.length
     have hz:=F3.ok.small l (B9 e0)
     have fin:∀ kk',kk'=kk->K .next { s3 with heap:=s3.heap.update p (Obj.mapSeq (·.setIfInBounds kk' x1)) }:=fun kk' ekk=>by
      subst ekk
      have F4:=I4.change (tk:=s3.toks) F3.ok hp (Heap.SameBut.update s3.heap p (Obj.mapSeq (·.setIfInBounds kk' x1))) (vs':=vs.set kk' x1) (l':=l.set kk' v) ⟨_,by
       have:=IsL.update hl (fun xs=>xs.setIfInBounds kk' x1)
       rwa [List.setIfInBounds_toArray] at this⟩ (rl.set r1') (by simpa using hz)
      exact k .next _ _ _ _ _ q3 ((F13.trans F4).toS env) (L.fwd O (F13.trans F4)) rfl
     unfold Mini.K6 at ek
     split at ek
     ·rename_i h0
      split at ek
      ·rename_i hlt
       cases ek
       exact PySem.W.ki_setAt hl h0 (by lia) (by simpa [<- hlen] using hlt) (fin _ rfl)
      ·cases ek
     ·rename_i h0
      split at ek
      ·rename_i hle
       cases ek
       refine PySem.W.ki_setBack hl (by lia) (by simpa [<- hlen] using hle) (by lia) (fin _ ?_)
       simp [<- hlen]
      ·cases ek
  ·exact q3.elim
theorem Br7 {e:Mini.E}(he:E4 X A C e):cS X A C (.expr e):=by
 intro re env nm ρ Q H φ s K EX hc L O h k
 refine Mini.Ab4 hc fun e' p e9 hc9=>?_
 clear hc;subst e9
 ·simp only [Bool.and_eq_true] at hc9
  replace h:=Mini.Cf1 h
  refine wpAny_Expr_any (he _ env nm ρ _ H φ s _ EX hc9.2 L O h fun v H1 φ1 x1 s1 q1 F1 r1=>k .next _ _ _ _ _ q1 (F1.toS env) (L.fwd O F1) rfl) ?_ (jA hc9.2 hc9.1 _ _ env)
  unfold interactive;rw [L.kind];rfl
theorem Cd1 {c:Mini.E}{t f:List Mini.S}(hc':X0 X A C c) (ht:Z4 X A C t) (hf:Z4 X A C f):cS X A C (.ite c t f):=by
 intro re env nm ρ Q H φ s K EX hc L O h k
 refine Mini.Ay3 hc fun c' t' f' p e9 hc9=>?_
 clear hc;subst e9
 ·simp only [Bool.and_eq_true] at hc9
  obtain ⟨⟨h1,h2⟩,h3⟩:=hc9
  replace h:=Mini.Bm0 h
  refine wpAny_If (hc' _ env nm ρ _ H φ s _ EX h1 L O h fun b H1 φ1 s1 q1 F1=>?_)
  cases b with
  | true=>exact ht _ env nm ρ Q H1 φ1 s1 K EX h2 (L.fwd O F1) F1.ok q1 (k.after (F1.toS env))
  | false=>exact hf _ env nm ρ Q H1 φ1 s1 K EX h3 (L.fwd O F1) F1.ok q1 (k.after (F1.toS env))
theorem Cc2 {c:Mini.E}{b:List Mini.S}(hc':X0 X A C c) (hb:Z4 X A C b):cS X A C (.whl c b):=by
 intro re env nm ρ Q H φ s K EX hc L O h k
 refine Mini.Cg1 hc fun c' b' p e9 hc9=>?_
 clear hc;subst e9
 ·simp only [Bool.and_eq_true] at hc9
  obtain ⟨h1,h2⟩:=hc9
  replace h:=Mini.Bl8 h
  obtain ⟨n,hn⟩:=h
  refine wpAny_While (codeAny_whileLoop (fun k0 st=>∃ ρ' H' φ',Mini.gO (Mini.E2 C c) (Mini.C6 C b) k0 ρ' Q H'/\K7 X.h₀ env φ s φ' H' st/\E5 X φ' nm env ρ' st) (fun k0 st hst=>?_) n ⟨ρ,H,φ,hn,K7.refl O,L⟩)
  obtain ⟨ρ',H',φ',hw,F,L'⟩:=hst
  cases k0 with
  | zero=>exact False.elim hw
  | succ k0 =>
   refine hc' _ env nm ρ' _ H' φ' st _ _ h1 L' F.ok hw fun t H1 φ1 s1 q1 F1=>?_
   have L1:=L'.fwd F.ok F1
   have FF:=F.trans (F1.toS env)
   cases t with
   | false =>
    simp only [Bool.false_eq_true,if_false]
    exact wpAny_execs_nil (k .next _ _ _ _ _ q1 FF L1 rfl)
   | true =>
    simp only [if_true]
    refine hb _ env nm ρ' _ H1 φ1 s1 _ _ h2 L1 F1.ok q1 fun fl ρ2 H2 φ2 f s2 q2 F2 L2 r2=>?_
    cases fl with
    | next=>obtain rfl:=r2;exact ⟨k0,B1 _,ρ2,H2,φ2,q2,FF.trans F2,L2⟩
    | cont=>obtain rfl:=r2;exact ⟨k0,B1 _,ρ2,H2,φ2,q2,FF.trans F2,L2⟩
    | ret v =>
     obtain ⟨x,rfl,r⟩:=r2
     exact k (.ret v) _ _ _ _ _ q2 (FF.trans F2) L2 ⟨x,rfl,r⟩
theorem zZ (hh:A.handled=none) {b:List Mini.S}{x n:Nat}(hb:Z4 X A C b) {id:Str}{p:Pos}{b':List Stmt}{env:Env}{nm:List Str}{ρ:Mini.D7}{Q:Mini.E6}{H:Mini.Heap}{φ:List Addr}{s₀ s:Shared}{φ₀:List Addr}{I:Addr}{it:Mini.It}{K:Flow->Shared->Prop}{EX:Value->Shared->Prop}
  (L:E5 X φ nm env ρ s) (F0:K7 X.h₀ env φ₀ s₀ φ H s) (hroom:X.h₀.objs.size<=s₀.heap.objs.size) (W:ItOk X φ it I 0 s.heap) (hI:s₀.heap.objs.size<=I)
  (h1:nm[x]? = some id) (h2:Mini.S8 env.scope.names id=true) (h3:(env.scope.names.lookup id != some .free)=true) (h4:X.gl.lits.contains x=false)
  (h6:Mini.N7 X.gl env.scope.names nm b b'=true) (hw:Mini.aK (Mini.C6 C b) x it n 0 ρ Q H) (k:bU X Q env nm φ₀ s₀ K) :
  codeAny (M1 X) A (.forLoop (.Name id p) (.ref I) b' [] env) (fun r s'=>match r with | .ok f=>K f s' | .error e=>cameBackBy (M1 X) A env EX e s') s:=by
 refine codeAny_forLoop (fun k0 st=>∃ i ρ' H' φ',Mini.aK (Mini.C6 C b) x it k0 i ρ' Q H'/\K7 X.h₀ env φ₀ s₀ φ' H' st/\E5 X φ' nm env ρ' st/\ItOk X φ' it I i st.heap) (fun k0 st hst=>?_) n ⟨0,ρ,H,φ,hw,F0,L,W⟩
 obtain ⟨i,ρ',H',φ',hw,F,L',WI⟩:=hst
 cases k0 with
 | zero=>exact False.elim hw
 | succ k0 =>
  replace hw:(match it.at H' i with | none=>_ | some v=>_):=hw
  obtain ⟨oI,vI,hoI,hdI,hIk⟩:=WI.obj
  refine Aw4 hh F.ok WI (fun v y s' hat ry B WI'=>?_) (fun s' hat B=>?_)
  ·rw [hat] at hw
   simp only at hw
   have O1:=B.ok F.ok hoI hdI (A3 hroom hI)
   have F1:=F.but B hI O1
   have L1:=B.env L' hoI hdI
   refine wpAny_assign_Name (bD L1 O1 h1 h2 h3 h4 ry fun s2 F2 L2=>?_)
   obtain ⟨oJ,vJ,hoJ,hdJ,hJk⟩:=WI'.obj
   have WI2:=hJk φ' s2.heap (fun zz zz q=>q) (K7.fields O1 L1 F2 hdJ hoJ)
   refine hb _ env nm _ _ H' φ' s2 _ _ h6 L2 F2.ok hw fun fl ρ3 H3 φ3 f s3 q3 F3 L3 r3=>?_
   have FF:=(F1.trans F2).trans F3
   obtain ⟨oK,vK,hoK,hdK,hKk⟩:=WI2.obj
   have WI3:=hKk φ3 s3.heap F3.idx (K7.fields F2.ok L2 F3 hdK hoK)
   cases fl with
   | next=>obtain rfl:=r3;exact ⟨k0,B1 _,i+1,ρ3,H3,φ3,q3,FF,L3,WI3⟩
   | cont=>obtain rfl:=r3;exact ⟨k0,B1 _,i+1,ρ3,H3,φ3,q3,FF,L3,WI3⟩
   | ret v =>
    obtain ⟨x,rfl,r⟩:=r3
    exact k (.ret v) _ _ _ _ _ q3 FF L3 ⟨x,rfl,r⟩
  ·rw [hat] at hw
   simp only at hw
   have O1:=B.ok F.ok hoI hdI (A3 hroom hI)
   exact wpAny_execs_nil (k .next _ _ _ _ _ hw (F.but B hI O1) (B.env L' hoI hdI) rfl)
theorem Bd3 (hh:A.handled=none) {x:Nat}{e:Mini.E}{b:List Mini.S}(he:E4 X A C e) (hb:Z4 X A C b):cS X A C (.forIn x e b):=by
 intro re env nm ρ Q H φ s K EX hc L O h k
 refine Mini.Bf6 hc fun id p e' b' p' e9 hc9=>?_
 clear hc;subst e9
 ·simp only [Bool.and_eq_true,beq_iff_eq,Bool.not_eq_true'] at hc9
  obtain ⟨⟨⟨⟨⟨h1,h2⟩,h3⟩,h4⟩,h5⟩,h6⟩:=hc9
  replace h:=Mini.Aa5 h
  refine wpAny_For (wpAny_mono (gT (Q:=fun it H₁=>∃ n,Mini.aK (Mini.C6 C b) x it n 0 ρ Q H₁) he h5 L O h) (fun x1 s1 hx1=>wpAny_mono hx1 (fun y s2 hy=>?_) fun zz zz q=>q) fun zz zz q=>q) (At6 h5 env)
  obtain ⟨it,I,H1,φ1,rfl,F1,F2,WI,hI,n,hw⟩:=hy
  have FF:=F1.trans F2
  exact zZ hh hb (L.fwd O FF) (FF.toS env) O.room WI (A3 F1.step.size hI) h1 h2 h3 h4 h6 hw k
theorem Br5 (G:cR X) (hh:A.handled=none) {x:Nat}{e:Mini.E}{b:List Mini.S}(he:E4 X A C e) (hb:Z4 X A C b):cS X A C (.forR x e b):=by
 intro re env nm ρ Q H φ s K EX hc L O h k
 refine Mini.Bv9 hc fun id p fn e' pp b' p' e9 hf9 hc9=>?_
 clear hc;subst e9
 ·simp only [Bool.and_eq_true,beq_iff_eq,Bool.not_eq_true'] at hc9
  obtain ⟨⟨⟨⟨⟨h1,h2⟩,h3⟩,h4⟩,h6⟩,h7⟩:=hc9
  have h5:=hf9
  replace h:=Mini.Ax1 h
  refine wpAny_For (wpAny_mono (dZ (Q:=fun it H₁=>∃ n,Mini.aK (Mini.C6 C b) x it n 0 ρ Q H₁) G he h5 h6 L O h) (fun x1 s1 hx1=>wpAny_mono hx1 (fun y s2 hy=>?_) fun zz zz q=>q) fun zz zz q=>q) (fun zz=>rfl)
  obtain ⟨s1',⟨it,I,H1,φ1,rfl,F1,F2,WI,hI,n,hw⟩,_⟩:=hy
  have FF:=F1.trans F2
  exact zZ hh hb (L.fwd O FF) (FF.toS env) O.room WI (A3 F1.step.size hI) h1 h2 h3 h4 h7 hw k
theorem Av4 {e:Mini.E}(he:E4 X A C e):cS X A C (.ret e):=by
 intro re env nm ρ Q H φ s K EX hc L O h k
 refine Mini.Ay0 hc fun e' p e9 hc9=>?_
 clear hc;subst e9
 ·replace h:=Mini.Cr0 h
  exact wpAny_Return_some (he _ env nm ρ _ H φ s _ EX hc9 L O h fun v H1 φ1 x1 s1 q1 F1 r1=>k (.ret v) _ _ _ _ _ q1 (F1.toS env) (L.fwd O F1) ⟨_,rfl,r1⟩)
theorem Ag1:cS X A C .retNone:=by
 intro re env nm ρ Q H φ s K EX hc L O h k
 refine Mini.Ag9 hc fun p e9=>?_
 clear hc;subst e9
 ·replace h:=Mini.Ap6 h
  exact wpAny_Return_none (k (.ret .none) _ _ _ _ _ h (K7.refl O) L ⟨_,rfl,by rfl⟩)
theorem Br8:cS X A C .cont:=by
 intro re env nm ρ Q H φ s K EX hc L O h k
 refine Mini.Bw1 hc fun p e9=>?_
 clear hc;subst e9
 ·replace h:=Mini.Cf2 h
  exact wpAny_Continue (k .cont _ _ _ _ _ h (K7.refl O) L rfl)
theorem Bq7:cS X A C .pass:=by
 intro re env nm ρ Q H φ s K EX hc L O h k
 refine Mini.Bv5 hc fun p e9=>?_
 clear hc;subst e9
 ·replace h:=Mini.Cf0 h
  exact wpAny_Pass (k .next _ _ _ _ _ h (K7.refl O) L rfl)
theorem Bd1 {a b}:cS X A C (.raise a b):=by
 intro re env nm ρ Q H φ s K EX hc L O h k
 replace h:=Mini.Bu2 h
 exact h.elim
structure oD (N:Addr->Prop) (s s':Shared):Prop where
 same:∃ h' tk,s'={ s with heap:=h',toks:=tk }
 keep:∀ b o,¬ N b->s.heap.get? b=some o->s'.heap.get? b=some o
 size:s.heap.objs.size<=s'.heap.objs.size
 toks:s.toks<=s'.toks
noncomputable def Bc6 (h:Heap) (N:Addr->Prop):Prop:=∀ b,N b->∃ o vs,h.get? b=some o/\o.data=.fields vs
theorem oD.tups {N s s'}(B:oD N s s') (hN:Bc6 s.heap N):∀ b o,N8 o->s.heap.get? b=some o->s'.heap.get? b=some o:=fun b o ht e=>B.keep b o (fun hb=>by
 obtain ⟨o',vs,ho,hd⟩:=hN b hb
 rw [e] at ho;cases ho
 exact Z0 hd ht) e
theorem oD.ok {h₀ φ H N s s'}(B:oD N s s') (K:Ok h₀ φ H s.heap) (hN:Bc6 s.heap N) (hab:∀ b,N b->h₀.objs.size<=b):Ok h₀ φ H s'.heap:=by
 refine ⟨fun b o e=>B.keep b o (fun q=>absurd (Heap.lt_size e) (Nat.not_lt.mpr (hab b q))) (K.base b o e),K.len,K.nodup,K.above,K.small,A3 K.room B.size,fun i b l hi hl=>?_⟩
 obtain ⟨vs',⟨n,e⟩,r⟩:=K.lists i b l hi hl
 refine ⟨vs',⟨n,B.keep b _ (fun q=>?_) e⟩,C7.mono (fun zz zz q=>q) (B.tups hN) l r⟩
 obtain ⟨o',vs,ho,hd⟩:=hN b q
 rw [e] at ho;cases ho;simp at hd
theorem oD.val {h₀ φ N s s'}(B:oD N s s') (hN:Bc6 s.heap N) {v:V}{x:Value}(r:E7 h₀ φ s.heap v x):E7 h₀ φ s'.heap v x:=E7.mono (fun zz zz q=>q) (B.tups hN) v r
theorem oD.env {X:Cx}{φ nm env ρ N s s'}(B:oD N s s') (L:E5 X φ nm env ρ s) (hN:Bc6 s.heap N):E5 X φ nm env ρ s':=by
 have hr:∀ v x,E7 X.h₀ φ s.heap v x->E7 X.h₀ φ s'.heap v x:=fun v x r=>B.val hN r
 have hcell:∀ c ov,s.heap.IsCell c ov->s'.heap.IsCell c ov:=fun c ov hc=>by
  obtain ⟨oc,hoc,hdc⟩:=hc
  refine ⟨oc,B.keep c oc (fun q=>?_) hoc,hdc⟩
  obtain ⟨o',vs,ho,hd⟩:=hN c q
  rw [ho] at hoc;cases hoc;rw [hd] at hdc;cases hdc
 refine ⟨L.kind,L.glob,L.blt,L.len,L.nodup,fun hp=>A8 (L.pos hp) B.toks,?_,?_,L.above,L.aboveC,fun x c hc=>?_,L.apart⟩
 ·obtain ⟨m,⟨ol,es,ep,hol,hdl,q⟩,hm⟩:=L.locals
  have hn:¬ N env.locals:=fun e=>by
   obtain ⟨o',vs,ho,hd⟩:=hN _ e
   rw [ho] at hol;cases hol;rw [hd] at hdl;cases hdl
  exact ⟨m,⟨ol,es,ep,B.keep _ _ hn hol,hdl,q⟩,fun i x hx hk=>⟨(hm i x hx hk).1.mono hr,(hm i x hx hk).2.mono B.toks⟩⟩
 ·intro i x hx hk
  obtain ⟨c,ov,hc,hcl,r,lr⟩:=L.cells i x hx hk
  exact ⟨c,ov,hc,hcell c ov hcl,r.mono hr,lr.mono B.toks⟩
 ·obtain ⟨ov,hcl⟩:=L.cellAll x c hc
  exact ⟨ov,hcell c ov hcl⟩
theorem K7.butP {h₀ env φ₀ s₀ φ H N s s'}(F:K7 h₀ env φ₀ s₀ φ H s) (B:oD N s s') (hI:∀ b,N b->s₀.heap.objs.size<=b) (O:Ok h₀ φ H s'.heap):K7 h₀ env φ₀ s₀ φ H s':=by
 obtain ⟨⟨h1,t1,e1⟩,k1,z1,w1,g1,_⟩:=F
 obtain ⟨⟨h2,t2,e2⟩,k2,z2,w2⟩:=B
 exact ⟨⟨h2,t2,by rw [e2,e1]⟩,fun b o hb hn e=>k2 b o (fun q=>absurd (Heap.lt_size e) (Nat.not_lt.mpr (hI b q))) (k1 b o hb hn e),A3 z1 z2,A3 w1 w2,g1,O⟩
theorem K7.val {env φ nm ρ s φ' H H' s'}(K:Ok X.h₀ φ H s.heap) (L:E5 X φ nm env ρ s) (F:K7 X.h₀ env φ s φ' H' s') {v:V}{x:Value}(r:E7 X.h₀ φ s.heap v x):E7 X.h₀ φ' s'.heap v x :=
 E7.mono F.idx (fun b o ht e=>F.keep b o (fun hm=>by
  obtain ⟨vs',n,e'⟩:=K.mem hm
  rw [e'] at e;cases e;exact jR rfl ht) (fun hn=>by
  obtain ⟨_,vs,n,hd⟩:=ht
  rcases hn with rfl | ⟨x,hx⟩
  ·obtain ⟨m,⟨o',es,ep,ho',hd',_⟩,_⟩:=L.locals
   rw [ho'] at e;cases e;rw [hd'] at hd;cases hd
  ·obtain ⟨ov,o',ho',hd'⟩:=L.cellAll x b hx
   rw [ho'] at e;cases e;rw [hd'] at hd;cases hd) e) v r
theorem Be2 (hh:A.handled=none) {b:List Mini.S}{x y n a:Nat}(hb:Z4 X A C b) {id id':Str}{p p' pt:Pos}{u}{b':List Stmt}{env:Env}{nm:List Str}{ρ:Mini.D7}{Q:Mini.E6}{H:Mini.Heap}{φ:List Addr}{s₀ s:Shared}{φ₀:List Addr}{e it pl:Addr}{K:Flow->Shared->Prop}{EX:Value->Shared->Prop}
  (L:E5 X φ nm env ρ s) (F0:K7 X.h₀ env φ₀ s₀ φ H s) (hroom:X.h₀.objs.size<=s₀.heap.objs.size) (he:IsEnum s.heap e it 0 .none) (hit:s.heap.IsListIter it pl 0) (hp:φ[a]? = some pl) (hne:e≠it) (hIe:s₀.heap.objs.size<=e) (hIt:s₀.heap.objs.size<=it)
  (h1:nm[x]? = some id) (h2:Mini.S8 env.scope.names id=true) (h3:(env.scope.names.lookup id != some .free)=true) (h4:X.gl.lits.contains x=false)
  (g1:nm[y]? = some id') (g2:Mini.S8 env.scope.names id'=true) (g3:(env.scope.names.lookup id' != some .free)=true) (g4:X.gl.lits.contains y=false)
  (h6:Mini.N7 X.gl env.scope.names nm b b'=true) (hw:Mini.iI (Mini.C6 C b) x y (.lst a) n 0 ρ Q H) (k:bU X Q env nm φ₀ s₀ K) :
  codeAny (M1 X) A (.forLoop (.Tuple [.Name id p,.Name id' p'] u pt) (.ref e) b' [] env) (fun r s'=>match r with | .ok f=>K f s' | .error e=>cameBackBy (M1 X) A env EX e s') s:=by
 refine codeAny_forLoop_any (fun k0 st=>∃ (i:Nat) (ρ':Mini.D7) (H':Mini.Heap) (φ':List Addr) (old:Value),Mini.iI (Mini.C6 C b) x y (.lst a) k0 i ρ' Q H'/\K7 X.h₀ env φ₀ s₀ φ' H' st/\E5 X φ' nm env ρ' st/\IsEnum st.heap e it ((i:Nat):Int) old/\st.heap.IsListIter it pl i/\φ'[a]? = some pl) (fun k0 st hst=>?_) n ⟨0,ρ,H,φ,.none,hw,F0,L,he,hit,hp⟩
 obtain ⟨i,ρ',H',φ',old,hw,F,L',he',hit',hp'⟩:=hst
 cases k0 with
 | zero=>exact False.elim hw
 | succ k0 =>
  replace hw:(match (Mini.It.lst a).at H' i with | none=>_ | some v=>_):=hw
  have O:=F.ok
  have hlt:a<H'.length:=by rw [<- O.len];exact (List.getElem?_eq_some_iff.mp hp').1
  obtain ⟨l,hl⟩:∃ l,H'[a]? = some l:=⟨_,List.getElem?_eq_getElem hlt⟩
  obtain ⟨vs',hpl,rs⟩:=O.lists _ _ _ hp' hl
  have hN:Bc6 st.heap (fun b=>b=e∨b=it):=fun b hb=>by
   rcases hb with rfl | rfl
   ·exact ⟨_,_,he',rfl⟩
   ·obtain ⟨o,ho,hc,hd⟩:=hit'
    exact ⟨o,_,ho,hd⟩
  have hI:∀ b,b=e∨b=it->s₀.heap.objs.size<=b:=fun b hb=>by
   rcases hb with rfl | rfl
   ·exact hIe
   ·exact hIt
  have hI0:∀ b,b=e∨b=it->X.h₀.objs.size<=b:=fun b hb=>A3 hroom (hI b hb)
  cases hx:l[i]? with
  | some v =>
   obtain ⟨x1,hx',rx⟩:=rs.get hx
   rw [show (Mini.It.lst a).at H' i=some v by simp [Mini.It.at,hl,hx]] at hw
   simp only at hw
   have heH:e<st.heap.objs.size:=Heap.lt_size he'
   have hiH:it<st.heap.objs.size:=by obtain ⟨o,ho,_⟩:=hit';exact Heap.lt_size ho
   refine wpAny_pyNext_enum_item he' hit' hpl.isList (by simpa using hx') hne fun h₁ heo hit₁ ht₁ hz₁ hk₁=>?_
   refine wpAny_letOwnedTupleGo_enum heo fun h₂ he₂ hs₂=>?_
   replace hs₂:Heap.SameBut e h₁ h₂:=hs₂
   have htup:h₂.get? st.heap.objs.size=some { cls:=.type "tuple",data:=.seq #[.int i st.toks,x1] }:=(hs₂.2 _ (Nat.ne_of_gt heH)).trans ht₁
   have ht₂:h₂.IsTuple st.heap.objs.size #[.int i st.toks,x1]:=⟨_,htup,rfl,_,rfl⟩
   have hz₂:h₂.objs.size=st.heap.objs.size+1:=hs₂.1.trans hz₁
   refine wpAny_assign_Tuple hh ht₂ rfl rfl fun h₃ hx₃=>?_
   replace hx₃:Heap.ExtBut h₂.objs.size h₂ h₃:=hx₃
   have old₃:∀ b o,b<st.heap.objs.size+1->h₂.get? b=some o->h₃.get? b=some o:=fun b o hb q=>hx₃ b o (by rw [hz₂];exact Nat.ne_of_lt hb) q
   have he₃:IsEnum h₃ e it ((i:Int)+1) x1:=old₃ e _ (Nat.lt_succ_of_lt heH) he₂
   have hit₃:h₃.IsListIter it pl (i+1):=by
    obtain ⟨o,ho,hc,hd⟩:=hit₁
    exact ⟨o,old₃ it o (Nat.lt_succ_of_lt hiH) ((hs₂.2 it (Ne.symm hne)).trans ho),hc,hd⟩
   have B:oD (fun b=>b=e∨b=it) st { st with heap:=h₃,toks:=st.toks+1 }:=⟨⟨_,_,rfl⟩,fun b o hb q=>old₃ b o (Nat.lt_succ_of_lt (Heap.lt_size q)) ((hs₂.2 b fun r=>hb (Or.inl r)).trans (hk₁ b o (fun r=>hb (Or.inl r)) (fun r=>hb (Or.inr r)) q)),B5 (Heap.lt_size (old₃ _ _ (B1 _) htup)),B8 _⟩
   have O1:=B.ok O hN hI0
   have F1:=F.butP B hI O1
   have L1:=B.env L' hN
   have r1:=B.val hN rx
   show wpAny _ A (do holding [x1] (assign (.Name id p) env (.int i st.toks));do holding [] (assign (.Name id' p') env x1);pure ()) _ _ { st with heap:=h₃,toks:=st.toks+1 }
   refine wpAny_bind (wpAny_holding (wpAny_assign_Name (bD (v:=.int (i:Int)) L1 O1 h1 h2 h3 h4 R4 fun s4 F4 L4=>?_)))
   refine wpAny_bind (wpAny_holding (wpAny_assign_Name (bD L4 F4.ok g1 g2 g3 g4 (F4.val O1 L1 r1) fun s5 F5 L5=>wpAny_pure ?_)))
   have keep:∀ {b:Addr}{o:Obj}{vs:Array Value},o.data=.fields vs->h₃.get? b=some o->s5.heap.get? b=some o:=fun hd q=>K7.fields F4.ok L4 F5 hd (K7.fields O1 L1 F4 hd q)
   refine hb _ env nm _ _ H' φ' s5 _ _ h6 L5 F5.ok hw fun fl ρ3 H3 φ3 f s3 q3 F3 L3 r3=>?_
   have FF:=((F1.trans F4).trans F5).trans F3
   have ei:((i+1:Nat):Int)=(i:Int)+1:=by push_cast;rfl
   have heN:IsEnum s3.heap e it ((i+1:Nat):Int) x1:=by
    rw [ei];exact K7.fields F5.ok L5 F3 rfl (keep rfl he₃)
   have hiN:s3.heap.IsListIter it pl (i+1):=by
    obtain ⟨o,ho,hc,hd⟩:=hit₃
    exact ⟨o,K7.fields F5.ok L5 F3 hd (keep hd ho),hc,hd⟩
   have hpN:φ3[a]? = some pl:=F3.idx _ _ hp'
   cases fl with
   | next=>obtain rfl:=r3;exact ⟨k0,B1 _,i+1,ρ3,H3,φ3,x1,q3,FF,L3,heN,hiN,hpN⟩
   | cont=>obtain rfl:=r3;exact ⟨k0,B1 _,i+1,ρ3,H3,φ3,x1,q3,FF,L3,heN,hiN,hpN⟩
   | ret v =>
    obtain ⟨x,rfl,r⟩:=r3
    exact k (.ret v) _ _ _ _ _ q3 FF L3 ⟨x,rfl,r⟩
  | none =>
   rw [show (Mini.It.lst a).at H' i=none by simp [Mini.It.at,hl,hx]] at hw
   simp only at hw
   have hx':vs'[i]? = none:=by
    rw [List.getElem?_eq_none_iff] at hx ⊢
    rw [<- rs.length];exact hx
   refine tJ (wpAny_pyNext_enum_end hh he' hit' hpl.isList (by simpa using hx') fun h₁ he₁ hz=>?_)
   have B:oD (fun b=>b=e∨b=it) st { st with heap:=h₁ }:=⟨⟨_,_,rfl⟩,fun b o hb q=>he₁ b o (fun r=>hb (Or.inr r)) q,hz,A4 _⟩
   have O1:=B.ok O hN hI0
   exact wpAny_execs_nil (k .next _ _ _ _ _ hw (F.butP B hI O1) (B.env L' hN) rfl)
set_option tactic.hygienic true in
theorem Ag2 (G:cR X) (hh:A.handled=none) {x y:Nat}{e:Mini.E}{b:List Mini.S}(he:E4 X A C e) (hb:Z4 X A C b):cS X A C (.forEnum x y e b):=by
 intro re env nm ρ Q H φ s K EX hc L O h k
 refine Mini.Ah0 hc fun id p id' p' u pt fn e' pp b' p'' e9 hf9 hc9=>?_
 clear hc;subst e9
 simp only [Bool.and_eq_true,beq_iff_eq,Bool.not_eq_true'] at hc9
 obtain ⟨⟨⟨⟨⟨⟨h1,h2⟩,h3⟩,h4⟩,⟨⟨g1,g2⟩,g3⟩,g4⟩,h5⟩,h6⟩:=hc9
 replace h:=Mini.rB h
 refine wpAny_For (ty1 G (n := "enumerate") (by decide) he h5 hf9 L O h fun v H1 φ1 x1 s1 q F1 r=>?_) (fun zz=>rfl)
 split at q
 ·rename_i a
  obtain ⟨n,hw⟩:=q
  obtain ⟨pl,hp,rfl⟩:=J9 r
  have hlt:a<H1.length:=by rw [<- F1.ok.len];exact (List.getElem?_eq_some_iff.mp hp).1
  obtain ⟨l,hl⟩:∃ l,H1[a]? = some l:=⟨_,List.getElem?_eq_getElem hlt⟩
  obtain ⟨vs,⟨nn,hpl⟩,rs⟩:=F1.ok.lists _ _ _ hp hl
  refine call_enumerate_1 hpl fun h' hE hI hz hk=>?_
  have B:oD (fun zz=>False) s1 { s1 with heap:=h' }:=⟨⟨_,_,rfl⟩,fun b o zz q=>hk b o q,by show _<=h'.objs.size;rw [hz];exact B4 _ _,A4 _⟩
  have hN:Bc6 s1.heap (fun zz=>False):=fun zz q=>q.elim
  have O2:=B.ok F1.ok hN (fun zz q=>q.elim)
  have L1:=L.fwd O F1
  have F2:=(F1.toS env).butP B (fun zz q=>q.elim) O2
  exact wpAny_pyIter_enum hE (Be2 hh hb (B.env L1 hN) F2 O.room hE hI hp (Nat.succ_ne_self _) (Nat.le_succ_of_le F1.step.size) F1.step.size h1 h2 h3 h4 g1 g2 g3 g4 h6 hw k)
 ·exact q.elim
end
end MiniS
namespace MiniS
open PySem PySem.Calls PyProof.Rows
open Mini (V D)
section
variable {X:Cx}{A:Around}{C:Mini.Calls}
theorem Bd5 {e:Mini.E}{es:List Mini.E}(h:E4 X A C e) (hs:fI X A C es):fI X A C (e::es):=fun e' h'=>by
 rcases List.mem_cons.mp h' with rfl | h'
 ·exact h
 ·exact hs e' h'
theorem Ao7 {e:Mini.E}{es:List Mini.E}(h:X0 X A C e) (hs:pB X A C es):pB X A C (e::es):=fun e' h'=>by
 rcases List.mem_cons.mp h' with rfl | h'
 ·exact h
 ·exact hs e' h'
theorem U8 {e:Mini.E}(h:E4 X A C e) (hp:Mini.pK e=true):E4 X A C e/\X0 X A C e:=⟨h,Ao5 h hp⟩
mutual
theorem E9 (G:cR X) (hh:A.handled=none) (hu:A.units+106<cLine) (hC:bP X A C):∀ e:Mini.E,E4 X A C e/\X0 X A C e
 | .none=>U8 Bq8 rfl
 | .bool _=>U8 Bs2 rfl
 | .int _=>U8 Cd2 rfl
 | .str _=>U8 Cc4 rfl
 | .var _=>U8 Av3 rfl
 | .glob _ _=>U8 (Br4 G) rfl
 | .bin _ l r=>U8 (Cd6 (E9 G hh hu hC l).1 (E9 G hh hu hC r).1) rfl
 | .neg _=>U8 Cc8 rfl
 | .cmp _ l r=>⟨Cd5 hu (E9 G hh hu hC l).1 (E9 G hh hu hC r).1,Bs8 hu (E9 G hh hu hC l).1 (E9 G hh hu hC r).1⟩
 | .cmp2 _ _ a b c=>⟨Bs0 hu (E9 G hh hu hC a).1 (E9 G hh hu hC b).1 (E9 G hh hu hC c).1,Bd6 hu (E9 G hh hu hC a).1 (E9 G hh hu hC b).1 (E9 G hh hu hC c).1⟩
 | .is e _=>⟨Cq6 (E9 G hh hu hC e).1,Cd9 (E9 G hh hu hC e).1⟩
 | .isnot e _=>⟨Bd2 (E9 G hh hu hC e).1,Ao6 (E9 G hh hu hC e).1⟩
 | .and es=>⟨Cd7 (Z3 G hh hu hC es).1,Bs9 (Z3 G hh hu hC es).2⟩
 | .or es=>⟨Cq5 (Z3 G hh hu hC es).1,Cd8 (Z3 G hh hu hC es).2⟩
 | .not e=>⟨Av6 (E9 G hh hu hC e).1,Bs7 (E9 G hh hu hC e).2⟩
 | .idx o i=>U8 (Cd3 (E9 G hh hu hC o).1 (E9 G hh hu hC i).1) rfl
 | .slc o l h=>U8 (Cc5 (E9 G hh hu hC o).1 (E9 G hh hu hC l).1 (E9 G hh hu hC h).1) rfl
 | .slcL o l=>U8 (Bq5 (E9 G hh hu hC o).1 (E9 G hh hu hC l).1) rfl
 | .slcH o h=>U8 (Bq6 (E9 G hh hu hC o).1 (E9 G hh hu hC h).1) rfl
 | .call _ es=>U8 (Bs1 G hC (Z3 G hh hu hC es).1) rfl
 | .isinst e _=>U8 (Ao1 G (E9 G hh hu hC e).1) rfl
 | .len e=>U8 (Cd0 G (E9 G hh hu hC e).1) rfl
 | .toInt e=>U8 (Bc9 G (E9 G hh hu hC e).1) rfl
 | .ord e=>U8 (Cc7 G (E9 G hh hu hC e).1) rfl
 | .sortedDown e=>U8 (sN G (E9 G hh hu hC e).1) rfl
 | .append o e=>U8 (Ao4 (E9 G hh hu hC o).1 (E9 G hh hu hC e).1) rfl
 | .extend o e=>U8 (Ao2 (E9 G hh hu hC o).1 (E9 G hh hu hC e).1) rfl
 | .pop o=>U8 (Cc6 (E9 G hh hu hC o).1) rfl
 | .find o a b=>U8 (Br6 (E9 G hh hu hC o).1 (E9 G hh hu hC a).1 (E9 G hh hu hC b).1) rfl
 | .join o a=>U8 (Br2 (E9 G hh hu hC o).1 (E9 G hh hu hC a).1) rfl
 | .split o a=>U8 (Bd0 (E9 G hh hu hC o).1 (E9 G hh hu hC a).1) rfl
 | .list es=>U8 (Br1 (Z3 G hh hu hC es).1) rfl
 | .tup es=>U8 (Cc3 (Z3 G hh hu hC es).1) rfl
 | .comp elt _ src ifs=>U8 (Br9 hh (E9 G hh hu hC elt).1 (E9 G hh hu hC src).1 (Z3 G hh hu hC ifs).2) rfl
 | .compR elt _ src ifs=>U8 (Bd4 G hh (E9 G hh hu hC elt).1 (E9 G hh hu hC src).1 (Z3 G hh hu hC ifs).2) rfl
theorem Z3 (G:cR X) (hh:A.handled=none) (hu:A.units+106<cLine) (hC:bP X A C):∀ es:List Mini.E,fI X A C es/\pB X A C es
 | []=>⟨fun e h=>(nomatch h),fun e h=>(nomatch h)⟩
 | e::es=>⟨Bd5 (E9 G hh hu hC e).1 (Z3 G hh hu hC es).1,Ao7 (E9 G hh hu hC e).2 (Z3 G hh hu hC es).2⟩
end
mutual
theorem At7 (G:cR X) (hh:A.handled=none) (hu:A.units+106<cLine) (hC:bP X A C):∀ st:Mini.S,cS X A C st
 | .assign _ e=>Ao3 G hh (E9 G hh hu hC e).1 fun elt zz src ifs zz=>⟨(E9 G hh hu hC elt).1,(E9 G hh hu hC src).1,(Z3 G hh hu hC ifs).2⟩
 | .setIdx o i e=>Ao0 (E9 G hh hu hC o).1 (E9 G hh hu hC i).1 (E9 G hh hu hC e).1
 | .expr e=>Br7 (E9 G hh hu hC e).1
 | .ite c t f=>Cd1 (E9 G hh hu hC c).2 (bO G hh hu hC t) (bO G hh hu hC f)
 | .whl c b=>Cc2 (E9 G hh hu hC c).2 (bO G hh hu hC b)
 | .forIn _ e b=>Bd3 hh (E9 G hh hu hC e).1 (bO G hh hu hC b)
 | .forR _ e b=>Br5 G hh (E9 G hh hu hC e).1 (bO G hh hu hC b)
 | .forEnum _ _ e b=>Ag2 G hh (E9 G hh hu hC e).1 (bO G hh hu hC b)
 | .ret e=>Av4 (E9 G hh hu hC e).1
 | .retNone=>Ag1
 | .cont=>Br8
 | .pass=>Bq7
 | .raise _ _=>Bd1
theorem bO (G:cR X) (hh:A.handled=none) (hu:A.units+106<cLine) (hC:bP X A C):∀ sts:List Mini.S,Z4 X A C sts
 | []=>Av7
 | st::sts=>zQ (At7 G hh hu hC st) (bO G hh hu hC sts)
end
theorem qZ:∀ {names:List Str}{vals:List Value}{i:Nat}{n:Str}{v:Value},names.Nodup->names[i]? = some n->vals[i]? = some v->(names.zip vals).lookup n=some v
 | [],_,_,_,_,_,h,_=>by simp at h
 | _::_,[],_,_,_,_,_,h=>by simp at h
 | a::names,b::vals,0,n,v,_,h1,h2=>by
  simp at h1 h2;subst h1;subst h2;simp
 | a::names,b::vals,i+1,n,v,hd,h1,h2=>by
  simp at h1 h2
  have hd:=List.nodup_cons.mp hd
  have hne:(n==a)=false:=by
   rw [beq_eq_false_iff_ne];rintro rfl
   exact hd.1 (B9 h1)
  rw [List.zip_cons_cons,List.lookup_cons,hne]
  exact qZ hd.2 h1 h2
theorem fV:∀ {names:List Str}{vals:List Value}(l:List (Str×Value)),names.length=vals.length->(∀ (i:Nat) (n:Str) (v:Value),names[i]? = some n->vals[i]? = some v->l.lookup n=some v) ->
  (names.filterMap fun n=>(l.lookup n).map (n,·))=names.zip vals
 | [],_,_,_,_=>by simp
 | _::_,[],_,h,_=>by simp at h
 | a::names,b::vals,l,h,hl=>by
  rw [List.filterMap_cons,hl 0 a b rfl rfl]
  simp only [Option.map_some,List.zip_cons_cons]
  rw [fV l (by simpa using h) fun i n v h1 h2=>hl (i+1) n v (by simpa using h1) (by simpa using h2)]
theorem Bu0 {name:Str}{params:Arguments}{body:List Stmt}{scope:Scope}{pm cd doc:Value}{vals:List Value}
  (h1:params.posonlyargs=[]) (h2:params.vararg=none) (h3:params.kwonlyargs=[]) (h4:params.kwarg=none) (hlen:params.args.length=vals.length) (hnd:(params.args.map (·.arg)).Nodup) :
  bindArgs (docDef name params body scope pm cd doc) ⟨vals,[]⟩=pure ((params.args.map (·.arg)).zip vals):=by
 have hz:∀ (i:Nat) (n:Str) (v:Value),(params.args.map (·.arg))[i]? = some n->vals[i]? = some v->((params.args.map (·.arg)).zip vals).lookup n=some v:=fun i n v e1 e2=>qZ hnd e1 e2
 have hf:=fV (names:=params.args.map (·.arg)) (vals:=vals) ((params.args.map (·.arg)).zip vals) (by simpa using hlen) hz
 have hm:((params.args.map (·.arg)).filter fun n=>(((params.args.map (·.arg)).zip vals).lookup n).isNone)=[]:=by
  rw [List.filter_eq_nil_iff]
  intro n hn
  obtain ⟨i,hi⟩:=List.getElem?_of_mem hn
  have:i<vals.length:=by
   have:=(List.getElem?_eq_some_iff.mp hi).1
   simp at this;exact Mini.G9 (Mini.I6 this (Nat.le_of_eq hlen))
  rw [hz i n _ hi (List.getElem?_eq_getElem this)]
  simp
 unfold bindArgs docDef
 simp only [h1,h2,h3,h4,List.map_nil,List.nil_append,List.append_nil]
 rw [List.forIn_nil]
 have e:seqItems? Value.none=pure none:=rfl
 have hgt:decide ((params.args.map (·.arg)).length<vals.length)=false:=by simp [hlen]
 have ht:(params.args.map (·.arg)).take ((params.args.map (·.arg)).length - 0)=params.args.map (·.arg):=List.take_of_length_le (A4 _)
 simp only [pure_bind,e,Option.getD_none,gt_iff_lt,hgt,Bool.false_and,Bool.false_eq_true,if_false,List.drop_nil,List.length_nil,Nat.zero_sub,ht,hm,List.isEmpty_nil,Bool.not_true,List.zip_nil_right,List.forIn_nil,hf]
theorem mR {kindOf:Str->Option NameKind}:∀ {names:List Str}{vals:List Value}{m:Str->Option Value}{n:Str},n ∉ names->bindL kindOf (names.zip vals) m n=m n
 | [],_,_,_,_=>rfl
 | _::_,[],_,_,_=>rfl
 | a::names,b::vals,m,n,h=>by
  simp only [List.mem_cons,not_or] at h
  rw [List.zip_cons_cons]
  unfold bindL
  rw [mR h.2]
  split
  ·exact if_neg h.1
  ·rfl
theorem tY {kindOf:Str->Option NameKind}:∀ {names:List Str}{vals:List Value}{m:Str->Option Value}{i:Nat}{n:Str}{v:Value},names.Nodup->names[i]? = some n->vals[i]? = some v->kindOf n=some .local->bindL kindOf (names.zip vals) m n=some v
 | [],_,_,_,_,_,_,h,_,_=>by simp at h
 | _::_,[],_,_,_,_,_,_,h,_=>by simp at h
 | a::names,b::vals,m,0,n,v,hd,h1,h2,hk=>by
  simp at h1 h2;subst h1;subst h2
  rw [List.zip_cons_cons]
  unfold bindL
  rw [mR (List.nodup_cons.mp hd).1,if_pos hk,if_pos rfl]
 | a::names,b::vals,m,i+1,n,v,hd,h1,h2,hk=>by
  simp at h1 h2
  rw [List.zip_cons_cons]
  unfold bindL
  exact tY (List.nodup_cons.mp hd).2 h1 h2 hk
theorem mS {kindOf:Str->Option NameKind}:∀ {names:List Str}{vals:List Value}{m:Str->Option Value}{n:Str},n ∉ names->bindC kindOf (names.zip vals) m n=m n
 | [],_,_,_,_=>rfl
 | _::_,[],_,_,_=>rfl
 | a::names,b::vals,m,n,h=>by
  simp only [List.mem_cons,not_or] at h
  rw [List.zip_cons_cons]
  unfold bindC
  rw [mS h.2]
  split
  ·rfl
  ·exact if_neg h.1
theorem tZ {kindOf:Str->Option NameKind}:∀ {names:List Str}{vals:List Value}{m:Str->Option Value}{i:Nat}{n:Str}{v:Value},names.Nodup->names[i]? = some n->vals[i]? = some v->kindOf n≠some .local->bindC kindOf (names.zip vals) m n=some v
 | [],_,_,_,_,_,_,h,_,_=>by simp at h
 | _::_,[],_,_,_,_,_,_,h,_=>by simp at h
 | a::names,b::vals,m,0,n,v,hd,h1,h2,hk=>by
  simp at h1 h2;subst h1;subst h2
  rw [List.zip_cons_cons]
  unfold bindC
  rw [mS (List.nodup_cons.mp hd).1,if_neg hk,if_pos rfl]
 | a::names,b::vals,m,i+1,n,v,hd,h1,h2,hk=>by
  simp at h1 h2
  rw [List.zip_cons_cons]
  unfold bindC
  exact tZ (List.nodup_cons.mp hd).2 h1 h2 hk
theorem V9:∀ (names:List (Str×NameKind)) (n:Nat) (acc:List (Str×Addr)) (x:Str),((x,NameKind.cell)∈names∨(acc.lookup x).isSome=true)->((cellsFrom n names acc).lookup x).isSome=true
 | [],_,_,_,h=>by
  rcases h with h | h
  ·cases h
  ·exact h
 | (a,k)::r,n,acc,x,h=>by
  unfold cellsFrom
  split
  ·rename_i hk
   refine V9 r _ _ x ?_
   rcases h with h | h
   ·rcases List.mem_cons.mp h with h | h
    ·cases h;right;simp
    ·exact Or.inl h
   ·right
    rw [List.lookup_cons]
    split
    ·rfl
    ·exact h
  ·rename_i hk
   refine V9 r _ _ x ?_
   rcases h with h | h
   ·rcases List.mem_cons.mp h with h | h
    ·cases h;simp at hk
    ·exact Or.inl h
   ·exact Or.inr h
theorem qY:∀ {l:List Str},Mini.wE l=true->l.Nodup
 | [],_=>List.nodup_nil
 | x::l,h=>by
  simp only [Mini.wE,Bool.and_eq_true,Bool.not_eq_true'] at h
  exact List.nodup_cons.mpr ⟨by simpa using h.1,qY h.2⟩
theorem Ag4 {M:Model}{A:Around}{E:Value->Shared->Prop}{s:Shared}{scope:Scope}{globals:Addr}{binds:List (Str×Value)}{qual:Str}{func:Option Addr}{code:Value}{builtins:Addr}{Q:Env->Shared->Prop}
  (hk:scope.kind=.function)
  (hkind:∀ x∈binds,scope.names.lookup x.1=some .local∨(scope.names.lookup x.1=some .cell/\((cellsFrom (s.heap.objs.size+1) scope.names []).lookup x.1).isSome=true))
  (hQ:∀ env,env=newEnv scope s.heap.objs.size globals (cellsFrom (s.heap.objs.size+1) scope.names []) qual func code none builtins ->
   ∀ s',InCallC s env.locals (bindL env.kindOf binds fun zz=>none) env.cells (bindC env.kindOf binds fun zz=>none) s'->s.toks<=s'.toks->(∀ n v r,binds=(n,v)::r->scope.names.lookup n=some .local->s.toks<s'.toks)->Q env s') :
  wpAny M A (newFunctionEnv scope globals [] binds qual func code none builtins) Q E s:=by
 cases binds with
 | nil=>exact free (wpAny_newFunctionEnv_cells hk hkind fun env he s' W ht=>hQ env he s' W ht fun zz zz zz e=>by cases e)
 | cons b r =>
  obtain ⟨n,v⟩:=b
  by_cases hl:scope.names.lookup n=some .local
  ·refine free ?_
   simp only [newFunctionEnv,Option.isSome_none,Bool.false_eq_true,if_false]
   refine wpAny_bind (wpAny_alloc ?_)
   refine wpAny_bind (wpAny_layCells _ (fun name kind cells=>by cases hkc:kind==NameKind.cell<;>simp [hkc]) _ _ _ _ ?_)
   have ok:=cellsFrom_ok scope.names (s.heap.push { cls:=.type "frame",data:=.dict #[] }) (s.heap.objs.size+1) [] ⟨fun zz zz hm=>(nomatch hm),List.Pairwise.nil⟩ (by rw [Heap.size_push];exact A4 _)
   rw [Heap.size_push] at ok
   rw [show ({ s with heap:=s.heap.push { cls:=.type "frame",data:=.dict #[] } }:Shared).heap.objs.size=s.heap.objs.size+1 from Heap.size_push ..]
   rw [List.forIn_cons]
   generalize hE:newEnv scope s.heap.objs.size globals (cellsFrom (s.heap.objs.size+1) scope.names []) qual func code none builtins=env at hQ
   have hEk:env.scope=scope:=by rw [<- hE];rfl
   have hEl:env.locals=s.heap.objs.size:=by rw [<- hE];rfl
   have hEc:env.cells=cellsFrom (s.heap.objs.size+1) scope.names []:=by rw [<- hE];rfl
   have x:InCallC s env.locals (fun zz=>none) env.cells (fun zz=>none) { s with heap:=pushCells (s.heap.push { cls:=.type "frame",data:=.dict #[] }) scope.names }:=by
    rw [hEl,hEc]
    exact ⟨⟨⟨_,_,rfl⟩,(Heap.Ns.new s.heap (.type "frame")).keeps (pushCells_keeps _ _),fun b o e=>pushCells_keeps _ _ b o (Heap.get?_push_of_some _ e),A4 _⟩,
     fun n c hc=>(ok.empty n c (mem_of_lookup hc)).1,ok.apart,fun n c hm=>(ok.empty n c hm).2⟩
   have hkl:env.kindOf n=some .local:=by show env.scope.names.lookup n=_;rw [hEk];exact hl
   show wpAny M A ((do storeName (newEnv scope s.heap.objs.size globals (cellsFrom (s.heap.objs.size+1) scope.names []) qual func code none builtins) n v;pure (ForInStep.yield PUnit.unit)) >>= _ >>= _) _ _ _
   rw [hE]
   refine wpAny_bind (wpAny_bind (wpAny_bind (wpAny_storeName_local hkl x.toInCall.ns (fun h' hn' hs'=>wpAny_pure ?_) (by rw [hEk,hk];rfl))))
   have x':InCallC s env.locals (fun y=>if y=n then some v else none) env.cells (fun zz=>none) { s with heap:=h',toks:=s.toks+1 } :=
    ⟨⟨⟨h',_,rfl⟩,hn',fun b o e=>hs'.extBut b o (Nat.ne_of_lt (A8 (Heap.lt_size e) x.toInCall.fresh)) (x.toInCall.keep b o e),x.toInCall.fresh⟩,
     fun k c hc=>(x.cell k c hc).sameBut hs' (Nat.ne_of_gt (x.above k c (mem_of_lookup hc))),x.apart,x.above⟩
   refine free (wpAny_bindParams (s₀:=s) (env:=env) _ (fun zz zz zz=>by rw [<- hE];rfl) (by rw [hEk];exact hk) r _ _ _ _ x' (fun y hy=>?_) fun s'' x'' ht=>wpAny_pure fun ht'=>?_)
   ·have:=hkind y (List.mem_cons_of_mem _ hy)
    show env.scope.names.lookup y.1=_∨(env.scope.names.lookup y.1=_/\_)
    rw [hEk,hEc];exact this
   ·have hq:=hQ env rfl s'' (by unfold bindL bindC;rw [if_pos hkl,if_pos hkl];exact x'') ht' fun zz zz zz zz zz=>ht
    rw [<- hE] at hq
    exact hq
  ·exact free (wpAny_newFunctionEnv_cells hk hkind fun env he s' W ht=>hQ env he s' W ht fun n' v' r' e hl'=>by cases e;exact absurd hl' hl)
noncomputable def I8 (X:Cx) (ls:List Nat):Cx:={ X with gl:={ X.gl with lits:=ls } }
theorem cR.lits (G:cR X) (ls:List Nat):cR (I8 X ls):=⟨G.g,G.b,G.nolimit,G.globs,G.fns,G.bf,G.bt⟩
structure In (X:Cx) (fn:Mini.Fn) (φ:List Addr) (H:Mini.Heap) (vs:List V) (scope:Scope) (s:Shared) (env:Env) (s₁:Shared):Prop where
 L:E5 (I8 X fn.lits) φ (fn.names.map Str.ofString) env (Mini.frame fn vs) s₁
 F:I4 X.h₀ φ s φ H s₁
 keep:∀ b o,s.heap.get? b=some o->s₁.heap.get? b=some o
 own:∀ b,b<s.heap.objs.size->¬ Own env b
 fr:env.frame=some env.locals
 new:s.heap.objs.size<=env.locals
 sc:env.scope=scope
theorem In.fwd {fn:Mini.Fn}{φ:List Addr}{H:Mini.Heap}{vs:List V}{scope:Scope}{s:Shared}{env:Env}{s₁:Shared}{φ':List Addr}{H':Mini.Heap}{s':Shared}(I:In X fn φ H vs scope s env s₁) (F2:K7 X.h₀ env φ s₁ φ' H' s'):I4 X.h₀ φ s φ' H' s':=by
 obtain ⟨⟨h2,t2,e2⟩,k2,z2,w2,⟨ψ,g2,m2⟩,o2⟩:=F2
 obtain ⟨⟨⟨h1,t1,e1⟩,_,z1,w1⟩,_,_⟩:=I.F
 exact ⟨⟨⟨h2,t2,by rw [e2,e1]⟩,fun b o hb e=>k2 b o hb (I.own b (Heap.lt_size e)) (I.keep b o e),A3 z1 z2,A3 w1 w2⟩,⟨ψ,g2,fun a ha=>A3 z1 (m2 a ha)⟩,o2⟩
theorem lM (G:cR X) (hd:A.depth<recursionLimit) {f:String}{fa:Addr}{fn:Mini.Fn}{o:Obj}{params:Arguments}{body bodyC:List Stmt}{scope:Scope}{pm cd doc:Value}{vs:List V}{xs:List Value}{H:Mini.Heap}{φ:List Addr}{s:Shared}{Kr:Result->Shared->Prop}
  (ho:X.h₀.get? fa=some o) (hdt:o.data=.func (docDef (Str.ofString f) params body scope pm cd doc)) (hcd:X.h₀.CodeRec cd (Str.ofString f)) (hck:Mini.tN X.gl fn params bodyC scope=true) (hlen:vs.length=fn.params)
  (O:Ok X.h₀ φ H s.heap) (rs:C7 X.h₀ φ s.heap vs xs) (hpos:X.gl.pos=true->0<s.toks∨fn.bump=true) (hlit:∀ j∈fn.lits,∀ x,xs[j]? = some x->∃ y t,x=.str y t/\0<t/\t<s.toks)
  (run:∀ env s₁,In X fn φ H vs scope s env s₁->Mini.N7 (I8 X fn.lits).gl env.scope.names (fn.names.map Str.ofString) fn.body bodyC=true ->
   wpAny (M1 X) (A.deeper env) (execs body env) (fun fl s'=>Kr (.ok (.ret (match fl with | .ret v=>v | _=>.none))) s') (fun e s'=>wpAny (M1 X) (A.deeper env) (leaving env e) (fun zz s''=>Kr (.error e) s'') (fun e' s''=>Kr (.error e') s'') s') s₁) :
  codeAny (M1 X) A (.call (.ref fa) ⟨xs,[]⟩) Kr s:=by
 unfold Mini.tN at hck
 simp only [Bool.and_eq_true,List.isEmpty_iff,Option.isNone_iff_eq_none,decide_eq_true_eq,beq_iff_eq,List.all_eq_true] at hck
 obtain ⟨⟨⟨⟨⟨⟨⟨⟨⟨⟨⟨⟨⟨c1,c2⟩,c3⟩,c4⟩,c5⟩,c6⟩,c7⟩,c8⟩,c9⟩,c10⟩,c11⟩,c12⟩,c14⟩,c13⟩:=hck
 unfold Mini.Bn7 at c1
 simp only [Bool.and_eq_true,beq_iff_eq,Bool.not_eq_true',List.all_eq_true,bne_iff_ne] at c1
 obtain ⟨⟨⟨d1,d2⟩,d3⟩,d4⟩:=c1
 have hnd:=qY c2
 have hxl:xs.length=fn.params:=by rw [<- rs.length,hlen]
 have hpl:params.args.length=xs.length:=by
  have:=congrArg List.length c10
  simp at this
  lia
 have hndA:(params.args.map (·.arg)).Nodup:=by
  rw [c10,List.map_take]
  exact hnd.sublist (List.take_sublist _ _)
 have hbind:=Bu0 (name:=Str.ofString f) (body:=body) (scope:=scope) (pm:=pm) (cd:=cd) (doc:=doc) c4 c5 c6 c7 hpl hndA
 have ho':=O.base _ _ ho
 have hcd':s.heap.CodeRec cd (Str.ofString f):=hcd.keeps O.base
 have hlim':s.heap.NoLimit:=G.nolimit.keeps O.base
 refine codeAny_call_function hd ho' hdt d3 d2 rfl hcd' ?_
 rw [hbind]
 have hroom:=O.room
 have hkindA:∀ x∈(params.args.map (·.arg)).zip xs,scope.names.lookup x.1=some .local∨(scope.names.lookup x.1=some .cell/\((cellsFrom (s.heap.objs.size+1) scope.names []).lookup x.1).isSome=true):=fun x hx=>by
  have hx1:=(List.of_mem_zip (a:=x.1) (b:=x.2) hx).1
  obtain ⟨ar,har,e⟩:=List.mem_map.mp hx1
  have:=c11 ar har
  simp only [Bool.or_eq_true,beq_iff_eq] at this
  rw [<- e]
  rcases this with q | q
  ·exact Or.inl q
  ·exact Or.inr ⟨q,V9 _ _ _ _ (Or.inl (mem_of_lookup q))⟩
 refine wpAny_pure (Ag4 d1 hkindA fun env he s₁ W htk hbump=>?_)
 have hpos1:X.gl.pos=true->0<s₁.toks:=fun hp=>by
  rcases hpos hp with q | e2
  ·exact A8 q htk
  ·rw [e2] at c14
   simp only [Bool.not_true,Bool.false_or] at c14
   unfold Mini.Ab7 at c14
   cases ha:params.args with
   | nil=>rw [ha] at c14;cases c14
   | cons a0 r0 =>
    rw [ha] at c14
    have c14:scope.names.lookup a0.arg=some .local:=by simpa using c14
    cases hx:xs with
    | nil=>rw [hx,ha] at hpl;simp at hpl
    | cons x0 xr =>
     exact A9 (B0 _) (hbump a0.arg x0 ((r0.map (·.arg)).zip xr) (by rw [ha,hx];rfl) c14)
 refine ⟨hlim'.keeps W.toInCall.keep,codeAny_func ?_⟩
 have eL:env.locals=s.heap.objs.size:=by rw [he];rfl
 have eS:env.scope=scope:=by rw [he];rfl
 have eC:env.cells=cellsFrom (s.heap.objs.size+1) scope.names []:=by rw [he];rfl
 have eG:env.globals=mainGlobals:=by rw [he];rfl
 have eB:env.builtins=builtinsNs:=by rw [he];rfl
 have hz1:s.heap.objs.size<=s₁.heap.objs.size:=B5 (by have:=W.toInCall.ns.lt;rw [eL] at this;exact this)
 obtain ⟨h1,tk1,e1⟩:=W.toInCall.same
 have F1:I4 X.h₀ φ s φ H s₁:=by
  rw [e1]
  exact I4.ext O (fun b o e=>by have:=W.toInCall.keep b o e;rwa [e1] at this) (by rw [e1] at hz1;exact hz1) (by rw [e1] at htk;exact htk)
 have rs1:=F1.vals O rs
 have kindEq:∀ x,env.kindOf x=scope.names.lookup x:=fun x=>by show env.scope.names.lookup x=_;rw [eS]
 have argAt:∀ (i:Nat) (x:Str),(fn.names.map Str.ofString)[i]? = some x->i<fn.params->(params.args.map (·.arg))[i]? = some x:=fun i x hx hi=>by
  rw [c10,List.map_take,List.getElem?_take,if_pos hi];exact hx
 have frameAt:∀ i,i<fn.params->∃ v,vs[i]? = some v/\((Mini.frame fn vs)[i]?).getD none=some v:=fun i hi=>by
  have hi':i<vs.length:=by rw [hlen];exact hi
  refine ⟨vs[i],List.getElem?_eq_getElem hi',?_⟩
  unfold Mini.frame
  rw [List.getElem?_append_left (by simpa using hi')]
  simp [hi']
 have frameOff:∀ (i:Nat) (x:Str),(fn.names.map Str.ofString)[i]? = some x->¬ i<fn.params->((Mini.frame fn vs)[i]?).getD none=none:=fun i x hx hi=>by
  unfold Mini.frame
  rw [List.getElem?_append_right (by rw [B6,hlen];exact Nat.le_of_not_lt hi)]
  rw [List.getElem?_replicate]
  split<;>rfl
 have L1:E5 (I8 X fn.lits) φ (fn.names.map Str.ofString) env (Mini.frame fn vs) s₁:=by
  refine ⟨by rw [eS];exact d1,eG,eB,?_,hnd,hpos1,⟨_,W.toInCall.ns,fun i x hx hk=>?_⟩,fun i x hx hk=>?_,?_,fun x c hc=>?_,fun x c hc=>⟨_,W.cell x c hc⟩,fun x y c hx hy=>?_⟩
  ·unfold Mini.frame;simp;lia
  ·by_cases hi:i<fn.params
   ·obtain ⟨v,hv,hfr⟩:=frameAt i hi
    obtain ⟨y,hy,ry⟩:=rs1.get hv
    have hb:=tY (kindOf:=env.kindOf) (m:=fun zz=>none) hndA (argAt i x hx hi) hy hk
    rw [hfr,hb]
    exact ⟨⟨y,rfl,ry⟩,fun hil z hz=>by
     cases hz
     obtain ⟨l,t,e,p1,p2⟩:=hlit i hil y hy
     exact ⟨l,t,e,p1,A8 p2 htk⟩⟩
   ·rw [frameOff i x hx hi]
    refine ⟨trivial,fun hil=>?_⟩
    exact absurd (c12 i hil) hi
  ·have hk':env.kindOf x=some .cell:=by
    rcases hk with hk | hk
    ·exact hk
    ·rw [kindEq] at hk
     exact absurd rfl (d4 _ (mem_of_lookup hk))
   have hcm:(x,NameKind.cell)∈scope.names:=by rw [kindEq] at hk';exact mem_of_lookup hk'
   obtain ⟨c,hc⟩:=Option.isSome_iff_exists.mp (V9 scope.names (s.heap.objs.size+1) [] x (Or.inl hcm))
   rw [<- eC] at hc
   refine ⟨c,_,hc,W.cell x c hc,?_⟩
   by_cases hi:i<fn.params
   ·obtain ⟨v,hv,hfr⟩:=frameAt i hi
    obtain ⟨y,hy,ry⟩:=rs1.get hv
    have hb:=tZ (kindOf:=env.kindOf) (m:=fun zz=>none) hndA (argAt i x hx hi) hy (by rw [hk'];simp)
    rw [hfr,hb]
    exact ⟨⟨y,rfl,ry⟩,fun hil z hz=>by
     cases hz
     obtain ⟨l,t,e,p1,p2⟩:=hlit i hil y hy
     exact ⟨l,t,e,p1,A8 p2 htk⟩⟩
   ·rw [frameOff i x hx hi]
    refine ⟨trivial,fun hil=>?_⟩
    exact absurd (c12 i hil) hi
  ·rw [eL];exact hroom
  ·have:=W.above x c (mem_of_lookup hc)
   rw [eL] at this
   exact A3 hroom (B5 this)
  ·exact name_of_addr W.apart (mem_of_lookup hx) (mem_of_lookup hy)
 refine run env s₁ ⟨L1,F1,W.toInCall.keep,fun b hb hown=>?_,by rw [he];rfl,by rw [eL];exact A4 _,eS⟩ (by rw [eS];exact c13)
 rcases hown with rfl | ⟨x,hx⟩
 ·rw [eL] at hb;exact Nat.lt_irrefl _ hb
 ·have:=W.above x b (mem_of_lookup hx)
  rw [eL] at this
  exact absurd hb (Nat.not_lt.mpr (B5 this))
theorem wU:∀ (n:Nat) (X:Cx) (A:Around),cR X->A.handled=none->A.depth+n<=recursionLimit->A.units+3 * n+106<cLine->bP X A (Mini.callN X.P n)
 | 0,X,A,G,hh,hd,hu=>fun f ls fa vs Q H φ s xs K EX hls hm hC=>by
  exact False.elim hC
 | n+1,X,A,G,hh,hd,hu=>fun f ls fa vs Q H φ s xs K EX hls hm hC O rs hpos hlit k=>by
  obtain ⟨fn,fa',o,params,body,scope,pm,cd,doc,hP,hfl,hm',ho,hdt,hcd,hck⟩:=G.fns f ls hls
  rw [hm] at hm';cases hm'
  replace hC:(match X.P f with | some fn=>_ | none=>_):=hC
  rw [hP] at hC
  obtain ⟨hlen,hw⟩:=hC
  refine wpAny_call (lM G (A8 (Nat.lt_add_of_pos_right (Nat.succ_pos n)) hd) ho hdt hcd hck hlen O rs (fun hp=>(hpos hp).imp id fun ⟨fn',e1,e2⟩=>by rw [hP] at e1;cases e1;exact e2) (fun j hj=>hlit j (hfl▸hj)) fun env s₁ I c13=>?_)
  have hCn:=wU n (I8 X fn.lits) (A.deeper env) (G.lits _) hh (by show A.depth+1+n<=_;rw [Nat.add_right_comm];exact hd) (by show A.units+3+3 * n+106<_;rw [Nat.add_assoc A.units 3,Nat.add_comm 3];exact hu)
  refine bO (X:=I8 X fn.lits) (A:=A.deeper env) (C:=Mini.callN X.P n) (G.lits _) hh (A9 (Nat.add_le_add_right (Nat.add_le_add_left (Nat.le_add_left 3 (3 * n)) _) _) hu) hCn fn.body body env _ _ _ H φ s₁ _ _ c13 I.L I.F.ok hw fun fl ρ' H' φ' ff s' q F2 L2 r=>?_
  have FF:=I.fwd F2
  cases fl with
  | next=>obtain rfl:=r;exact k _ _ _ _ _ q FF (by rfl)
  | cont=>obtain rfl:=r;exact k _ _ _ _ _ q FF (by rfl)
  | ret v =>
   obtain ⟨x,rfl,rx⟩:=r
   exact k _ _ _ _ _ q FF rx
end
end MiniS
namespace MiniS
open PySem PySem.Calls PyProof.Rows
open Mini (V D)
abbrev frs (fr:List Env):List Addr:=fr.filterMap (·.frame)
noncomputable def P8 (h₀:Heap) (fr:List Env) (h:Heap):Prop:=∀ v∈fr,v.scope.kind=.function/\v.frame=some v.locals/\h₀.objs.size<=v.locals/\∃ m,h.Ns v.locals m
theorem P8.mem {h₀ h:Heap}{fr:List Env}(hl:P8 h₀ fr h) {b:Addr}(hb:b∈frs fr):h₀.objs.size<=b/\∃ m,h.Ns b m:=by
 obtain ⟨v,hv,e⟩:=List.mem_filterMap.mp hb
 obtain ⟨_,e2,h3,h4⟩:=hl v hv
 rw [e2] at e;cases e
 exact ⟨h3,h4⟩
theorem P8.funs {h₀ h:Heap}:∀ {fr:List Env},P8 h₀ fr h->h.FunFrames h₀ fr
 | [],_=>trivial
 | v::fr,hl=>by
  obtain ⟨hk,hf,hn,m,hns⟩:=hl v (.head _)
  exact Heap.FunFrames.cons (by rw [hk];decide) hf hns (Heap.get?_none_of_le hn) (P8.funs fun u hu=>hl u (.tail _ hu))
theorem P8.not {h₀ h:Heap}{fr:List Env}(hl:P8 h₀ fr h) {b:Addr}{o:Obj}(ho:h.get? b=some o) (hd:∀ es n,o.data≠.dict es n):b ∉ frs fr:=fun hb=>by
 obtain ⟨_,m,o',es,ep,ho',hd',_⟩:=hl.mem hb
 rw [ho] at ho';cases ho'
 exact hd es ep hd'
theorem P8.tail {h₀ h:Heap}{v:Env}{fr:List Env}(hl:P8 h₀ (v::fr) h):P8 h₀ fr h:=fun u hu=>hl u (.tail _ hu)
noncomputable def iF (C:Addr) (g h:Heap) (e:Addr) (fl:Value):Prop:=∃ oe vs T oT ts,h.get? e=some oe/\oe.cls=.ref C/\oe.data=.fields vs/\g.get? e=none/\vs[1]? = some (.ref T)/\g.get? T=none/\T≠e/\h.get? T=some oT/\oT.data=.fields ts/\ts[3]? = some fl
noncomputable def Exc (C:Addr) (g h:Heap) (e:Addr):Prop:=iF C g h e .none∨∃ oe vs,h.get? e=some oe/\oe.cls=.ref C/\oe.data=.fields vs/\g.get? e=none/\vs[1]? = some .none
noncomputable def Sub (g h:Heap):Prop:=∀ b o,g.get? b=some o->∃ o',h.get? b=some o'
theorem Sub.none {g h:Heap}(x:Sub g h) {b:Addr}(hb:h.get? b=none):g.get? b=none:=by
 cases e:g.get? b with
 | none=>rfl
 | some o=>obtain ⟨o',e'⟩:=x b o e;rw [hb] at e';cases e'
theorem Sub.trans {g h k:Heap}(x:Sub g h) (y:Sub h k):Sub g k:=fun b o e=>let ⟨_,e'⟩:=x b o e;y b _ e'
theorem iF.sub {C:Addr}{g g' h:Heap}{e:Addr}{fl:Value}(x:iF C g h e fl) (s:Sub g' g):iF C g' h e fl:=by
 obtain ⟨oe,vs,T,oT,ts,a1,a2,a3,a4,a5,a6,a7⟩:=x
 exact ⟨oe,vs,T,oT,ts,a1,a2,a3,s.none a4,a5,s.none a6,a7⟩
theorem Exc.sub {C:Addr}{g g' h:Heap}{e:Addr}(x:Exc C g h e) (s:Sub g' g):Exc C g' h e:=by
 rcases x with x | ⟨oe,vs,a1,a2,a3,a4,a5⟩
 ·exact Or.inl (x.sub s)
 ·exact Or.inr ⟨oe,vs,a1,a2,a3,s.none a4,a5⟩
structure Z5 (F:List Addr) (g h h':Heap):Prop where
 keepG:∀ b o o',g.get? b=some o'->b ∉ F->h.get? b=some o->h'.get? b=some o
 keepD:∀ b o,b ∉ F->(∀ vs,o.data≠.fields vs)->h.get? b=some o->h'.get? b=some o
 slot:∀ b o,b∈F->(∀ vs,o.data≠.fields vs)->h.get? b=some o->∃ sl,h'.get? b=some { o with slots:=sl }
theorem Z5.ns {F:List Addr}{g h h':Heap}(N:Z5 F g h h') {a:Addr}{m:Str->Option Value}(x:h.Ns a m):h'.Ns a m:=by
 obtain ⟨o,es,ep,ho,hd,q⟩:=x
 by_cases ha:a∈F
 ·obtain ⟨sl,e⟩:=N.slot a o ha (fun vs e=>by rw [hd] at e;cases e) ho
  exact ⟨_,es,ep,e,hd,q⟩
 ·exact ⟨o,es,ep,N.keepD a o ha (fun vs e=>by rw [hd] at e;cases e) ho,hd,q⟩
theorem Z5.trans {F:List Addr}{g h k l:Heap}(x:Z5 F g h k) (y:Z5 [] g k l):Z5 F g h l :=
 ⟨fun b o o' hg hb e=>y.keepG b o o' hg (List.not_mem_nil) (x.keepG b o o' hg hb e),fun b o hb hd e=>y.keepD b o (List.not_mem_nil) hd (x.keepD b o hb hd e),fun b o hb hd e=>by
  obtain ⟨sl,e1⟩:=x.slot b o hb hd e
  exact ⟨sl,y.keepD b _ (List.not_mem_nil) hd e1⟩⟩
section
variable {M:Model}{A:Around}{E:Value->Shared->Prop}{s:Shared}
theorem Aa0 {h₀ g:Heap}{env:Env}{outer:List Env}{L e C:Addr}{oe:Obj}{vs:Array Value}{head:Value}{hadNext:Bool}{Q:Unit->Shared->Prop}
  (hfr:A.frames=some (env::outer)) (hl:s.heap.FunFrames h₀ (env::outer)) (hf:env.frame=some L) (he:s.heap.get? e=some oe) (hc:oe.cls=.ref C) (hd:oe.data=.fields vs) (hsz:1<vs.size) (hge:g.get? e=none) (hsub:Sub g s.heap)
  (h:∀ h',Z5 (frs (env::outer)) g s.heap h'->iF C g h' e (rawInt L)->Q () { s with heap:=h' }) :
  wpAny M A (do let a <- frameOf env;let pl <- entryPlaceOf L hadNext;let b <- EntryCells.newEntry head a .none (rawInt L) .none pl;setField (.ref e) 1 b) Q E s:=by
 have hene:e ∉ (env::outer).filterMap (·.frame):=fun hm=>by
  obtain ⟨_,o,ho,hnf⟩:=hl.mem hm
  rw [he] at ho;injection ho with ho;subst ho;exact hnf vs hd
 refine wpAny_bind (wpAny_frameOf_fun hfr hl hf fun h₁ hs₁=>?_)
 refine wpAny_bind (wpAny_entryPlaceOf fun pl hpl=>?_)
 unfold EntryCells.newEntry newFields
 refine wpAny_bind (wpAny_newObj_type ?_ (hpl.sizeOk5 _ _ _ _ _))
 have he₁:h₁.get? e=some oe:=(hs₁.2.1 e hene).trans he
 have he₂:=Heap.get?_push_of_some (h:=h₁) { cls:=.type "traceback",dict:=none,data:=.fields ([head,.ref L,.none,rawInt L,.none]++(if pl.isEmpty then List.replicate 6 Value.none else pl)).toArray } he₁
 refine wpAny_setField he₂ hd hsz (h _ ?_ ?_)
 all_goals
  have hTe:h₁.objs.size≠e:=Nat.ne_of_gt (Heap.lt_size he₁)
  have hd₃:=Obj.data_mapFields hd (·.setIfInBounds 1 (Value.ref h₁.objs.size))
  have he₃:=Heap.get?_update_self (Obj.mapFields (·.setIfInBounds 1 (Value.ref h₁.objs.size))) he₂ (Obj.isFreed_of_fields hd₃)
  have hT₃:=(Heap.get?_update_other (h₁.push { cls:=.type "traceback",dict:=none,data:=.fields ([head,.ref L,.none,rawInt L,.none]++(if pl.isEmpty then List.replicate 6 Value.none else pl)).toArray })
   (Obj.mapFields (·.setIfInBounds 1 (Value.ref h₁.objs.size))) (Ne.symm hTe)).trans (Heap.get?_push_size h₁ rfl)
  have keep:∀ b o,b≠e->h₁.get? b=some o ->
    ((h₁.push { cls:=.type "traceback",dict:=none,data:=.fields ([head,.ref L,.none,rawInt L,.none]++(if pl.isEmpty then List.replicate 6 Value.none else pl)).toArray }).update e (Obj.mapFields (·.setIfInBounds 1 (Value.ref h₁.objs.size)))).get? b=some o :=
   fun b o hbe hb=>by
    rw [Heap.get?_update_other _ _ (Ne.symm hbe)]
    exact Heap.get?_push_of_some _ hb
 ·refine ⟨fun b o o' hg hb hbo=>keep b o (fun q=>by rw [q,hge] at hg;cases hg) ((hs₁.2.1 b hb).trans hbo),fun b o hb hnf hbo=>keep b o (fun q=>?_) ((hs₁.2.1 b hb).trans hbo),fun b o hb zz hbo=>?_⟩
  ·rw [q,he] at hbo;injection hbo with hbo;subst hbo;exact hnf vs hd
  ·obtain ⟨sl,hsl⟩:=hs₁.2.2 b o hbo
   exact ⟨sl,keep b _ (fun q=>hene (q▸hb)) hsl⟩
 ·have hTg:g.get? h₁.objs.size=none:=by
   cases q:g.get? h₁.objs.size with
   | none=>rfl
   | some o =>
    obtain ⟨o',e'⟩:=hsub _ o q
    have:=Heap.lt_size e'
    rw [hs₁.1] at this
    exact absurd this (Nat.lt_irrefl _)
  exact ⟨_,_,h₁.objs.size,_,_,he₃,(Obj.cls_mapFields _ _).trans hc,hd₃,hge,by simp [hsz],hTg,hTe,hT₃,rfl,by first | (simp;done) | (rcases hpl with rfl | ⟨_,_,_,_,_,_,_,rfl⟩<;>simp)⟩
theorem Aw0 {h₀ g:Heap}{env:Env}{outer:List Env}{L e C:Addr}{Q:Unit->Shared->Prop}
  (hfr:A.frames=some (env::outer)) (hl:s.heap.FunFrames h₀ (env::outer)) (hf:env.frame=some L) (hx:Exc C g s.heap e) (hsub:Sub g s.heap)
  (h:∀ h',Z5 (frs (env::outer)) g s.heap h'->iF C g h' e (rawInt L)->Q () { s with heap:=h' }):wpAny M A (noteFrame (.ref e) env) Q E s:=by
 unfold noteFrame
 simp only [hf]
 rcases hx with ⟨oe,vs,T,oT,ts,he,hc,hd,hge,h1,hgT,hTe,hT,hdT,h3⟩ | ⟨oe,vs,he,hc,hd,hge,h1⟩
 ·refine wpAny_bind (wpAny_field he hd h1 ?_)
  rw [if_pos (show (Value.ref T != Value.none)=true from by simp)]
  refine wpAny_bind (wpAny_field hT hdT h3 ?_)
  rw [if_neg (show ¬ ((Value.none==rawInt L)=true) from by simp [rawInt])]
  refine wpAny_bind (wpAny_setField hT hdT (Array.getElem?_eq_some_iff.mp h3).1 ?_)
  have other:∀ b,b≠T->(s.heap.update T (Obj.mapFields (·.setIfInBounds 3 Value.none))).get? b=s.heap.get? b:=fun b hb=>Heap.get?_update_other _ _ (Ne.symm hb)
  have noRecord:∀ b o,s.heap.get? b=some o->(∀ vs,o.data≠.fields vs)->b≠T:=fun b o hb hnf q=>by
   rw [q,hT] at hb;injection hb with hb;subst hb;exact hnf ts hdT
  refine Aa0 (g:=g) hfr (hl.of_keeps fun b o hb hnf=>⟨o,(other b (noRecord b o hb hnf)).trans hb,rfl⟩) hf ((other e (Ne.symm hTe)).trans he) hc hd (Array.getElem?_eq_some_iff.mp h1).1 hge ?_ fun h' N x=>h h' ⟨fun b o o' hg hb hbo=>N.keepG b o o' hg hb ((other b fun q=>by rw [q,hgT] at hg;cases hg).trans hbo),fun b o hb hnf hbo=>N.keepD b o hb hnf ((other b (noRecord b o hbo hnf)).trans hbo),fun b o hb hnf hbo=>N.slot b o hb hnf ((other b (noRecord b o hbo hnf)).trans hbo)⟩ x
  exact fun b o hbo=>by
   obtain ⟨o',e'⟩:=hsub b o hbo
   exact ⟨o',(other b fun q=>by rw [q,hgT] at hbo;cases hbo).trans e'⟩
 ·refine wpAny_bind (wpAny_field he hd h1 ?_)
  rw [if_neg (by decide)]
  exact Aa0 (g:=g) hfr hl hf he hc hd (Array.getElem?_eq_some_iff.mp h1).1 hge hsub h
theorem lE {g:Heap}{e C:Addr}{fl:Value}{Q:Unit->Shared->Prop}(hx:iF C g s.heap e fl) (h:∀ h',Z5 [] g s.heap h'->iF C g h' e .none->Q () { s with heap:=h' }):wpAny M A (setFlight (.ref e) none) Q E s:=by
 obtain ⟨oe,vs,T,oT,ts,he,hc,hd,hge,h1,hgT,hTe,hT,hdT,h3⟩:=hx
 have hsz3:3<ts.size:=(Array.getElem?_eq_some_iff.mp h3).1
 have other:∀ b,b≠T->(s.heap.update T (Obj.mapFields (·.setIfInBounds 3 ((none:Option Addr).elim Value.none fun f=>rawInt f)))).get? b=s.heap.get? b :=
  fun b hb=>Heap.get?_update_other _ _ (Ne.symm hb)
 unfold setFlight
 refine wpAny_bind (wpAny_field he hd h1 ?_)
 rw [if_pos (show (Value.ref T != Value.none)=true from by simp)]
 refine wpAny_setField hT hdT hsz3 (h _ ⟨fun b o o' hg zz hbo=>(other b fun q=>by rw [q,hgT] at hg;cases hg).trans hbo,fun b o zz hnf hbo=>(other b fun q=>?_).trans hbo,fun b o hb=>(nomatch hb)⟩ ?_)
 ·rw [q,hT] at hbo;injection hbo with hbo;subst hbo;exact hnf ts hdT
 ·exact ⟨oe,vs,T,_,_,(other e (Ne.symm hTe)).trans he,hc,hd,hge,h1,hgT,hTe,Heap.get?_update_self _ hT (Obj.isFreed_of_fields (Obj.data_mapFields hdT _)),Obj.data_mapFields hdT _,by simp [hsz3]⟩
theorem Ap2 {h₀ g:Heap}{env:Env}{outer:List Env}{L e C:Addr}{Q:Unit->Shared->Prop}
  (hfr:A.frames=some (env::outer)) (hl:s.heap.FunFrames h₀ (env::outer)) (hf:env.frame=some L) (hx:Exc C g s.heap e) (hsub:Sub g s.heap)
  (h:∀ h',Z5 (frs (env::outer)) g s.heap h'->iF C g h' e .none->Q () { s with heap:=h' }):wpAny M A (leaving env (.ref e)) Q E s:=by
 unfold leaving
 exact wpAny_bind (Aw0 hfr hl hf hx hsub fun h1 N1 x1=>lE (s:={ s with heap:=h1 }) x1 fun h2 N2 x2=>h h2 (N1.trans N2) x2)
end
theorem Ok.noted {h₀ g h h':Heap}{fr:List Env}{φ:List Addr}{H:Mini.Heap}(K:Ok h₀ φ H h) (N:Z5 (frs fr) g h h') (hl:P8 h₀ fr h) (hb:Sub h₀ g) (hr:h₀.objs.size<=h'.objs.size):Ok h₀ φ H h':=by
 have tups:∀ a o,N8 o->h.get? a=some o->h'.get? a=some o:=fun a o ⟨_,items,n,hd⟩ e=>N.keepD a o (hl.not e fun es n q=>by rw [hd] at q;cases q) (fun vs q=>by rw [hd] at q;cases q) e
 refine ⟨fun b o e=>?_,K.len,K.nodup,K.above,K.small,hr,fun i a l hi hl'=>?_⟩
 ·obtain ⟨o',e'⟩:=hb b o e
  exact N.keepG b o o' e' (fun hm=>absurd (Heap.lt_size e) (Nat.not_lt.mpr (hl.mem hm).1)) (K.base b o e)
 ·obtain ⟨vs,⟨n,e⟩,r⟩:=K.lists i a l hi hl'
  exact ⟨vs,⟨n,N.keepD a _ (hl.not e fun es n q=>by cases q) (fun vs q=>by cases q) e⟩,C7.mono (fun zz zz q=>q) tups l r⟩
theorem P8.noted {h₀ g h h':Heap}{F:List Addr}{fr:List Env}(hl:P8 h₀ fr h) (N:Z5 F g h h'):P8 h₀ fr h':=fun v hv=>by
 obtain ⟨a1,a2,a3,m,a4⟩:=hl v hv
 exact ⟨a1,a2,a3,m,N.ns a4⟩
end MiniS
namespace MiniS
open PySem PySem.Calls PyProof.Rows
open Mini (V D)
structure sW (h₀:Heap) (W:Addr->Prop) (fr:List Env) (C:Addr) (φ:List Addr) (s:Shared) (φ':List Addr) (H':Mini.Heap) (s':Shared) (e:Addr):Prop where
 same:∃ h' tk,s'={ s with heap:=h',toks:=tk }
 keep:∀ b o,b ∉ φ->¬ W b->b ∉ frs fr->s.heap.get? b=some o->s'.heap.get? b=some o
 slot:∀ b o,¬ W b->b∈frs fr->(∀ vs,o.data≠.fields vs)->s.heap.get? b=some o->∃ sl,s'.heap.get? b=some { o with slots:=sl }
 toks:s.toks<=s'.toks
 grow:∃ ψ,φ'=φ++ψ/\∀ a∈ψ,s.heap.objs.size<=a
 ok:Ok h₀ φ' H' s'.heap
 live:P8 h₀ fr s'.heap
 exc:Exc C s.heap s'.heap e
 sub:Sub s.heap s'.heap
abbrev Fly (h₀:Heap) (fr:List Env):=sW h₀ (fun zz=>False) fr
theorem sW.weak {h₀ W W' fr C φ s φ' H' s' e}(Y:sW h₀ W fr C φ s φ' H' s' e) (hw:∀ b,W b->W' b):sW h₀ W' fr C φ s φ' H' s' e :=
 ⟨Y.same,fun b o h1 h2 h3 h4=>Y.keep b o h1 (fun q=>h2 (hw b q)) h3 h4,fun b o h1 h2 h3 h4=>Y.slot b o (fun q=>h1 (hw b q)) h2 h3 h4,Y.toks,Y.grow,Y.ok,Y.live,Y.exc,Y.sub⟩
theorem Ok.no_frame {h₀ φ H h}{fr:List Env}(K:Ok h₀ φ H h) (hl:P8 h₀ fr h) {b:Addr}(hb:b∈frs fr):b ∉ φ:=fun hm=>by
 obtain ⟨vs,n,e⟩:=K.mem hm
 exact hl.not e (fun es n q=>by cases q) hb
theorem I4.sub {h₀ φ s φ' H' s'}(F:I4 h₀ φ s φ' H' s'):Sub s.heap s'.heap:=fun b o e=>by
 by_cases hb:b∈φ
 ·obtain ⟨ψ,g,_⟩:=F.grow
  obtain ⟨vs,n,e'⟩:=F.ok.mem (a:=b) (by rw [g];exact List.mem_append_left _ hb)
  exact ⟨_,e'⟩
 ·exact ⟨o,F.step.keep b o hb e⟩
theorem P8.fwd {h₀ φ s φ' H H' s'}{fr:List Env}(hl:P8 h₀ fr s.heap) (K:Ok h₀ φ H s.heap) (F:I4 h₀ φ s φ' H' s'):P8 h₀ fr s'.heap:=fun v hv=>by
 obtain ⟨a1,a2,a3,m,o,es,ep,ho,hd,q⟩:=hl v hv
 have hb:v.locals ∉ φ:=fun hm=>by
  obtain ⟨vs,n,e⟩:=K.mem hm
  rw [e] at ho;cases ho;cases hd
 exact ⟨a1,a2,a3,m,o,es,ep,F.step.keep _ _ hb ho,hd,q⟩
theorem I4.fly {h₀ W fr C φ s φ₁ H H₁ s₁ φ' H' s' e}(F:I4 h₀ φ s φ₁ H₁ s₁) (K:Ok h₀ φ H s.heap) (hl:P8 h₀ fr s.heap) (Y:sW h₀ W fr C φ₁ s₁ φ' H' s' e):sW h₀ W fr C φ s φ' H' s' e:=by
 obtain ⟨⟨⟨h1,t1,e1⟩,k1,z1,w1⟩,⟨ψ1,g1,m1⟩,o1⟩:=id F
 obtain ⟨⟨h2,t2,e2⟩,k2,l2,w2,⟨ψ2,g2,m2⟩,o2,v2,x2,u2⟩:=Y
 have hn:∀ b o,b ∉ φ->s.heap.get? b=some o->b ∉ φ₁:=fun b o hb e=>by
  rw [g1,List.mem_append,not_or]
  exact ⟨hb,fun hm=>absurd (Heap.lt_size e) (Nat.not_lt.mpr (m1 b hm))⟩
 refine ⟨⟨h2,t2,by rw [e2,e1]⟩,fun b o hb hw hf e=>k2 b o (hn b o hb e) hw hf (k1 b o hb e),fun b o hw hf hd e=>l2 b o hw hf hd (k1 b o (K.no_frame hl hf) e),A3 w1 w2,⟨ψ1++ψ2,by rw [g2,g1,A7],fun a ha=>?_⟩,o2,v2,x2.sub F.sub,F.sub.trans u2⟩
 rcases List.mem_append.mp ha with q | q
 ·exact m1 a q
 ·exact A3 z1 (m2 a q)
section
variable {X:Cx}{A:Around}{C:Mini.Calls}{RC:Mini.V3}{fr:List Env}{Cc:Addr}{c:String}
noncomputable def oY (X:Cx) (W:Addr->Prop) (fr:List Env) (Cc:Addr) (R:Mini.Heap->Prop) (φ:List Addr) (s:Shared) (EX:Value->Shared->Prop):Prop :=
 ∀ H' φ' s' e,R H'->sW X.h₀ W fr Cc φ s φ' H' s' e->EX (.ref e) s'
theorem oY.after {W:Addr->Prop}{R:Mini.Heap->Prop}{φ s EX H φ₁ H₁ s₁}(k:oY X W fr Cc R φ s EX) (K:Ok X.h₀ φ H s.heap) (hl:P8 X.h₀ fr s.heap) (F:I4 X.h₀ φ s φ₁ H₁ s₁):oY X W fr Cc R φ₁ s₁ EX :=
 fun H' φ' s' e r Y=>k H' φ' s' e r (F.fly K hl Y)
noncomputable def iM (X:Cx) (A:Around) (fr:List Env) (Cc:Addr) (RC:Mini.V3):Prop :=
 ∀ (f:String) (ls:List Nat) (fa:Addr) (vs:List V) (R:Mini.Heap->Prop) (H:Mini.Heap) (φ:List Addr) (s:Shared) (xs:List Value) (K EX:Value->Shared->Prop),
  X.gl.fns.lookup f=some ls->X.mg (Str.ofString f)=some (.ref fa)->RC f vs R H->Ok X.h₀ φ H s.heap->C7 X.h₀ φ s.heap vs xs->(X.gl.pos=true->0<s.toks∨∃ fn,X.P f=some fn/\fn.bump=true) ->
  (∀ j∈ls,∀ x,xs[j]? = some x->∃ y t,x=.str y t/\0<t/\t<s.toks)->P8 X.h₀ fr s.heap->oY X (fun zz=>False) fr Cc R φ s EX->wpAny (M1 X) A (call (.ref fa) xs) K EX s
noncomputable def RzE (X:Cx) (A:Around) (C:Mini.Calls) (RC:Mini.V3) (fr:List Env) (Cc:Addr) (e:Mini.E):Prop :=
 ∀ (re:Expr) (env:Env) (nm:List Str) (ρ:Mini.D7) (R:Mini.Heap->Prop) (H:Mini.Heap) (φ:List Addr) (s:Shared) (K EX:Value->Shared->Prop),
  Mini.D5 X.gl env.scope.names nm e re=true->E5 X φ nm env ρ s->Ok X.h₀ φ H s.heap->P8 X.h₀ fr s.heap->Mini.yU C RC e ρ R H->oY X (fun zz=>False) fr Cc R φ s EX->wpAny (M1 X) A (eval re env) K EX s
theorem K9 {e:Mini.E}(h:∀ ρ R H,Mini.yU C RC e ρ R H->False):RzE X A C RC fr Cc e:=fun re env nm ρ R H φ s K EX zz zz zz zz q zz=>(h ρ R H q).elim
theorem Ap0 (G:cR X) (hR:iM X A fr Cc RC) {f:String}{es:List Mini.E}(hs:fI X A C es):RzE X A C RC fr Cc (.call f es):=by
 intro re env nm ρ R H φ s K EX hc L O hl h k
 refine Mini.Ab6 hc fun id p0 res p e9 hc9=>?_
 clear hc;subst e9
 simp only [Bool.and_eq_true,beq_iff_eq] at hc9
 obtain ⟨⟨⟨⟨h1,h2⟩,h3⟩,h4⟩,h5⟩:=hc9
 subst h1
 simp only [Mini.N3,Bool.and_eq_true,Bool.not_eq_true'] at h4
 unfold Mini.wK at h2
 cases hls:X.gl.fns.lookup f with
 | none=>rw [hls] at h2;cases h2
 | some ls =>
  rw [hls] at h2
  obtain ⟨fn,fa,o,params,body,scope,pm,cd,doc,hP,hlf,hm,ho,hd,hcd,hck⟩:=G.fns f ls hls
  replace h:Mini.S2 C es ρ (fun vs H₁=>RC f vs R H₁) H:=h
  refine wpAny_Call_NameR (bE G L O h3 h4.1 hm ?_)
  refine callWith_function (o:=o) (fd:=docDef (Str.ofString f) params body scope pm cd doc) (X2 h5 (Y2 es res env nm ρ _ H φ s _ EX p hs h5 L O h fun vs H1 φ1 xs s1 q1 F1 r1 hle hla=>?_))
  refine ⟨⟨F1.ok.base _ _ ho,hd⟩,?_⟩
  refine hR f ls fa vs R H1 φ1 s1 xs K EX hls hm q1 F1.ok r1 (fun hp=>Or.inl (A8 (L.pos hp) F1.step.toks)) (fun j hj x hx=>?_) (hl.fwd O F1) (k.after O hl F1)
  simp only [Bool.and_eq_true,Bool.or_eq_true] at h2
  have hps:X.gl.pos=true:=by
   rcases h2.1 with q | q
   ·exact q
   ·rw [List.isEmpty_iff] at q;subst q;cases hj
  have:=List.all_eq_true.mp h2.2 j hj
  cases he:es[j]? with
  | none=>rw [he] at this;cases this
  | some e =>
   rw [he] at this
   obtain ⟨l9,rfl⟩:=Mini.Ax7 this
   exact hla hps j _ he x hx
theorem Ao8 {o a:Mini.E}(ho:E4 X A C o) (ha:RzE X A C RC fr Cc a):RzE X A C RC fr Cc (.join o a):=by
 intro re env nm ρ R H φ s K EX hc L O hl h k
 refine Mini.m1 hc fun o' e' ap p e9 h2 h3 h4 h5=>?_
 clear hc;subst e9
 replace h:Mini.E2 C o ρ (fun v H₁=>(∃ s,v=.str s)/\Mini.yU C RC a ρ R H₁) H:=h
 have hcs:=iL h5
 refine wpAny_Call_method (Aw9 h3 _ _) ?_ h2 F.plainAttrs_str F.slot_str_join F.type_str_join (ho _ env nm ρ _ H φ s _ EX h4 L O h fun v H1 φ1 x s1 q1 F1 r1=>?_)
 ·rw [lO hcs]
  rfl
 ·obtain ⟨⟨l,rfl⟩,q⟩:=q1
  have ht:=eZ r1
  refine ⟨ht.1,ht.2,?_⟩
  exact callWith_builtin (lN hcs) (X2 hcs (args_cons (ha _ env nm ρ R H1 φ1 s1 _ EX h5 (L.fwd O F1) F1.ok (hl.fwd O F1) q (k.after O hl F1)) (O0 h5 _ _)))
theorem Ao9 (hh:A.handled=none) {elt src:Mini.E}{x:Nat}{ifs:List Mini.E}(he:E4 X A C elt) (hs:RzE X A C RC fr Cc src) (ht:∀ e∈ifs,X0 X A C e):RzE X A C RC fr Cc (.comp elt x src ifs):=by
 intro re env nm ρ R H φ s K EX hc L O hl h k
 refine Mini.qE hc fun elt' id' px it' ifs' scope pos e9 hc9=>?_
 clear hc;subst e9
 simp only [Bool.and_eq_true,beq_iff_eq,Bool.not_eq_true'] at hc9
 obtain ⟨⟨⟨⟨⟨h1,h2⟩,h3⟩,h4⟩,h5⟩,h6⟩:=hc9
 exact lH (Q:=fun zz zz=>False) hh he ht L O h1 h2 h3 h5 h6 (At6 h4 env) (hs _ env nm ρ R H φ s _ EX h4 L O hl h k) fun zz zz zz zz zz q=>q.elim
end
end MiniS
namespace MiniS
open PySem PySem.Calls PyProof.Rows
open Mini (V D)
section
variable {X:Cx}{A:Around}{C:Mini.Calls}{RC:Mini.V3}{fr:List Env}{Cc:Addr}{c:String}
theorem aR (G:cR X) (hh:A.handled=none) (hu:A.units+106<cLine) (hC:bP X A C) (hR:iM X A fr Cc RC):∀ e:Mini.E,RzE X A C RC fr Cc e
 | .call _ es=>Ap0 G hR (Z3 G hh hu hC es).1
 | .join o a=>Ao8 (E9 G hh hu hC o).1 (aR G hh hu hC hR a)
 | .comp elt _ src ifs=>Ao9 hh (E9 G hh hu hC elt).1 (aR G hh hu hC hR src) (Z3 G hh hu hC ifs).2
 | .none=>K9 fun zz zz zz h=>h
 | .bool _=>K9 fun zz zz zz h=>h
 | .int _=>K9 fun zz zz zz h=>h
 | .str _=>K9 fun zz zz zz h=>h
 | .var _=>K9 fun zz zz zz h=>h
 | .glob _ _=>K9 fun zz zz zz h=>h
 | .bin _ _ _=>K9 fun zz zz zz h=>h
 | .neg _=>K9 fun zz zz zz h=>h
 | .cmp _ _ _=>K9 fun zz zz zz h=>h
 | .cmp2 _ _ _ _ _=>K9 fun zz zz zz h=>h
 | .is _ _=>K9 fun zz zz zz h=>h
 | .isnot _ _=>K9 fun zz zz zz h=>h
 | .and _=>K9 fun zz zz zz h=>h
 | .or _=>K9 fun zz zz zz h=>h
 | .not _=>K9 fun zz zz zz h=>h
 | .idx _ _=>K9 fun zz zz zz h=>h
 | .slc _ _ _=>K9 fun zz zz zz h=>h
 | .slcL _ _=>K9 fun zz zz zz h=>h
 | .slcH _ _=>K9 fun zz zz zz h=>h
 | .isinst _ _=>K9 fun zz zz zz h=>h
 | .len _=>K9 fun zz zz zz h=>h
 | .toInt _=>K9 fun zz zz zz h=>h
 | .ord _=>K9 fun zz zz zz h=>h
 | .sortedDown _=>K9 fun zz zz zz h=>h
 | .append _ _=>K9 fun zz zz zz h=>h
 | .extend _ _=>K9 fun zz zz zz h=>h
 | .pop _=>K9 fun zz zz zz h=>h
 | .find _ _ _=>K9 fun zz zz zz h=>h
 | .split _ _=>K9 fun zz zz zz h=>h
 | .list _=>K9 fun zz zz zz h=>h
 | .tup _=>K9 fun zz zz zz h=>h
 | .compR _ _ _ _=>K9 fun zz zz zz h=>h
noncomputable def zE (X:Cx) (c:String) (Cc:Addr):Prop:=∃ bm newId Bn inN bmN B nid initId,OwnClsQ (Str.ofString c) Cc bm newId X.mg X.h₀/\ExcBaseFacts Bn newId inN bmN/\bm.contains (.type Bn)=true/\ExcBaseFacts B nid initId bm/\bm.contains (.type "BaseException")=true
theorem Bt3 {h₀:Heap}{W:Addr->Prop}{φ:List Addr}{H:Mini.Heap}{s:Shared}{h':Heap}{e:Addr}{args:List Value}(hx:Heap.MadeExcOf s.heap h' e (.ref Cc) args) (O:Ok h₀ φ H s.heap) (hl:P8 h₀ fr s.heap) (hr:h₀.objs.size<=h'.objs.size):sW h₀ W fr Cc φ s φ H { s with heap:=h' } e:=by
 obtain ⟨t,he,_⟩:=hx.there
 refine ⟨⟨h',s.toks,rfl⟩,fun b o zz zz zz e=>hx.keeps b o e,fun b o zz zz zz e=>⟨o.slots,hx.keeps b o e⟩,A4 _,⟨[],by simp,fun a ha=>(nomatch ha)⟩,?_,fun v hv=>?_,Or.inr ⟨_,_,he,rfl,rfl,hx.new,rfl⟩,fun b o e=>⟨o,hx.keeps b o e⟩⟩
 ·exact ⟨fun b o e=>hx.keeps b o (O.base b o e),O.len,O.nodup,O.above,O.small,hr,fun i a l hi hl=>by
   obtain ⟨vs,⟨n,e⟩,r⟩:=O.lists i a l hi hl
   exact ⟨vs,⟨n,hx.keeps _ _ e⟩,C7.mono (fun zz zz q=>q) (fun a o zz q=>hx.keeps a o q) l r⟩⟩
 ·obtain ⟨a1,a2,a3,m,o,es,ep,ho,q⟩:=hl v hv
  exact ⟨a1,a2,a3,m,o,es,ep,hx.keeps _ _ ho,q⟩
noncomputable def RzS (X:Cx) (A:Around) (C:Mini.Calls) (RC:Mini.V3) (fr:List Env) (c:String) (Cc:Addr) (st:Mini.S):Prop :=
 ∀ (re:Stmt) (env:Env) (nm:List Str) (ρ:Mini.D7) (R:Mini.Heap->Prop) (H:Mini.Heap) (φ:List Addr) (s:Shared) (K:Flow->Shared->Prop) (EX:Value->Shared->Prop),
  Mini.aN X.gl env.scope.names nm st re=true->E5 X φ nm env ρ s->Ok X.h₀ φ H s.heap->P8 X.h₀ fr s.heap->Mini.rzS C RC c st ρ R H->oY X (Own env) fr Cc R φ s EX->wpAny (M1 X) A (exec re env) K EX s
noncomputable def Bc5 (X:Cx) (A:Around) (C:Mini.Calls) (RC:Mini.V3) (fr:List Env) (c:String) (Cc:Addr) (st:List Mini.S):Prop :=
 ∀ (re:List Stmt) (env:Env) (nm:List Str) (ρ:Mini.D7) (R:Mini.Heap->Prop) (H:Mini.Heap) (φ:List Addr) (s:Shared) (K:Flow->Shared->Prop) (EX:Value->Shared->Prop),
  Mini.N7 X.gl env.scope.names nm st re=true->E5 X φ nm env ρ s->Ok X.h₀ φ H s.heap->P8 X.h₀ fr s.heap->Mini.vY C RC c st ρ R H->oY X (Own env) fr Cc R φ s EX->wpAny (M1 X) A (execs re env) K EX s
theorem oY.own {R:Mini.Heap->Prop}{φ s EX}{W:Addr->Prop}(k:oY X W fr Cc R φ s EX):oY X (fun zz=>False) fr Cc R φ s EX:=fun H' φ' s' e r Y=>k H' φ' s' e r (Y.weak fun zz q=>q.elim)
theorem Ag3 (G:cR X) (hh:A.handled=none) (hcls:zE X c Cc) {d:String}{m:List Nat}:RzS X A C RC fr c Cc (.raise d m):=by
 intro re env nm ρ R H φ s K EX hc L O hl h k
 obtain ⟨rfl,hR⟩:d=c/\R H:=h
 refine Mini.Bf5 hc fun id np x k9 cp cpos pos e9 hid hg hnd hlen=>?_
 clear hc;subst e9;subst hid
 simp only [Mini.N3,Bool.and_eq_true,Bool.not_eq_true'] at hnd
 obtain ⟨bm,newId,Bn,inN,bmN,B,nid,initId,O1,Fn,hBn,FB,hbase⟩:=hcls
 obtain ⟨tl,N,nm',q,bs,hdct,sn,sub,ab,col,dd,k0,k1,k2,k3,k5,mN,hC,hN,hni,T⟩:=O1.own.obj
 refine wpAny_Raise_call_subU (C:=Cc) (nm:=nm') (q:=q) (N:=N) (bs:=bs) (bm:=tl) (hdct:=hdct) (sn:=sn) (sub:=sub) (ab:=ab) (col:=col) (dd:=dd) (k0:=k0) (k1:=k1) (k2:=k2) (k3:=k3) (k5:=k5) Fn hBn FB (mN:=mN) (T.hasType FB.hasBase) hh rfl hni (bE G L O hg hnd.1 O1.bound ⟨rfl,?_⟩)
 refine evalArgs_plain (args_cons (Constant_str (args_nil ?_)) rfl)
 have F1:=I4.tok (tk:=s.toks+1) O
 refine ⟨rfl,by show 1<=sizeLine;decide,F1.ok.base _ _ hC,hN.keeps F1.ok.base,T.keeps F1.ok.base,fun h' e hx=>?_⟩
 refine k H φ _ e hR (F1.fly O hl (Bt3 hx F1.ok (hl.fwd O F1) ?_))
 obtain ⟨mm,⟨o,es,ep,ho,_⟩,_⟩:=L.locals
 exact A3 L.above (B5 (Heap.lt_size (hx.keeps _ _ ho)))
theorem P8.fwdS {nm:List Str}{env:Env}{ρ ρ':Mini.D7}{φ φ':List Addr}{H H':Mini.Heap}{s s':Shared}(hl:P8 X.h₀ fr s.heap) (K:Ok X.h₀ φ H s.heap) (L:E5 X φ nm env ρ s) (L':E5 X φ' nm env ρ' s') (F:K7 X.h₀ env φ s φ' H' s'):P8 X.h₀ fr s'.heap:=fun v hv=>by
 obtain ⟨a1,a2,a3,m,o,es,ep,ho,hd,q⟩:=hl v hv
 by_cases hv':v.locals=env.locals
 ·obtain ⟨m',hn,_⟩:=L'.locals
  exact ⟨a1,a2,a3,m',by rw [hv'];exact hn⟩
 ·have hb:v.locals ∉ φ:=fun hm=>by
   obtain ⟨vs,n,e⟩:=K.mem hm
   rw [e] at ho;cases ho;cases hd
  have hw:¬ Own env v.locals:=fun hw=>by
   rcases hw with hw | ⟨x,hx⟩
   ·exact hv' hw
   ·obtain ⟨ov,o',ho',hd'⟩:=L.cellAll x _ hx
    rw [ho] at ho';cases ho'
    rw [hd] at hd';cases hd'
  exact ⟨a1,a2,a3,m,o,es,ep,F.keep _ _ hb hw ho,hd,q⟩
theorem K7.sub {nm:List Str}{env:Env}{ρ':Mini.D7}{φ φ':List Addr}{H':Mini.Heap}{s s':Shared}(L':E5 X φ' nm env ρ' s') (F:K7 X.h₀ env φ s φ' H' s'):Sub s.heap s'.heap:=fun b o e=>by
 by_cases hb:b∈φ
 ·obtain ⟨ψ,g,_⟩:=F.grow
  obtain ⟨vs,n,e'⟩:=F.ok.mem (a:=b) (by rw [g];exact List.mem_append_left _ hb)
  exact ⟨_,e'⟩
 ·by_cases hw:Own env b
  ·rcases hw with rfl | ⟨x,hx⟩
   ·obtain ⟨m',⟨o',_,_,ho',_⟩,_⟩:=L'.locals
    exact ⟨o',ho'⟩
   ·obtain ⟨ov,o',ho',_⟩:=L'.cellAll x b hx
    exact ⟨o',ho'⟩
  ·exact ⟨o,F.keep b o hb hw e⟩
theorem K7.fly {nm:List Str}{env:Env}{ρ':Mini.D7}{φ φ₁ φ':List Addr}{H H₁ H':Mini.Heap}{s s₁ s':Shared}{e:Addr}(F:K7 X.h₀ env φ s φ₁ H₁ s₁) (K:Ok X.h₀ φ H s.heap) (hl:P8 X.h₀ fr s.heap) (L':E5 X φ₁ nm env ρ' s₁) (Y:sW X.h₀ (Own env) fr Cc φ₁ s₁ φ' H' s' e):sW X.h₀ (Own env) fr Cc φ s φ' H' s' e:=by
 have hsub:=K7.sub L' F
 obtain ⟨⟨h1,t1,e1⟩,k1,z1,w1,⟨ψ1,g1,m1⟩,o1⟩:=F
 obtain ⟨⟨h2,t2,e2⟩,k2,l2,w2,⟨ψ2,g2,m2⟩,o2,v2,x2,u2⟩:=Y
 have hn:∀ b o,b ∉ φ->s.heap.get? b=some o->b ∉ φ₁:=fun b o hb e=>by
  rw [g1,List.mem_append,not_or]
  exact ⟨hb,fun hm=>absurd (Heap.lt_size e) (Nat.not_lt.mpr (m1 b hm))⟩
 refine ⟨⟨h2,t2,by rw [e2,e1]⟩,fun b o hb hw hf e=>k2 b o (hn b o hb e) hw hf (k1 b o hb hw e),fun b o hw hf hd e=>l2 b o hw hf hd (k1 b o (K.no_frame hl hf) hw e),A3 w1 w2,⟨ψ1++ψ2,by rw [g2,g1,A7],fun a ha=>?_⟩,o2,v2,x2.sub hsub,hsub.trans u2⟩
 rcases List.mem_append.mp ha with q | q
 ·exact m1 a q
 ·exact A3 z1 (m2 a q)
theorem cX {st:Mini.S}(h:∀ ρ R H,Mini.rzS C RC c st ρ R H->False):RzS X A C RC fr c Cc st:=fun re env nm ρ R H φ s K EX zz zz zz zz q zz=>(h ρ R H q).elim
theorem Bt1 {e:Mini.E}(he:RzE X A C RC fr Cc e):RzS X A C RC fr c Cc (.expr e):=by
 intro re env nm ρ R H φ s K EX hc L O hl h k
 refine Mini.Ab4 hc fun e' p e9 hc9=>?_
 clear hc;subst e9
 simp only [Bool.and_eq_true] at hc9
 refine wpAny_Expr_any (he _ env nm ρ R H φ s _ EX hc9.2 L O hl h k.own) ?_ (jA hc9.2 hc9.1 _ _ env)
 unfold interactive;rw [L.kind];rfl
theorem Ce0 {e:Mini.E}(he:RzE X A C RC fr Cc e):RzS X A C RC fr c Cc (.ret e):=by
 intro re env nm ρ R H φ s K EX hc L O hl h k
 refine Mini.Ay0 hc fun e' p e9 hc9=>?_
 clear hc;subst e9
 exact wpAny_Return_some (he _ env nm ρ R H φ s _ EX hc9 L O hl h k.own)
theorem mP {x:Nat}{e:Mini.E}(he:RzE X A C RC fr Cc e) {re:Stmt}{env:Env}{nm:List Str}{ρ:Mini.D7}{R:Mini.Heap->Prop}{H:Mini.Heap}{φ:List Addr}{s:Shared}{K:Flow->Shared->Prop}{EX:Value->Shared->Prop}
  (hc:Mini.aN X.gl env.scope.names nm (.assign x e) re=true) (L:E5 X φ nm env ρ s) (O:Ok X.h₀ φ H s.heap) (hl:P8 X.h₀ fr s.heap) (hn:Mini.Q8 e=true) (h:Mini.yU C RC e ρ R H) (k:oY X (fun zz=>False) fr Cc R φ s EX):wpAny (M1 X) A (exec re env) K EX s:=by
 refine Mini.rI hc fun id p e' p' e9 hc9=>?_
 clear hc;subst e9
 simp only [Bool.and_eq_true,beq_iff_eq,Bool.not_eq_true'] at hc9
 exact wpAny_Assign_Name (he e' env nm ρ R H φ s _ EX hc9.2 L O hl h k) (jA hc9.2 hn _ _ env)
theorem Ce1 {e:Mini.E}{t f:List Mini.S}(hc':X0 X A C e) (ht:Bc5 X A C RC fr c Cc t) (hf:Bc5 X A C RC fr c Cc f):RzS X A C RC fr c Cc (.ite e t f):=by
 intro re env nm ρ R H φ s K EX hc L O hl h k
 refine Mini.Ay3 hc fun c' t' f' p e9 hc9=>?_
 clear hc;subst e9
 simp only [Bool.and_eq_true] at hc9
 obtain ⟨⟨h1,h2⟩,h3⟩:=hc9
 refine wpAny_If (hc' _ env nm ρ _ H φ s _ EX h1 L O h fun b H1 φ1 s1 q1 F1=>?_)
 cases b with
 | true=>exact ht _ env nm ρ R H1 φ1 s1 K EX h2 (L.fwd O F1) F1.ok (hl.fwd O F1) q1 (k.after O hl F1)
 | false=>exact hf _ env nm ρ R H1 φ1 s1 K EX h3 (L.fwd O F1) F1.ok (hl.fwd O F1) q1 (k.after O hl F1)
theorem Bt0:Bc5 X A C RC fr c Cc []:=fun re env nm ρ R H φ s K EX zz zz zz zz q zz=>q.elim
theorem Bd8 {st:Mini.S}{sts:List Mini.S}(h0:cS X A C st) (h1:RzS X A C RC fr c Cc st) (h2:Bc5 X A C RC fr c Cc sts):Bc5 X A C RC fr c Cc (st::sts):=by
 intro re env nm ρ R H φ s K EX hc L O hl h k
 obtain ⟨re,res,e9,hc9⟩:=Mini.eD hc
 clear hc;subst e9
 rcases h with h | h
 ·exact wpAny_execs_cons (h1 re env nm ρ R H φ s _ EX hc9.1 L O hl h k)
 ·refine wpAny_execs_cons (h0 re env nm ρ _ H φ s _ EX hc9.1 L O h fun fl ρ1 H1 φ1 f s1 q F1 L1 r=>?_)
  cases fl with
  | next =>
   obtain rfl:=r
   exact h2 res env nm ρ1 R H1 φ1 s1 K EX hc9.2 L1 F1.ok (hl.fwdS O L L1 F1) q fun H' φ' s' e r' Y=>k H' φ' s' e r' (K7.fly F1 O hl L1 Y)
  | cont=>exact q.elim
  | ret v=>exact q.elim
mutual
theorem Bt2 (G:cR X) (hh:A.handled=none) (hu:A.units+106<cLine) (hC:bP X A C) (hR:iM X A fr Cc RC) (hcls:zE X c Cc):∀ st:Mini.S,RzS X A C RC fr c Cc st
 | .expr e=>Bt1 (aR G hh hu hC hR e)
 | .assign _ e=>fun re env nm ρ R H φ s K EX hc L O hl h k=>mP (aR G hh hu hC hR e) hc L O hl h.1 h.2 k.own
 | .ret e=>Ce0 (aR G hh hu hC hR e)
 | .ite e t f=>Ce1 (E9 G hh hu hC e).2 (fA G hh hu hC hR hcls t) (fA G hh hu hC hR hcls f)
 | .raise _ _=>Ag3 G hh hcls
 | .setIdx _ _ _=>cX fun zz zz zz h=>h
 | .whl _ _=>cX fun zz zz zz h=>h
 | .forIn _ _ _=>cX fun zz zz zz h=>h
 | .forR _ _ _=>cX fun zz zz zz h=>h
 | .forEnum _ _ _ _=>cX fun zz zz zz h=>h
 | .retNone=>cX fun zz zz zz h=>h
 | .cont=>cX fun zz zz zz h=>h
 | .pass=>cX fun zz zz zz h=>h
theorem fA (G:cR X) (hh:A.handled=none) (hu:A.units+106<cLine) (hC:bP X A C) (hR:iM X A fr Cc RC) (hcls:zE X c Cc):∀ sts:List Mini.S,Bc5 X A C RC fr c Cc sts
 | []=>Bt0
 | st::sts=>Bd8 (At7 G hh hu hC st) (Bt2 G hh hu hC hR hcls st) (fA G hh hu hC hR hcls sts)
end
end
end MiniS
namespace MiniS
open PySem PySem.Calls PyProof.Rows
open Mini (V D)
theorem E5.to {X:Cx}{φ φ':List Addr}{nm:List Str}{env:Env}{ρ:Mini.D7}{s s':Shared}(L:E5 X φ nm env ρ s) (ht:s.toks<=s'.toks) (hr:∀ v x,E7 X.h₀ φ s.heap v x->E7 X.h₀ φ' s'.heap v x) (hn:∀ a m,s.heap.Ns a m->s'.heap.Ns a m) (hc:∀ c ov,s.heap.IsCell c ov->s'.heap.IsCell c ov):E5 X φ' nm env ρ s':=by
 refine ⟨L.kind,L.glob,L.blt,L.len,L.nodup,fun hp=>A8 (L.pos hp) ht,?_,?_,L.above,L.aboveC,?_,L.apart⟩
 ·obtain ⟨m,q,hm⟩:=L.locals
  exact ⟨m,hn _ _ q,fun i x hx hk=>⟨(hm i x hx hk).1.mono hr,(hm i x hx hk).2.mono ht⟩⟩
 ·intro i x hx hk
  obtain ⟨c,ov,h1,h2,r,lr⟩:=L.cells i x hx hk
  exact ⟨c,ov,h1,hc _ _ h2,r.mono hr,lr.mono ht⟩
 ·intro x c h1
  obtain ⟨ov,h2⟩:=L.cellAll x c h1
  exact ⟨ov,hc _ _ h2⟩
section
variable {X:Cx}{A:Around}{C:Mini.Calls}{fr:List Env}{Cc:Addr}{c:String}
theorem E5.flyed {φ φ':List Addr}{nm:List Str}{env:Env}{ρ:Mini.D7}{s s':Shared}{H H':Mini.Heap}{e:Addr}(L:E5 X φ nm env ρ s) (K:Ok X.h₀ φ H s.heap) (hl:P8 X.h₀ fr s.heap) (Y:Fly X.h₀ fr Cc φ s φ' H' s' e):E5 X φ' nm env ρ s':=by
 have nl:∀ {b:Addr}{o:Obj},s.heap.get? b=some o->(∀ vs n,o≠{ cls:=.type "list",data:=.seq vs n })->b ∉ φ:=fun {b o} ho hd hm=>by
  obtain ⟨vs,n,e⟩:=K.mem hm
  rw [e] at ho;cases ho
  exact hd vs n rfl
 refine L.to Y.toks (fun v x=>E7.mono (fun i a hi=>?_) (fun a o ht ho=>?_) v) (fun a m hn=>?_) fun c ov hc=>?_
 ·obtain ⟨ψ,g,_⟩:=Y.grow
  rw [g,List.getElem?_append_left (List.getElem?_eq_some_iff.mp hi).1];exact hi
 ·obtain ⟨hcl,items,n,hd⟩:=ht
  exact Y.keep a o (nl ho fun vs n q=>by rw [q] at hcl;exact absurd (Value.type.inj hcl) (by decide)) id (hl.not ho fun es n q=>by rw [hd] at q;cases q) ho
 ·obtain ⟨o,es,ep,ho,hd,q⟩:=hn
  have h1:a ∉ φ:=nl ho fun vs n q=>by rw [q] at hd;cases hd
  by_cases ha:a∈frs fr
  ·obtain ⟨sl,e⟩:=Y.slot a o id ha (fun vs q=>by rw [hd] at q;cases q) ho
   exact ⟨_,es,ep,e,hd,q⟩
  ·exact ⟨o,es,ep,Y.keep a o h1 id ha ho,hd,q⟩
 ·obtain ⟨o,ho,hd⟩:=hc
  exact ⟨o,Y.keep c o (nl ho fun vs n q=>by rw [q] at hd;cases hd) id (hl.not ho fun es n q=>by rw [hd] at q;cases q) ho,hd⟩
theorem E5.noted {φ:List Addr}{nm:List Str}{env:Env}{ρ:Mini.D7}{s:Shared}{g h':Heap}{F:List Addr}(L:E5 X φ nm env ρ s) (hl:P8 X.h₀ fr s.heap) (hF:∀ b,b∈F->b∈frs fr) (N:Z5 F g s.heap h'):E5 X φ nm env ρ { s with heap:=h' }:=by
 refine L.to (A4 _) (fun v x=>E7.mono (fun zz zz q=>q) (fun a o ht ho=>?_) v) (fun a m hn=>N.ns hn) fun c ov hc=>?_
 ·obtain ⟨hcl,items,n,hd⟩:=ht
  exact N.keepD a o (fun hm=>hl.not ho (fun es n q=>by rw [hd] at q;cases q) (hF a hm)) (fun vs q=>by rw [hd] at q;cases q) ho
 ·obtain ⟨o,ho,hd⟩:=hc
  exact ⟨o,N.keepD c o (fun hm=>hl.not ho (fun es n q=>by rw [hd] at q;cases q) (hF c hm)) (fun vs q=>by rw [hd] at q;cases q) ho,hd⟩
theorem Av9 {φ:List Addr}{nm:List Str}{env:Env}{ρ:Mini.D7}{s:Shared}(L:E5 X φ nm env ρ s):X.h₀.objs.size<=s.heap.objs.size:=by
 obtain ⟨m,⟨o,es,ep,ho,_⟩,_⟩:=L.locals
 exact A3 L.above (B5 (Heap.lt_size ho))
theorem zT:∀ (n:Nat) (X:Cx) (A:Around) (fr:List Env),cR X->zE X c Cc->A.handled=none->A.frames=some fr->A.depth+n<=recursionLimit->A.units+3 * n+106<cLine->iM X A fr Cc (Mini.X9 X.P c n)
 | 0,X,A,fr,G,hcl,hh,hA,hd,hu=>fun f ls fa vs R H φ s xs K EX hls hm hC=>False.elim hC
 | n+1,X,A,fr,G,hcl,hh,hA,hd,hu=>fun f ls fa vs R H φ s xs K EX hls hm hC O rs hpos hlit hlv k=>by
  obtain ⟨fn,fa',o,params,body,scope,pm,cd,doc,hP,hfl,hm',ho,hdt,hcd,hck⟩:=G.fns f ls hls
  rw [hm] at hm';cases hm'
  replace hC:(match X.P f with | some fn=>_ | none=>_):=hC
  rw [hP] at hC
  obtain ⟨hlen,hw⟩:=hC
  refine wpAny_call (lM G (A8 (Nat.lt_add_of_pos_right (Nat.succ_pos n)) hd) ho hdt hcd hck hlen O rs (fun hp=>(hpos hp).imp id fun ⟨fn',e1,e2⟩=>by rw [hP] at e1;cases e1;exact e2) (fun j hj=>hlit j (hfl▸hj)) fun env s₁ I c13=>?_)
  have hd':(A.deeper env).depth+n<=recursionLimit:=by show A.depth+1+n<=_;rw [Nat.add_right_comm];exact hd
  have hu':(A.deeper env).units+3 * n+106<cLine:=by show A.units+3+3 * n+106<_;rw [Nat.add_assoc A.units 3,Nat.add_comm 3];exact hu
  have hA':(A.deeper env).frames=some (env::fr):=Around.frames_deeper hA
  have hCn:=wU n (I8 X fn.lits) (A.deeper env) (G.lits _) hh hd' hu'
  have hRn:=zT n (I8 X fn.lits) (A.deeper env) (env::fr) (G.lits _) hcl hh hA' hd' hu'
  have hl1:P8 X.h₀ (env::fr) s₁.heap:=fun v hv=>by
   rcases List.mem_cons.mp hv with rfl | hv
   ·obtain ⟨m,q,_⟩:=I.L.locals
    exact ⟨I.L.kind,I.fr,I.L.above,m,q⟩
   ·obtain ⟨a1,a2,a3,m,o,es,ep,ho,q⟩:=hlv v hv
    exact ⟨a1,a2,a3,m,o,es,ep,I.keep _ _ ho,q⟩
  refine fA (X:=I8 X fn.lits) (A:=A.deeper env) (fr:=env::fr) (G.lits _) hh (A9 (Nat.add_le_add_right (Nat.add_le_add_left (Nat.le_add_left 3 (3 * n)) _) _) hu) hCn hRn hcl fn.body body env _ _ R H φ s₁ _ _ c13 I.L I.F.ok hl1 hw fun H' φ' s' e r Y=>?_
  have hs1:Sub s.heap s₁.heap:=fun b o e=>⟨o,I.keep b o e⟩
  refine Ap2 (h₀:=X.h₀) (g:=s.heap) hA' Y.live.funs I.fr (Y.exc.sub hs1) (hs1.trans Y.sub) fun h' N x=>?_
  refine k H' φ' { s' with heap:=h' } e r ?_
  have hnf:∀ b o,s.heap.get? b=some o->b ∉ frs fr->b ∉ frs (env::fr):=fun b o e hb hm=>by
   rw [show frs (env::fr)=env.locals::frs fr by show (env::fr).filterMap _=_;rw [List.filterMap_cons,I.fr]] at hm
   rcases List.mem_cons.mp hm with q | q
   ·exact I.own b (Heap.lt_size e) (Or.inl q)
   ·exact hb q
  have hin:∀ b,b∈frs fr->b∈frs (env::fr):=fun b hb=>by
   rw [show frs (env::fr)=env.locals::frs fr by show (env::fr).filterMap _=_;rw [List.filterMap_cons,I.fr]]
   exact List.mem_cons_of_mem _ hb
  obtain ⟨⟨h2,t2,e2⟩,k2,l2,w2,⟨ψ,g2,m2⟩,o2,v2,x2,u2⟩:=Y
  obtain ⟨⟨⟨h1,t1,e1⟩,_,z1,w1⟩,_,_⟩:=I.F
  have hkeep:∀ b o,b ∉ φ->b ∉ frs fr->s.heap.get? b=some o->h'.get? b=some o:=fun b o hb hf e=>N.keepG b o o e (hnf b o e hf) (k2 b o hb (I.own b (Heap.lt_size e)) (hnf b o e hf) (I.keep b o e))
  have hslot:∀ b o,b∈frs fr->(∀ vs,o.data≠.fields vs)->s.heap.get? b=some o->∃ sl,h'.get? b=some { o with slots:=sl }:=fun b o hf hd e=>by
   obtain ⟨sl,e'⟩:=l2 b o (I.own b (Heap.lt_size e)) (hin b hf) hd (I.keep b o e)
   obtain ⟨sl',e''⟩:=N.slot b { o with slots:=sl } (hin b hf) hd e'
   exact ⟨sl',e''⟩
  have hr:X.h₀.objs.size<=h'.objs.size:=by
   obtain ⟨_,_,a3,m,q⟩:=v2 env (.head _)
   obtain ⟨o,es,ep,ho,_⟩:=N.ns q
   exact A3 a3 (B5 (Heap.lt_size ho))
  have hok:Ok X.h₀ φ' H' h':=o2.noted N v2 (fun b o e=>⟨o,O.base b o e⟩) hr
  refine ⟨⟨h',t2,by rw [e2,e1]⟩,fun b o hb zz hf e=>hkeep b o hb hf e,fun b o zz hf hd e=>hslot b o hf hd e,by rw [e2] at w2 ⊢;exact A3 w1 w2,⟨ψ,g2,fun a ha=>A3 z1 (m2 a ha)⟩,hok,v2.tail.noted N,Or.inl x,fun b o e=>?_⟩
  by_cases hb:b∈φ
  ·obtain ⟨vs,n,e'⟩:=hok.mem (a:=b) (by rw [g2];exact List.mem_append_left _ hb)
   exact ⟨_,e'⟩
  ·by_cases hf:b∈frs fr
   ·obtain ⟨_,m,o',es,ep,ho',hd',_⟩:=hlv.mem hf
    rw [e] at ho';cases ho'
    obtain ⟨sl,e'⟩:=hslot b o hf (fun vs q=>by rw [hd'] at q;cases q) e
    exact ⟨_,e'⟩
   ·exact ⟨o,hkeep b o hb hf e⟩
end
end MiniS
namespace MiniS
open PySem PySem.Calls PyProof.Rows
open Mini (V D)
section
variable {X:Cx}{A:Around}{C:Mini.Calls}{fr:List Env}{Cc:Addr}{c:String}
theorem Av5 {rest:List Stmt}:∀ (pre:List Mini.S) (re:List Stmt) (env:Env) (nm:List Str) (ρ:Mini.D7) (Q:Mini.E6) (H:Mini.Heap) (φ:List Addr) (s:Shared) (K:Flow->Shared->Prop) (EX:Value->Shared->Prop),
  (∀ st∈pre,cS X A C st)->Mini.N7 X.gl env.scope.names nm pre re=true->E5 X φ nm env ρ s->Ok X.h₀ φ H s.heap->Mini.C6 C pre ρ Q H ->
  (∀ fl ρ' H' φ' f s',Q fl ρ' H'->K7 X.h₀ env φ s φ' H' s'->E5 X φ' nm env ρ' s'->iN X.h₀ φ' s'.heap fl f->match f with | .next=>wpAny (M1 X) A (execs rest env) K EX s' | f=>K f s') ->
  wpAny (M1 X) A (execs (re++rest) env) K EX s
 | [],re,env,nm,ρ,Q,H,φ,s,K,EX,_,hc,L,O,h,k=>by
  obtain rfl:=Mini.rH hc
  exact k .next ρ H φ .next s (Mini.Bl9 h) (K7.refl O) L rfl
 | st::pre,re,env,nm,ρ,Q,H,φ,s,K,EX,hS,hc,L,O,h,k=>by
  obtain ⟨re,res,e9,hc9⟩:=Mini.eD hc
  clear hc;subst e9
  replace h:=Mini.wV h
  refine wpAny_execs_cons (hS st (.head _) re env nm ρ _ H φ s _ EX hc9.1 L O h fun fl ρ1 H1 φ1 f s1 q F1 L1 r=>?_)
  cases fl with
  | next =>
   obtain rfl:=r
   exact Av5 pre res env nm ρ1 Q H1 φ1 s1 K EX (fun st hst=>hS st (.tail _ hst)) hc9.2 L1 F1.ok q fun fl ρ' H' φ' f s' q F' L' r=>k fl ρ' H' φ' f s' q (F1.trans F') L' r
  | cont =>
   obtain rfl:=r
   exact k _ _ _ _ _ _ q F1 L1 rfl
  | ret v =>
   obtain ⟨x,rfl,r⟩:=r
   exact k _ _ _ _ _ _ q F1 L1 ⟨x,rfl,r⟩
theorem tW {φ φ' ψ:List Addr}{b n:Nat}(g:φ'=φ++ψ) (m:∀ a∈ψ,n<=a) (hb:b ∉ φ) (hn:b<n):b ∉ φ':=by
 rw [g,List.mem_append,not_or]
 exact ⟨hb,fun hm=>absurd hn (Nat.not_lt.mpr (m b hm))⟩
theorem Bq3 {n:Nat}(G:cR X) (hcl:zE X c Cc) (hh:A.handled=none) (hA:A.frames=some []) (hd:A.depth+(n+1)<=recursionLimit) (hu:A.units+3 * (n+1)+106<cLine)
  {f:String}{fa:Addr}{fn:Mini.Fn}{o:Obj}{params:Arguments}{body:List Stmt}{scope:Scope}{pm cd doc:Value}{x:Nat}{e:Mini.E}{hd' post:List Mini.S}
  (ho:X.h₀.get? fa=some o) (hdt:o.data=.func (docDef (Str.ofString f) params body scope pm cd doc)) (hcd:X.h₀.CodeRec cd (Str.ofString f))
  (hck:Mini.tN X.gl fn params (body.take fn.body.length) scope=true) (htr:Mini.Am0 (I8 X fn.lits).gl scope.names (fn.names.map Str.ofString) c (.assign x e) hd' post (body.drop fn.body.length)=true) (hnc:Mini.Q8 e=true)
  (hhs:∀ A',Z4 (I8 X fn.lits) A' (Mini.callN X.P n) hd') {vs:List V}{xs:List Value}{H:Mini.Heap}{φ:List Addr}{s:Shared}{Q:Mini.E6}(hlen:vs.length=fn.params)
  (O:Ok X.h₀ φ H s.heap) (rs:C7 X.h₀ φ s.heap vs xs) (hpos:X.gl.pos=true->0<s.toks∨fn.bump=true) (hlit:∀ j∈fn.lits,∀ x,xs[j]? = some x->∃ y t,x=.str y t/\0<t/\t<s.toks)
  (hw:Mini.Cp4 (Mini.callN X.P n) (Mini.X9 X.P c n) c fn.body (.assign x e) hd' post (Mini.frame fn vs) Q H) {K EX:Value->Shared->Prop}
  (k:∀ fl ρ' H' φ' f s',Q fl ρ' H'->(∃ h' tk,s'={ s with heap:=h',toks:=tk })->(∀ b o,b ∉ φ->s.heap.get? b=some o->s'.heap.get? b=some o)->iN X.h₀ φ' s'.heap fl f->K (match f with | .ret v=>v | _=>.none) s') :
  wpAny (M1 X) A (call (.ref fa) xs) K EX s:=by
 refine wpAny_call (lM G (A8 (Nat.lt_add_of_pos_right (Nat.succ_pos n)) hd) ho hdt hcd hck hlen O rs hpos hlit fun env s₁ I c13=>?_)
 have hdn:(A.deeper env).depth+n<=recursionLimit:=by show A.depth+1+n<=_;rw [Nat.add_right_comm];exact hd
 have hun:(A.deeper env).units+3 * n+106<cLine:=by show A.units+3+3 * n+106<_;rw [Nat.add_assoc A.units 3,Nat.add_comm 3];exact hu
 have hun':(A.deeper env).units+106<cLine:=A9 (Nat.add_le_add_right (Nat.add_le_add_left (Nat.le_add_left 3 (3 * n)) _) _) hu
 have hAn:(A.deeper env).frames=some [env]:=Around.frames_deeper hA
 have hCn:=wU n (I8 X fn.lits) (A.deeper env) (G.lits _) hh hdn hun
 have hRn:=zT (c:=c) (Cc:=Cc) n (I8 X fn.lits) (A.deeper env) [env] (G.lits _) hcl hh hAn hdn hun
 have hf1:frs [env]=[env.locals]:=by show [env].filterMap _=_;rw [List.filterMap_cons,I.fr];rfl
 have fin:∀ {fl ρ' H' φ' ff s'},Q fl ρ' H'->(∃ h' tk,s'={ s₁ with heap:=h',toks:=tk })->(∀ b o,b ∉ φ->¬ Own env b->b<s₁.heap.objs.size->s₁.heap.get? b=some o->s'.heap.get? b=some o)->iN X.h₀ φ' s'.heap fl ff->K (match ff with | .ret v=>v | _=>.none) s':=fun {fl ρ' H' φ' ff s'} q hs hk r=>by
  obtain ⟨⟨⟨h1,t1,e1⟩,_,_,_⟩,_,_⟩:=I.F
  obtain ⟨h2,t2,e2⟩:=hs
  exact k fl ρ' H' φ' ff s' q ⟨h2,t2,by rw [e2,e1]⟩ (fun b o hb e=>hk b o hb (I.own b (Heap.lt_size e)) (Heap.lt_size (I.keep b o e)) (I.keep b o e)) r
 rw [<- List.take_append_drop fn.body.length body]
 refine Av5 (X:=I8 X fn.lits) (A:=A.deeper env) fn.body _ env _ _ _ H φ s₁ _ _ (fun st zz=>At7 (X:=I8 X fn.lits) (A:=A.deeper env) (G.lits _) hh hun' hCn st) c13 I.L I.F.ok hw fun fl ρ2 H2 φ2 ff s2 q F2 L2 r=>?_
 cases fl with
 | cont=>obtain rfl:=r;exact fin (φ':=φ2) q F2.same (fun b o h1 h2 zz h3=>F2.keep b o h1 h2 h3) rfl
 | ret v=>obtain ⟨y,rfl,r⟩:=r;exact fin q F2.same (fun b o h1 h2 zz h3=>F2.keep b o h1 h2 h3) ⟨y,rfl,r⟩
 | next =>
  obtain rfl:=r
  refine Mini.Bf9 htr fun b1 idn np h0 hs hp p rest eb g1 g2 g3 g4 g5 g6=>?_
  show wpAny (M1 X) (A.deeper env) (execs (body.drop fn.body.length) env) _ _ s2
  rw [eb]
  rw [<- I.sc] at g1 g3 g5 g6
  obtain ⟨ψ2,gr2,m2⟩:=F2.grow
  have tail:∀ {fl ρ3 H3 φ3 ff s3},(match fl with | .next=>Mini.C6 (Mini.callN X.P n) post ρ3 Q H3 | fl=>Q fl ρ3 H3)->K7 X.h₀ env φ s₁ φ3 H3 s3->E5 (I8 X fn.lits) φ3 (fn.names.map Str.ofString) env ρ3 s3->iN X.h₀ φ3 s3.heap fl ff ->
    (match ff with | .next=>wpAny (M1 X) (A.deeper env) (execs rest env) (fun fl s'=>K (match fl with | .ret v=>v | _=>.none) s') (fun e s'=>wpAny (M1 X) (A.deeper env) (leaving env e) (fun zz s''=>EX e s'') (fun e' s''=>EX e' s'') s') s3 | ff=>K (match ff with | .ret v=>v | _=>.none) s3):=fun {fl ρ3 H3 φ3 ff s3} q3 F3 L3 r3=>by
   cases fl with
   | cont=>obtain rfl:=r3;exact fin (φ':=φ3) q3 F3.same (fun b o h1 h2 zz h3=>F3.keep b o h1 h2 h3) rfl
   | ret v=>obtain ⟨y,rfl,r3⟩:=r3;exact fin q3 F3.same (fun b o h1 h2 zz h3=>F3.keep b o h1 h2 h3) ⟨y,rfl,r3⟩
   | next =>
    obtain rfl:=r3
    exact bO (X:=I8 X fn.lits) (A:=A.deeper env) (G.lits _) hh hun' hCn post rest env _ ρ3 Q H3 φ3 s3 _ _ g6 L3 F3.ok q3 fun fl ρ4 H4 φ4 ff s4 q4 F4 L4 r4=>fin q4 (F3.trans F4).same (fun b o h1 h2 zz h3=>(F3.trans F4).keep b o h1 h2 h3) r4
  refine wpAny_execs_cons (wpAny_Try_except (wpAny_execs_cons ?_))
  rcases q with q | q
  ·refine At7 (X:=I8 X fn.lits) (A:=A.deeper env) (G.lits _) hh hun' hCn (.assign x e) b1 env _ ρ2 _ H2 φ2 s2 _ _ g1 L2 F2.ok q fun fl ρ3 H3 φ3 ff s3 q3 F3 L3 r3=>?_
   have:=tail q3 (F2.trans F3) L3 r3
   cases ff with
   | next=>exact wpAny_execs_nil (wpAny_execs_nil this)
   | _=>exact this
  ·have hl2:P8 X.h₀ [env] s2.heap:=fun v hv=>by
    obtain rfl:=List.mem_singleton.mp hv
    obtain ⟨m,q,_⟩:=L2.locals
    exact ⟨L2.kind,I.fr,L2.above,m,q⟩
   refine mP (X:=I8 X fn.lits) (A:=A.deeper env) (fr:=[env]) (Cc:=Cc) (aR (X:=I8 X fn.lits) (A:=A.deeper env) (G.lits _) hh hun' hCn hRn e) g1 L2 F2.ok hl2 hnc q.2 fun H3 φ3 s3 ex r Y=>?_
   refine Aw0 (h₀:=X.h₀) (g:=s2.heap) hAn Y.live.funs I.fr Y.exc Y.sub fun h4 N4 x4=>lE (s:={ s3 with heap:=h4 }) x4 fun h5 N5 x5=>?_
   have N45:=N4.trans N5
   have L3:=L2.flyed F2.ok hl2 Y
   have L5:=L3.noted Y.live (fun b hb=>hb) N45
   have O5:Ok X.h₀ φ3 H3 h5:=Y.ok.noted N45 Y.live (fun b o e=>⟨o,F2.ok.base b o e⟩) (Av9 L5)
   have hl5:=Y.live.noted N45
   obtain ⟨bm,newId,Bn,inN,bmN,B,nid,initId,O1,Fn,hBn,FB,hbase⟩:=hcl
   simp only [Mini.N3,Bool.and_eq_true,Bool.not_eq_true'] at g4
   have hex:∃ oe,h5.get? ex=some oe/\oe.cls=.ref Cc:=by
    obtain ⟨oe,_,_,_,_,he,hc,_⟩:=x5
    exact ⟨oe,he,hc⟩
   subst g2
   refine handleBy_own (x:=Str.ofString c) (C:=Cc) (bmB:=bm) (newId:=newId) (mg:=X.mg) hbase (bE (X:=I8 X fn.lits) (G.lits _) L5 O5 g3 g4.1 O1.bound ⟨rfl,O1.keeps O5.base,hex,?_⟩)
   refine lE (s:={ s3 with heap:=h5 }) x5 fun h6 N6 x6=>?_
   have L6:=L5.noted (fr:=[env]) hl5 (fun b hb=>absurd hb List.not_mem_nil) N6
   have O6:Ok X.h₀ φ3 H3 h6:=O5.noted (fr:=[]) (show Z5 (frs []) s2.heap h5 h6 from N6) (fun v hv=>absurd hv List.not_mem_nil) (fun b o e=>⟨o,F2.ok.base b o e⟩) (Av9 L6)
   refine hhs _ (h0::hs) env _ ρ2 _ H3 φ3 { s3 with heap:=h6 } _ _ g5 L6 O6 r fun fl ρ7 H7 φ7 ff s7 q7 F7 L7 r7=>?_
   obtain ⟨ψ3,gr3,m3⟩:=Y.grow
   have hk7:∀ b o,b ∉ φ->¬ Own env b->b<s₁.heap.objs.size->s₁.heap.get? b=some o->s7.heap.get? b=some o:=fun b o h1 h2 h3 h4=>by
    have a2:=F2.keep b o h1 h2 h4
    have n2:b ∉ φ2:=tW gr2 m2 h1 h3
    have n3:b ∉ φ3:=tW gr3 m3 n2 (Heap.lt_size a2)
    have nf:b ∉ frs [env]:=by rw [hf1,List.mem_singleton];exact fun q=>h2 (Or.inl q)
    exact F7.keep b o n3 h2 (N6.keepG b o o a2 (List.not_mem_nil) (N45.keepG b o o a2 nf (Y.keep b o n2 id nf a2)))
   have hs7:∃ h' tk,s7={ s₁ with heap:=h',toks:=tk }:=by
    obtain ⟨h7,t7,e7⟩:=F7.same
    obtain ⟨h3,t3,e3⟩:=Y.same
    obtain ⟨h2,t2,e2⟩:=F2.same
    exact ⟨h7,t7,by rw [e7,e3,e2]⟩
   cases fl with
   | next=>exact q7.elim
   | cont=>obtain rfl:=r7;exact fin (φ':=φ7) q7 hs7 hk7 rfl
   | ret v=>obtain ⟨y,rfl,r7⟩:=r7;exact fin q7 hs7 hk7 ⟨y,rfl,r7⟩
end
end MiniS
namespace MiniS
open PySem PySem.Calls PyProof.Rows PySem.W
open Mini (V D)
noncomputable def Cl5 (p:Program) (gl:Mini.Gl) (P:List (String×Mini.Fn)) (x:String×List Nat):Bool:=match P.lookup x.1 with
 | some fn=>fn.lits==x.2&&(recsOf p).any fun d=>d.name==Str.ofString x.1&&Mini.tN gl fn d.params d.body d.scope
 | none=>false
noncomputable def Bl3 (p:Program) (x:String×Int):Bool:=match valOf p (Str.ofString x.1) with
 | some (.int i)=>i==x.2
 | _=>false
noncomputable def Aw6 (p:Program) (loose:List Str) (x:Str):Bool :=
 !startupNames.contains x&&!loose.contains x&&!((recsOf p).map (·.name)).contains x&&!((litsOf p).map (·.1)).contains x&&!((clssOf p loose).map (·.name)).contains x
noncomputable def lD (p:Program) (loose:List Str) (gl:Mini.Gl) (P:List (String×Mini.Fn)):Bool :=
 gl.fns.all (Cl5 p gl P)&&gl.intL.all (Bl3 p)&&(dB++cZ).all fun n=>Aw6 p loose (Str.ofString n)
theorem eH {α:Type}:∀ {l:List (String×α)}{n:String}{c:α},l.lookup n=some c->(n,c)∈l
 | (k,v)::r,n,c,h=>by
  rw [List.lookup_cons] at h
  cases hb:n==k with
  | true=>rw [hb] at h;cases h;rw [beq_iff_eq.mp hb];exact List.mem_cons_self
  | false=>rw [hb] at h;exact List.mem_cons_of_mem _ (eH h)
set_option tactic.hygienic true in
theorem Ap4 {prog p:Program}{w:World}{loose:List Str}{mean:ExcName->Option Value}{mg mb:Str->Option Value}{h:Heap}{gl:Mini.Gl}{P:List (String×Mini.Fn)}
  (T:Top p loose mean mg mb h) (hc:lD p loose gl P=true):cR ⟨prog,w,h,gl,fun f=>P.lookup f,mg,mb⟩:=by
 unfold lD at hc
 simp only [Bool.and_eq_true,List.all_eq_true] at hc
 obtain ⟨⟨h1,h2⟩,h3⟩:=hc
 have hfree:∀ n∈dB++cZ,mg (Str.ofString n)=none:=fun n hn=>by
  have:=h3 n hn
  unfold Aw6 at this
  simp only [Bool.and_eq_true,Bool.not_eq_true'] at this
  obtain ⟨⟨⟨⟨a1,a2⟩,a3⟩,a4⟩,a5⟩:=this
  exact T.free _ (by simpa using a1) (by simpa using a2) (by simpa using a3) (by simpa using a4) (by simpa using a5)
 refine ⟨T.g,T.b,T.nolimit,fun g i hm=>?_,fun f ls hf=>?_,fun n hn=>⟨hfree n (List.mem_append_left _ hn),?_⟩,fun n hn=>⟨hfree n (List.mem_append_right _ hn),?_⟩⟩
 ·have:=h2 _ hm
  unfold Bl3 at this
  split at this
  ·rename_i i' e
   have ei:i'=i:=by simpa using this
   subst ei
   obtain ⟨v,hv,hr⟩:=T.const _ _ e
   cases hr default
   exact ⟨_,hv⟩
  ·cases this
 ·have:=h1 _ (eH hf)
  unfold Cl5 at this
  split at this
  ·rename_i fn e
   simp only [Bool.and_eq_true,beq_iff_eq,List.any_eq_true] at this
   obtain ⟨hl,d,hd,hn,hck⟩:=this
   obtain ⟨a,o,pm,code,doc,q1,q2,q3,q4⟩:=T.fn d hd
   rw [hn] at q1 q3 q4
   exact ⟨fn,a,o,d.params,d.body,d.scope,pm,code,doc,e,hl,q1,q2,q3,q4,hck⟩
  ·cases this
 ·show mb (Str.ofString n)=_
  rw [T.builtins (Str.ofString n) (by
   simp only [dB,List.mem_cons,List.not_mem_nil,or_false] at hn
   rcases hn with rfl | rfl | rfl | rfl<;>decide +kernel)]
  simp only [dB,List.mem_cons,List.not_mem_nil,or_false] at hn
  rcases hn with rfl | rfl | rfl | rfl<;>decide +kernel
 ·show mb (Str.ofString n)=_
  rw [T.builtins (Str.ofString n) (by
   simp only [cZ,List.mem_cons,List.not_mem_nil,or_false] at hn
   rcases hn with rfl | rfl | rfl | rfl | rfl | rfl | rfl<;>decide +kernel)]
  simp only [cZ,List.mem_cons,List.not_mem_nil,or_false] at hn
  rcases hn with rfl | rfl | rfl | rfl | rfl | rfl | rfl<;>decide +kernel
theorem rA {R:WRecords}:∀ {xs:List WData},WShape.hasItems R xs .int=true->∃ ns:List Int,xs=ns.map WData.int
 | [],_=>⟨[],rfl⟩
 | x::xs,h=>by
  simp only [WShape.hasItems,Bool.and_eq_true] at h
  obtain ⟨ns,rfl⟩:=rA h.2
  obtain ⟨i,rfl⟩:∃ i,x=.int i:=by
   cases x<;>first | exact ⟨_,rfl⟩ | exact absurd (show false=true from h.1) (by decide)
  exact ⟨i::ns,rfl⟩
theorem Bt6 {l:OpenLaw}(hm:l.most=some 63) {args:List WData}(hpre:l.row.claim.pre args=true):∃ ns:List Int,args=[.list (ns.map WData.int)]/\ns.length<=63:=by
 obtain ⟨h1,h2⟩:=pre_splitW hpre
 obtain ⟨d,r,rfl,hd,hr⟩:=hasAllW_cons h1
 obtain rfl:=hasAllW_nil hr
 replace hd:∃ xs,d=.list xs/\WShape.hasItems l.row.records xs .int=true:=by
  cases d<;>first | exact absurd (show false=true from hd) (by decide) | exact ⟨_,rfl,(Bool.or_false _).symm.trans hd⟩
 obtain ⟨xs,rfl,hd⟩:=hd
 obtain ⟨ns,rfl⟩:=rA hd
 refine ⟨ns,rfl,?_⟩
 have h2:(l.pre).holds [] { args:=[.list (ns.map WData.int)] }=true:=h2
 unfold OpenLaw.pre at h2
 rw [hm] at h2
 by_cases hlt:ns.length<=63
 ·exact hlt
 ·exfalso
  have e:decide ((63:Int)<((ns.map WData.int).length:Int))=true:=by simp;exact Int.ofNat_lt.mpr (Mini.G9 (Nat.lt_of_not_le hlt))
  replace h2:=(holds_andW h2).1
  have e3:WTm.value [] (.not (.lt (.lit (.int (63:Nat))) (.len (.arg 0)))) { args:=[.list (ns.map WData.int)] }=some (WData.bool (!(decide ((63:Int)<((ns.map WData.int).length:Int))))):=rfl
  rw [e] at e3
  have e4:WTm.holds [] (.not (.lt (.lit (.int (63:Nat))) (.len (.arg 0)))) { args:=[.list (ns.map WData.int)] }=false:=by
   unfold WTm.holds
   rw [e3]
   rfl
  exact absurd (e4.symm.trans h2) (by decide)
theorem qX {R:WRecords}{cl:Str->Option Addr}{h:Heap}:∀ {ns:List Int}{vs:List Value}{as:List Addr},ReadsAllW R cl h vs (ns.map WData.int) as->dC ns vs
 | [],_,_,H=>by cases H;trivial
 | i::ns,_,_,H=>by
  cases H with
  | cons h1 h2 =>
   cases h1
   exact ⟨⟨_,rfl⟩,qX h2⟩
theorem Bt5 {l:OpenLaw}{args ds:List WData}:l.row.claim.post args (.bool true) ds=true:=by kernel_rfl
end MiniS
namespace MiniS
open PySem PySem.Calls PyProof.Rows PySem.W
open Mini (V D)
noncomputable def Bl2 (p:Program) (gl:Mini.Gl) (fn:Mini.Fn) (c:String) (b:Mini.S) (h post:List Mini.S):Bool:=(recsOf p).any fun d=>d.name==Str.ofString "law" && Mini.tN gl fn d.params (d.body.take fn.body.length) d.scope&&Mini.Am0 { gl with lits:=fn.lits } d.scope.names (fn.names.map Str.ofString) c b h post (d.body.drop fn.body.length)
theorem Cq8 {X:Cx}{A:Around}{C:Mini.Calls}{y:Nat}:Z4 X A C [.ret (.not (.var y))]:=zQ (Av4 (Av6 Av3)) Av7
theorem Be0 {l:OpenLaw}(hmost:l.most=some 63) {p:Program}{loose:List Str}{w:World}{s₀ s₁:Shared}{mg mb:Str->Option Value}{fa:Addr}{args:List WData}{vals:List Value}{as:List Addr}
  (T:Top p loose (ExcName.means s₀.heap) mg mb s₁.heap) (hg:s₁.gens=#[]) (hmg:mg (Str.ofString "law")=some (.ref fa)) (hpre:l.row.claim.pre args=true) (hrd:ReadsAllW l.row.records (classAt s₀.heap) s₁.heap vals args as)
  (gl:Mini.Gl) (P:List (String×Mini.Fn)) (n:Nat) (hn:n<=600) (hc:lD p loose gl P=true) {fn:Mini.Fn}{c newId:String}{bm:List Value}{x y:Nat}{e:Mini.E}{post:List Mini.S}(hlc:Bl2 p gl fn c (.assign x e) [.ret (.not (.var y))] post=true)
  (hsp:specOf p (Str.ofString c)=some (newId,bm)) {Bn inN B nid initId:String}{bmN:List Value}(Fn:ExcBaseFacts Bn newId inN bmN) (hBn:bm.contains (.type Bn)=true) (FB:ExcBaseFacts B nid initId bm) (hbase:bm.contains (.type "BaseException")=true)
  (hb:gl.pos=false) (hli:fn.lits=[]) (hnc:Mini.Q8 e=true) (hpa:fn.params=1)
  (hlaw:∀ ns:List Int,ns.length<=63->Mini.Cp4 (Mini.callN (fun f=>P.lookup f) n) (Mini.X9 (fun f=>P.lookup f) c n) c fn.body (.assign x e) [.ret (.not (.var y))] post (Mini.frame fn [.frz ns]) (fun fl zz zz=>fl=.ret (.bool true)) []) :
  wpAny (model l.row.prog w) callerA (call (.ref fa) vals)
   (fun v s'=>GoodWG l.row.claim (classAt s₀.heap) (ExcName.means s₀.heap) args s₁ (Except.ok (Flow.ret v)) s')
   (fun e s'=>GoodWG l.row.claim (classAt s₀.heap) (ExcName.means s₀.heap) args s₁ (Except.error e) s') s₁:=by
 have G:=Ap4 (prog:=l.row.prog) (w:=w) T hc
 obtain ⟨ns,rfl,hns⟩:=Bt6 hmost hpre
 obtain ⟨C,O1,_⟩:=T.ownAt hsp
 unfold Bl2 at hlc
 simp only [Bool.and_eq_true,beq_iff_eq,List.any_eq_true] at hlc
 obtain ⟨d,hd,⟨hdn,hck⟩,htr⟩:=hlc
 obtain ⟨a,o,pm,code,doc,q1,q2,q3,q4⟩:=T.fn d hd
 rw [hdn] at q1 q3 q4
 rw [hmg] at q1;cases q1
 cases hrd with
 | cons h1 h2 =>
  cases h2
  cases h1 with
  | list ho hcls hd0 hi =>
   have hi:=qX hi
   refine Bq3 (X:=⟨l.row.prog,w,s₁.heap,gl,fun f=>P.lookup f,mg,mb⟩) (A:=callerA) (Cc:=C) (c:=c) (n:=n) (f := "law") (vs:=[.frz ns]) (H:=[]) (φ:=[]) (s:=s₁) G ⟨bm,newId,Bn,inN,bmN,B,nid,initId,O1,Fn,hBn,FB,hbase⟩ rfl rfl ?_ ?_ q2 q3 q4 hck htr hnc (fun A'=>Cq8) (by rw [hpa];rfl) ?_ (C7.one ?_) (fun hp=>by rw [hb] at hp;cases hp) (fun j hj=>by rw [hli] at hj;cases hj) (hlaw ns hns) fun fl ρ' H' φ' f s' q hs hk r=>?_
   ·have e1:callerA.depth=301:=rfl
    have e2:recursionLimit=1000:=rfl
    exact Mini.G9 (Mini.I6 hn (Mini.I6 (Nat.le_of_eq e1) (Nat.le_of_eq e2.symm)))
   ·have e1:callerA.units=4:=rfl
    have e2:cLine=9900:=rfl
    exact Mini.G9 (Mini.I6 hn (Mini.I6 hn (Mini.I6 hn (Mini.I6 (Nat.le_of_eq e1) (Nat.le_of_eq e2.symm)))))
   ·exact ⟨fun zz zz e=>e,rfl,List.nodup_nil,fun a ha=>(by cases ha),fun l hl=>(by cases hl),A4 _,fun i a l hi=>(by simp at hi)⟩
   ·have hlim:Mini.I3=16777216:=rfl
    exact ⟨by exact Mini.G9 (Mini.I6 hns (Nat.le_of_eq hlim.symm)),_,_,rfl,⟨_,ho,hcls,_,by simpa using hd0⟩,hi⟩
   ·subst q
    obtain ⟨y,rfl,r⟩:=r
    obtain rfl:=X4 r
    obtain ⟨h',tk,e⟩:=hs
    refine ⟨Or.inl ⟨.bool true,.bool true,[],rfl,fun zz=>rfl,.bool true,?_,fun zz=>⟨List.nodup_nil,fun a ha=>(by cases ha)⟩⟩,.of_keep fun b o e=>hk b o (fun hm=>by cases hm) e,by rw [e],.of_eq (by rw [e];exact hg)⟩
    exact Bt5
end MiniS
namespace Mini
theorem mT {test:D7->C2->Heap->Prop}{body:D7->E6->Heap->Prop}{Q:E6}(I:Nat->D7->Heap->Prop)
  (step:∀ k ρ H,I k ρ H->∀ K:D7->Heap->Prop,(∀ k' ρ' H',k'<k->I k' ρ' H'->K ρ' H')->test ρ (fun v H₁=>boo (I7 v) (fun b H₁=>match b with
   | true=>body ρ (fun fl ρ' H₂=>match fl with
    | .ret v=>Q (.ret v) ρ' H₂
    | _=>K ρ' H₂) H₁
   | false=>Q .next ρ H₁) H₁) H):∀ (n k:Nat) (ρ:D7) (H:Heap),k<n->I k ρ H->gO test body n ρ Q H
 | 0,k,_,_,h,_=>absurd h (Nat.not_lt_zero _)
 | n+1,k,ρ,H,h,hI=>by
  exact step k ρ H hI (fun ρ' H'=>gO test body n ρ' Q H') fun k' ρ' H' hk hI'=>mT I step n k' ρ' H' (A8 hk (Nat.le_of_lt_succ h)) hI'
theorem Bu1 {C:Calls}{c:E}{b:List S}{Q:E6}(I:Nat->D7->Heap->Prop)
  (step:∀ k ρ H,I k ρ H->∀ K:D7->Heap->Prop,(∀ k' ρ' H',k'<k->I k' ρ' H'->K ρ' H')->E2 C c ρ (fun v H₁=>boo (I7 v) (fun b' H₁=>match b' with
   | true=>C6 C b ρ (fun fl ρ' H₂=>match fl with
    | .ret v=>Q (.ret v) ρ' H₂
    | _=>K ρ' H₂) H₁
   | false=>Q .next ρ H₁) H₁) H) (k:Nat) {ρ:D7}{H:Heap}(h:I k ρ H):iC C (.whl c b) ρ Q H:=by
 exact ⟨k+1,mT I step (k+1) k ρ H (B1 _) h⟩
theorem lQ {body:D7->E6->Heap->Prop}{x:Nat}{it:It}{Q:E6}(len:Nat) (I:Nat->D7->Heap->Prop)
  (bound:∀ i ρ H v,I i ρ H->it.at H i=some v->i<len)
  (step:∀ i ρ H v,I i ρ H->it.at H i=some v->∀ K:D7->Heap->Prop,(∀ ρ' H',I (i+1) ρ' H'->K ρ' H')->body (ρ.set x (some v)) (fun fl ρ' H₂=>match fl with
    | .ret v=>Q (.ret v) ρ' H₂
    | _=>K ρ' H₂) H)
  (fin:∀ i ρ H,I i ρ H->it.at H i=none->Q .next ρ H):∀ (n i:Nat) (ρ:D7) (H:Heap),len<n+i->I i ρ H->i<=len->aK body x it n i ρ Q H
 | 0,i,_,_,h,_,hi=>absurd h (Nat.not_lt_of_le (by rw [Nat.zero_add];exact hi))
 | n+1,i,ρ,H,h,hI,hi=>by
  show (match it.at H i with | none=>_ | some v=>_)
  cases e:it.at H i with
  | none=>exact fin i ρ H hI e
  | some v =>
   have hlt:=bound i ρ H v hI e
   exact step i ρ H v hI e (fun ρ' H'=>aK body x it n (i+1) ρ' Q H') fun ρ' H' hI'=>lQ len I bound step fin n (i+1) ρ' H' (by rw [Nat.add_right_comm] at h;exact h) hI' hlt
theorem Ay7 {body:D7->E6->Heap->Prop}{x:Nat}{vs:List V}{Q:E6}(I:Nat->D7->Heap->Prop)
  (step:∀ i ρ H v,vs[i]? = some v->I i ρ H->∀ K:D7->Heap->Prop,(∀ ρ' H',I (i+1) ρ' H'->K ρ' H')->body (ρ.set x (some v)) (fun fl ρ' H₂=>match fl with
    | .ret v=>Q (.ret v) ρ' H₂
    | _=>K ρ' H₂) H)
  (fin:∀ ρ H,I vs.length ρ H->Q .next ρ H) {ρ:D7}{H:Heap}(h0:I 0 ρ H):∃ n,aK body x (.fix vs) n 0 ρ Q H :=
 ⟨vs.length+1,lQ (it:=.fix vs) vs.length (fun i ρ H=>i<=vs.length/\I i ρ H) (fun i ρ H v zz e=>(List.getElem?_eq_some_iff.mp e).1)
  (fun i ρ H v hI e K hK=>step i ρ H v e hI.2 K fun ρ' H' h'=>hK ρ' H' ⟨(List.getElem?_eq_some_iff.mp e).1,h'⟩)
  (fun i ρ H hI e=>fin ρ H (by
   have:vs.length<=i:=List.getElem?_eq_none_iff.mp e
   have:i=vs.length:=Nat.le_antisymm hI.1 this
   subst this;exact hI.2)) _ 0 ρ H (B1 _) ⟨B0 _,h0⟩ (B0 _)⟩
theorem Ch1 {body:D7->E6->Heap->Prop}{x a:Nat}{l:List V}{Q:E6}(I:Nat->D7->Heap->Prop) (hl:∀ i ρ H,I i ρ H->H[a]? = some l)
  (step:∀ i ρ H v,l[i]? = some v->I i ρ H->∀ K:D7->Heap->Prop,(∀ ρ' H',I (i+1) ρ' H'->K ρ' H')->body (ρ.set x (some v)) (fun fl ρ' H₂=>match fl with
    | .ret v=>Q (.ret v) ρ' H₂
    | _=>K ρ' H₂) H)
  (fin:∀ ρ H,I l.length ρ H->Q .next ρ H) {ρ:D7}{H:Heap}(h0:I 0 ρ H):∃ n,aK body x (.lst a) n 0 ρ Q H:=by
 have at_eq:∀ i ρ H,I i ρ H->(It.lst a).at H i=l[i]?:=fun i ρ H h=>by
  unfold It.at;simp only [hl i ρ H h]
 exact ⟨l.length+1,lQ l.length (fun i ρ H=>i<=l.length/\I i ρ H) (fun i ρ H v h e=>by rw [at_eq i ρ H h.2] at e;exact (List.getElem?_eq_some_iff.mp e).1)
  (fun i ρ H v hI e K hK=>by
   rw [at_eq i ρ H hI.2] at e
   exact step i ρ H v e hI.2 K fun ρ' H' h'=>hK ρ' H' ⟨(List.getElem?_eq_some_iff.mp e).1,h'⟩)
  (fun i ρ H hI e=>fin ρ H (by
   rw [at_eq i ρ H hI.2] at e
   have:l.length<=i:=List.getElem?_eq_none_iff.mp e
   have:i=l.length:=Nat.le_antisymm hI.1 this
   subst this;exact hI.2)) _ 0 ρ H (B1 _) ⟨B0 _,h0⟩ (B0 _)⟩
theorem oP {test:D7->(Bool->Heap->Prop)->Heap->Prop}{elt:D7->C2->Heap->Prop}{x:Nat}{ρ:D7}{it:It}{H:Heap}{Q:List V->Heap->Prop}(vs:List V) (p:V->Bool) (f:V->V)
  (hat:∀ i,it.at H i=vs[i]?) (hlen:vs.length<=I3)
  (ht:∀ v∈vs,∀ K:Bool->Heap->Prop,K (p v) H->test (ρ.set x (some v)) K H)
  (he:∀ v∈vs,p v=true->∀ K:C2,K (f v) H->elt (ρ.set x (some v)) K H) (h:Q ((vs.filter p).map f) H) :
  ∀ (n i:Nat) (acc:List V),vs.length<n+i->i<=vs.length->acc=((vs.take i).filter p).map f->S9 test elt x ρ it n i acc Q H
 | 0,i,_,h,hi,_=>absurd h (Nat.not_lt_of_le (by rw [Nat.zero_add];exact hi))
 | n+1,i,acc,hn,hi,hacc=>by
  show (match it.at H i with | none=>_ | some v=>_)
  rw [hat]
  cases e:vs[i]? with
  | none =>
   have:vs.length<=i:=List.getElem?_eq_none_iff.mp e
   have:i=vs.length:=Nat.le_antisymm hi this
   subst this
   rw [List.take_length] at hacc
   simp only [hacc];exact h
  | some v =>
   have hlt:=(List.getElem?_eq_some_iff.mp e).1
   have hm:v∈vs:=B9 e
   have htk:vs.take (i+1)=vs.take i++[v]:=by rw [List.take_add_one,e];rfl
   refine ht v hm _ ?_
   cases hp:p v with
   | false =>
    simp only
    exact oP vs p f hat hlen ht he h n (i+1) acc (by rw [Nat.add_right_comm] at hn;exact hn) hlt (by rw [hacc,htk];simp [hp])
   | true =>
    simp only
    refine he v hm hp _ ⟨?_,oP vs p f hat hlen ht he h n (i+1) _ (by rw [Nat.add_right_comm] at hn;exact hn) hlt (by rw [hacc,htk];simp [hp])⟩
    rw [hacc,B6]
    have:=List.length_filter_le p (vs.take i)
    have h2:(vs.take i).length=i:=List.length_take_of_le hi
    exact A9 (A3 this (Nat.le_of_eq h2)) (A8 hlt hlen)
theorem qH {C:Calls}{elt:E}{x:Nat}{ρ:D7}{it:It}{H:Heap}{Q:List V->Heap->Prop}(vs:List V) (f:V->V)
  (hat:∀ i,it.at H i=vs[i]?) (hlen:vs.length<=I3)
  (he:∀ v∈vs,∀ K:C2,K (f v) H->E2 C elt (ρ.set x (some v)) K H) (h:Q (vs.map f) H):∃ n,S9 (P6 C []) (E2 C elt) x ρ it n 0 [] Q H :=
 ⟨vs.length+1,oP vs (fun zz=>true) f hat hlen (fun v zz K hK=>hK) (fun v hv zz K hK=>he v hv K hK) (by rw [List.filter_eq_self.mpr (fun zz zz=>rfl)];exact h) _ 0 [] (B1 _) (B0 _) (by simp)⟩
end Mini
namespace Mini
theorem dK {r:Res}{Q Q':C2}(hq:∀ v H,Q v H->Q' v H) (h:res r Q):res r Q':=by
 cases r with
 | some p=>exact hq _ _ h
 | none=>exact h
theorem Aa4 {r:Option V}{Q Q':C2}{H:Heap}(hq:∀ v H,Q v H->Q' v H) (h:val r Q H):val r Q' H:=by
 cases r with
 | some p=>exact hq _ _ h
 | none=>exact h
theorem U4 {r:Option Bool}{Q Q':Bool->Heap->Prop}{H:Heap}(hq:∀ v H,Q v H->Q' v H) (h:boo r Q H):boo r Q' H:=by
 cases r with
 | some p=>exact hq _ _ h
 | none=>exact h
theorem qF {r:Option Heap}{Q Q':C2}(hq:∀ v H,Q v H->Q' v H) (h:hea r Q):hea r Q':=by
 cases r with
 | some p=>exact hq _ _ h
 | none=>exact h
noncomputable def aP (C:Calls):Prop:=∀ f vs (Q Q':C2) H,(∀ v H,Q v H->Q' v H)->C f vs Q H->C f vs Q' H
noncomputable def mI {α:Type}(t:(α->Heap->Prop)->Heap->Prop):Prop:=∀ (Q Q':α->Heap->Prop) H,(∀ v H,Q v H->Q' v H)->t Q H->t Q' H
theorem cC {test:D7->(Bool->Heap->Prop)->Heap->Prop}{elt:D7->C2->Heap->Prop}{x:Nat}{ρ:D7}{it:It}(ht:∀ ρ,mI (test ρ)) (he:∀ ρ,mI (elt ρ)) :
  ∀ (n i:Nat) (acc:List V) {Q Q':List V->Heap->Prop}{H:Heap},(∀ v H,Q v H->Q' v H)->S9 test elt x ρ it n i acc Q H->S9 test elt x ρ it n i acc Q' H
 | 0,_,_,_,_,_,_,h=>False.elim h
 | n+1,i,acc,Q,Q',H,hq,h=>by
  replace h:(match it.at H i with | none=>_ | some v=>_):=h
  show (match it.at H i with | none=>_ | some v=>_)
  cases e:it.at H i with
  | none=>rw [e] at h;exact hq _ _ h
  | some v =>
   rw [e] at h
   refine ht _ _ _ _ (fun b H1 h1=>?_) h
   cases b with
   | false=>exact cC ht he n _ _ hq h1
   | true=>exact he _ _ _ _ (fun y H2 h2=>⟨h2.1,cC ht he n _ _ hq h2.2⟩) h1
theorem Bf8 {s:List Nat}{va vb:V}{Q Q':C2}{H:Heap}(hq:∀ v H,Q v H->Q' v H) (h:zI s va vb Q H):zI s va vb Q' H:=by
 replace h:=Z8 h;obtain ⟨c,rfl,h⟩:=h
 replace h:=Ax8 h;obtain ⟨i,rfl,h⟩:=h
 exact ⟨h.1,hq _ _ h.2⟩
theorem Aq3 {s:List Nat}{va:V}{Q Q':C2}{H:Heap}(hq:∀ v H,Q v H->Q' v H) (h:fP s va Q H):fP s va Q' H:=by
 cases va with
 | ref a =>
  replace h:(match (H[a]?).bind sX with | some l=>_ | none=>False):=h
  show (match (H[a]?).bind sX with | some l=>_ | none=>False)
  generalize (H[a]?).bind sX=o at h ⊢
  cases o with
  | none=>exact h
  | some l=>exact ⟨h.1,hq _ _ h.2⟩
 | _=>exact False.elim h
theorem Ck6 {s:List Nat}{va vb:V}{Q Q':C2}{H:Heap}(hq:∀ v H,Q v H->Q' v H) (h:Ab1 s va vb Q H):Ab1 s va vb Q' H:=by
 replace h:=Z8 h;obtain ⟨c,rfl,h⟩:=h
 replace h:=Z8 h;obtain ⟨i,rfl,h⟩:=h
 exact ⟨h.1,h.2.1,hq _ _ h.2.2⟩
mutual
theorem G5 {C:Calls}(hC:aP C):∀ (e:E) (ρ:D7),mI (E2 C e ρ)
 | .none,ρ=>fun Q Q' H hq h=>hq _ _ h
 | .bool _,ρ=>fun Q Q' H hq h=>hq _ _ h
 | .int _,ρ=>fun Q Q' H hq h=>hq _ _ h
 | .str _,ρ=>fun Q Q' H hq h=>hq _ _ h
 | .var x,ρ=>fun Q Q' H hq h=>by
  replace h:=Bm1 h
  show (match ρ[x]? with | some (some v)=>Q' v H | _=>False)
  rcases hx:ρ[x]? with _ | _ | v<;>rw [hx] at h
  ·exact h
  ·exact h
  ·exact hq _ _ h
 | .glob _ _,ρ=>fun Q Q' H hq h=>hq _ _ h
 | .bin o l r,ρ=>fun Q Q' H hq h=>by
  replace h:=Bm7 h
  exact G5 hC l ρ _ _ _ (fun zz zz h=>G5 hC r ρ _ _ _ (fun zz zz h=>dK hq h) h) h
 | .neg _,ρ=>fun Q Q' H hq h=>hq _ _ h
 | .cmp o l r,ρ=>fun Q Q' H hq h=>by
  replace h:=Ak7 h
  exact G5 hC l ρ _ _ _ (fun zz zz h=>G5 hC r ρ _ _ _ (fun zz zz h=>U4 (fun zz zz h=>hq _ _ h) h) h) h
 | .cmp2 o p a b c,ρ=>fun Q Q' H hq h=>by
  replace h:=wX h
  refine G5 hC a ρ _ _ _ (fun zz zz h=>G5 hC b ρ _ _ _ (fun zz zz h=>U4 (fun t zz h=>?_) h) h) h
  cases t with
  | true=>exact G5 hC c ρ _ _ _ (fun zz zz h=>U4 (fun zz zz h=>hq _ _ h) h) h
  | false=>exact hq _ _ h
 | .is e c,ρ=>fun Q Q' H hq h=>G5 hC e ρ _ _ _ (fun zz zz h=>hq _ _ h) h
 | .isnot e c,ρ=>fun Q Q' H hq h=>G5 hC e ρ _ _ _ (fun zz zz h=>hq _ _ h) h
 | .and es,ρ=>fun Q Q' H hq h=>Ax9 hC es ρ _ _ _ hq h
 | .or es,ρ=>fun Q Q' H hq h=>Bn4 hC es ρ _ _ _ hq h
 | .not e,ρ=>fun Q Q' H hq h=>G5 hC e ρ _ _ _ (fun zz zz h=>U4 (fun zz zz h=>hq _ _ h) h) h
 | .idx o i,ρ=>fun Q Q' H hq h=>by
  replace h:=Bm6 h
  exact G5 hC o ρ _ _ _ (fun zz zz h=>G5 hC i ρ _ _ _ (fun zz zz h=>Aa4 hq h) h) h
 | .slc o l r,ρ=>fun Q Q' H hq h=>by
  replace h:=Bm2 h
  refine G5 hC o ρ _ _ _ (fun zz zz h=>G5 hC l ρ _ _ _ (fun v zz h=>G5 hC r ρ _ _ _ (fun w zz h=>?_) h) h) h
  cases v with
  | int a0 =>
   cases w with
   | int b0=>exact dK hq h
   | _=>exact False.elim h
  | _=>exact False.elim h
 | .slcL o l,ρ=>fun Q Q' H hq h=>by
  replace h:=Ax2 h
  refine G5 hC o ρ _ _ _ (fun zz zz h=>G5 hC l ρ _ _ _ (fun v zz h=>?_) h) h
  cases v with
  | int a0 =>
   exact dK hq h
  | _=>exact False.elim h
 | .slcH o l,ρ=>fun Q Q' H hq h=>by
  replace h:=Ax3 h
  refine G5 hC o ρ _ _ _ (fun zz zz h=>G5 hC l ρ _ _ _ (fun v zz h=>?_) h) h
  cases v with
  | int a0 =>
   exact dK hq h
  | _=>exact False.elim h
 | .call f es,ρ=>fun Q Q' H hq h=>wF hC es ρ _ _ _ (fun zz zz h=>hC _ _ _ _ _ hq h) h
 | .isinst e t,ρ=>fun Q Q' H hq h=>G5 hC e ρ _ _ _ (fun zz zz h=>hq _ _ h) h
 | .len e,ρ=>fun Q Q' H hq h=>G5 hC e ρ _ _ _ (fun zz zz h=>Aa4 hq h) h
 | .toInt e,ρ=>fun Q Q' H hq h=>by
  replace h:=Aa6 h
  refine G5 hC e ρ _ _ _ (fun v zz h=>?_) h
  cases v with
  | bool a0 =>
   exact hq _ _ h
  | _=>exact False.elim h
 | .ord e,ρ=>fun Q Q' H hq h=>G5 hC e ρ _ _ _ (fun v zz h=>by
  replace h:=Z8 (f:=fun c=>Q (.int (c:Int)) _) (Cm2 h);obtain ⟨c,rfl,h⟩:=h
  exact hq _ _ h) (Bm4 h)
 | .sortedDown e,ρ=>fun Q Q' H hq h=>by
  replace h:=fW h
  refine G5 hC e ρ _ _ _ (fun v H₁ h=>?_) h
  cases v with
  | ref a =>
   replace h:(match (H₁[a]?).bind intL with | some l=>l.length<64/\∀ r:List Int,r.Perm l->Q (.ref H₁.length) (H₁++[r.map .int]) | none=>False):=h
   show (match (H₁[a]?).bind intL with | some l=>l.length<64/\∀ r:List Int,r.Perm l->Q' (.ref H₁.length) (H₁++[r.map .int]) | none=>False)
   generalize (H₁[a]?).bind intL=o at h ⊢
   cases o with
   | none=>exact h
   | some l=>exact ⟨h.1,fun r hr=>hq _ _ (h.2 r hr)⟩
  | _=>exact h.elim
 | .append o e,ρ=>fun Q Q' H hq h=>by
  replace h:=uD h
  refine G5 hC o ρ _ _ _ (fun v zz h=>?_) h
  cases v with
  | ref a0 =>
   exact G5 hC e ρ _ _ _ (fun zz zz h=>qF hq h) h
  | _=>exact False.elim h
 | .extend o e,ρ=>fun Q Q' H hq h=>by
  replace h:=uC h
  refine G5 hC o ρ _ _ _ (fun v zz h=>?_) h
  cases v with
  | ref a0 =>
   exact G5 hC e ρ _ _ _ (fun zz zz h=>qF hq h) h
  | _=>exact False.elim h
 | .pop o,ρ=>fun Q Q' H hq h=>by
  replace h:=Bm3 h
  refine G5 hC o ρ _ _ _ (fun v zz h=>?_) h
  cases v with
  | ref a0 =>
   exact dK hq h
  | _=>exact False.elim h
 | .find o a b,ρ=>fun Q Q' H hq h=>by
  replace h:=Ax5 h
  refine G5 hC o ρ _ _ _ (fun v zz h=>?_) h
  cases v with
  | str a0 =>
   refine G5 hC a ρ _ _ _ (fun zz zz h=>G5 hC b ρ _ _ _ (fun zz zz h=>?_) h) h
   exact Bf8 hq h
  | _=>exact False.elim h
 | .join o a,ρ=>fun Q Q' H hq h=>by
  replace h:=Ax4 h
  refine G5 hC o ρ _ _ _ (fun v zz h=>?_) h
  cases v with
  | str a0 =>
   refine G5 hC a ρ _ _ _ (fun zz zz h=>?_) h
   exact Aq3 hq h
  | _=>exact False.elim h
 | .split o a,ρ=>fun Q Q' H hq h=>by
  replace h:=Aa7 h
  refine G5 hC o ρ _ _ _ (fun v zz h=>?_) h
  cases v with
  | str a0 =>
   refine G5 hC a ρ _ _ _ (fun zz zz h=>?_) h
   replace h:=Z8 h;obtain ⟨c,rfl,h⟩:=h
   exact ⟨h.1,hq _ _ h.2⟩
  | _=>exact False.elim h
 | .list es,ρ=>fun Q Q' H hq h=>wF hC es ρ _ _ _ (fun zz zz h=>hq _ _ h) h
 | .tup es,ρ=>fun Q Q' H hq h=>wF hC es ρ _ _ _ (fun zz zz h=>hq _ _ h) h
 | .comp elt x src ifs,ρ=>fun Q Q' H hq h=>by
  replace h:=wW h
  refine G5 hC src ρ _ _ _ (fun v H₁ h=>?_) h
  show (match iterV v with | some it=>_ | none=>False)
  generalize iterV v=o at h ⊢
  cases o with
  | none=>exact h
  | some it=>?_
  obtain ⟨n,h⟩:=h
  exact ⟨n,cC (fun ρ=>Bj8 hC ifs ρ) (fun ρ=>G5 hC elt ρ) n _ _ (fun zz zz h=>hq _ _ h) h⟩
 | .compR elt x src ifs,ρ=>fun Q Q' H hq h=>by
  replace h:=qB h
  refine G5 hC src ρ _ _ _ (fun v H₁ h=>?_) h
  show (match rangeV v with | some it=>_ | none=>False)
  generalize rangeV v=o at h ⊢
  cases o with
  | none=>exact h
  | some it=>?_
  obtain ⟨n,h⟩:=h
  exact ⟨n,cC (fun ρ=>Bj8 hC ifs ρ) (fun ρ=>G5 hC elt ρ) n _ _ (fun zz zz h=>hq _ _ h) h⟩
theorem wF {C:Calls}(hC:aP C):∀ (es:List E) (ρ:D7),mI (S2 C es ρ)
 | [],ρ=>fun Q Q' H hq h=>hq _ _ h
 | e::es,ρ=>fun Q Q' H hq h=>by
  replace h:=Ax6 h
  exact G5 hC e ρ _ _ _ (fun zz zz h=>wF hC es ρ _ _ _ (fun zz zz h=>hq _ _ h) h) h
theorem Ax9 {C:Calls}(hC:aP C):∀ (es:List E) (ρ:D7),mI (iG C es ρ)
 | [],ρ=>fun Q Q' H hq h=>False.elim h
 | [e],ρ=>fun Q Q' H hq h=>G5 hC e ρ _ _ _ hq h
 | e::e2::es,ρ=>fun Q Q' H hq h=>by
  refine G5 hC e ρ _ _ _ (fun zz zz h=>U4 (fun b zz h=>?_) h) h
  cases b with
  | true=>exact Ax9 hC (e2::es) ρ _ _ _ hq h
  | false=>exact hq _ _ h
theorem Bn4 {C:Calls}(hC:aP C):∀ (es:List E) (ρ:D7),mI (vX C es ρ)
 | [],ρ=>fun Q Q' H hq h=>False.elim h
 | [e],ρ=>fun Q Q' H hq h=>G5 hC e ρ _ _ _ hq h
 | e::e2::es,ρ=>fun Q Q' H hq h=>by
  refine G5 hC e ρ _ _ _ (fun zz zz h=>U4 (fun b zz h=>?_) h) h
  cases b with
  | false=>exact Bn4 hC (e2::es) ρ _ _ _ hq h
  | true=>exact hq _ _ h
theorem Bj8 {C:Calls}(hC:aP C):∀ (es:List E) (ρ:D7),mI (P6 C es ρ)
 | [],ρ=>fun Q Q' H hq h=>hq _ _ h
 | e::es,ρ=>fun Q Q' H hq h=>by
  refine G5 hC e ρ _ _ _ (fun zz zz h=>U4 (fun b zz h=>?_) h) h
  cases b with
  | true=>exact Bj8 hC es ρ _ _ _ hq h
  | false=>exact hq _ _ h
end
noncomputable def mH (t:E6->Heap->Prop):Prop:=∀ (Q Q':E6) H,(∀ fl ρ H,Q fl ρ H->Q' fl ρ H)->t Q H->t Q' H
theorem eA {test:D7->C2->Heap->Prop}{body:D7->E6->Heap->Prop}(ht:∀ ρ,mI (test ρ)) (hb:∀ ρ,mH (body ρ)) :
  ∀ (n:Nat) (ρ:D7),mH (gO test body n ρ)
 | 0,ρ=>fun Q Q' H hq h=>False.elim h
 | n+1,ρ=>fun Q Q' H hq h=>by
  refine ht ρ _ _ _ (fun zz zz h=>U4 (fun b zz h=>?_) h) h
  cases b with
  | true =>
   refine hb ρ _ _ _ (fun fl ρ' H' h=>?_) h
   cases fl with
   | ret v=>exact hq _ _ _ h
   | next=>exact eA ht hb n ρ' _ _ _ hq h
   | cont=>exact eA ht hb n ρ' _ _ _ hq h
  | false=>exact hq _ _ _ h
theorem fC {body:D7->E6->Heap->Prop}{x:Nat}{it:It}(hb:∀ ρ,mH (body ρ)) :
  ∀ (n i:Nat) (ρ:D7),mH (aK body x it n i ρ)
 | 0,_,ρ=>fun Q Q' H hq h=>False.elim h
 | n+1,i,ρ=>fun Q Q' H hq h=>by
  replace h:(match it.at H i with | none=>_ | some v=>_):=h
  show (match it.at H i with | none=>_ | some v=>_)
  cases e:it.at H i with
  | none=>rw [e] at h;exact hq _ _ _ h
  | some v =>
   rw [e] at h
   refine hb _ _ _ _ (fun fl ρ' H' h=>?_) h
   cases fl with
   | ret v=>exact hq _ _ _ h
   | next=>exact fC hb n _ ρ' _ _ _ hq h
   | cont=>exact fC hb n _ ρ' _ _ _ hq h
theorem gY {body:D7->E6->Heap->Prop}{x y:Nat}{it:It}(hb:∀ ρ,mH (body ρ)) :
  ∀ (n i:Nat) (ρ:D7),mH (iI body x y it n i ρ)
 | 0,_,ρ=>fun Q Q' H hq h=>False.elim h
 | n+1,i,ρ=>fun Q Q' H hq h=>by
  replace h:(match it.at H i with | none=>_ | some v=>_):=h
  show (match it.at H i with | none=>_ | some v=>_)
  cases e:it.at H i with
  | none=>rw [e] at h;exact hq _ _ _ h
  | some v =>
   rw [e] at h
   refine hb _ _ _ _ (fun fl ρ' H' h=>?_) h
   cases fl with
   | ret v=>exact hq _ _ _ h
   | next=>exact gY hb n _ ρ' _ _ _ hq h
   | cont=>exact gY hb n _ ρ' _ _ _ hq h
mutual
theorem Cy5 {C:Calls}(hC:aP C):∀ (st:S) (ρ:D7),mH (iC C st ρ)
 | .assign x e,ρ=>fun Q Q' H hq h=>G5 hC e ρ _ _ _ (fun zz zz h=>hq _ _ _ h) h
 | .setIdx o i e,ρ=>fun Q Q' H hq h=>by
  replace h:=uB h
  exact G5 hC e ρ _ _ _ (fun zz zz h=>G5 hC o ρ _ _ _ (fun zz zz h=>G5 hC i ρ _ _ _ (fun zz zz h=>qF (fun zz zz h=>hq _ _ _ h) h) h) h) h
 | .expr e,ρ=>fun Q Q' H hq h=>G5 hC e ρ _ _ _ (fun zz zz h=>hq _ _ _ h) h
 | .ite c t f,ρ=>fun Q Q' H hq h=>by
  replace h:=Bm0 h
  refine G5 hC c ρ _ _ _ (fun zz zz h=>U4 (fun b zz h=>?_) h) h
  cases b with
  | true=>exact dE hC t ρ _ _ _ hq h
  | false=>exact dE hC f ρ _ _ _ hq h
 | .whl c b,ρ=>fun Q Q' H hq h=>by
  replace h:=Bl8 h
  obtain ⟨n,h⟩:=h
  exact ⟨n,eA (fun ρ=>G5 hC c ρ) (fun ρ=>dE hC b ρ) n ρ _ _ _ hq h⟩
 | .forIn x e b,ρ=>fun Q Q' H hq h=>by
  replace h:=Aa5 h
  refine G5 hC e ρ _ _ _ (fun v H₁ h=>?_) h
  show (match iterV v with | some it=>_ | none=>False)
  generalize iterV v=o at h ⊢
  cases o with
  | none=>exact h
  | some it=>?_
  obtain ⟨n,h⟩:=h
  exact ⟨n,fC (fun ρ=>dE hC b ρ) n _ _ _ _ _ hq h⟩
 | .forR x e b,ρ=>fun Q Q' H hq h=>by
  replace h:=Ax1 h
  refine G5 hC e ρ _ _ _ (fun v H₁ h=>?_) h
  show (match rangeV v with | some it=>_ | none=>False)
  generalize rangeV v=o at h ⊢
  cases o with
  | none=>exact h
  | some it=>?_
  obtain ⟨n,h⟩:=h
  exact ⟨n,fC (fun ρ=>dE hC b ρ) n _ _ _ _ _ hq h⟩
 | .forEnum x y e b,ρ=>fun Q Q' H hq h=>by
  replace h:=rB h
  refine G5 hC e ρ _ _ _ (fun v zz h=>?_) h
  cases v with
  | ref a0 =>
   obtain ⟨n,h⟩:=h
   exact ⟨n,gY (fun ρ=>dE hC b ρ) n _ _ _ _ _ hq h⟩
  | _=>exact False.elim h
 | .ret e,ρ=>fun Q Q' H hq h=>G5 hC e ρ _ _ _ (fun zz zz h=>hq _ _ _ h) h
 | .retNone,ρ=>fun Q Q' H hq h=>hq _ _ _ h
 | .cont,ρ=>fun Q Q' H hq h=>hq _ _ _ h
 | .pass,ρ=>fun Q Q' H hq h=>hq _ _ _ h
 | .raise _ _,ρ=>fun Q Q' H hq h=>False.elim h
theorem dE {C:Calls}(hC:aP C):∀ (sts:List S) (ρ:D7),mH (C6 C sts ρ)
 | [],ρ=>fun Q Q' H hq h=>hq _ _ _ h
 | st::sts,ρ=>fun Q Q' H hq h=>by
  replace h:=wV h
  refine Cy5 hC st ρ _ _ _ (fun fl ρ' H' h=>?_) h
  cases fl with
  | next=>exact dE hC sts ρ' _ _ _ hq h
  | cont=>exact hq _ _ _ h
  | ret v=>exact hq _ _ _ h
end
theorem U3 (P:Prg):∀ n,aP (callN P n)
 | 0=>fun f vs Q Q' H hq h=>False.elim h
 | n+1=>fun f vs Q Q' H hq h=>by
  replace h:(match P f with | some fn=>_ | none=>_):=h
  show (match P f with | some fn=>_ | none=>_)
  cases e:P f with
  | none=>rw [e] at h;exact h
  | some fn =>
   rw [e] at h
   refine ⟨h.1,dE (U3 P n) _ _ _ _ _ (fun fl ρ' H' h=>?_) h.2⟩
   cases fl<;>exact hq _ _ h
end Mini
namespace Mini
noncomputable def M6 (C:Calls) (ss:List S) (Q:E6):E6:=fun fl ρ' H₁=>match fl with
 | .next=>C6 C ss ρ' Q H₁
 | fl=>Q fl ρ' H₁
noncomputable def E1 (Q:C2):E6:=fun fl zz H₁=>match fl with
 | .ret v=>Q v H₁
 | _=>Q .none H₁
noncomputable def fO (Q:E6) (K:D7->Heap->Prop):E6:=fun fl ρ' H₂=>match fl with
 | .ret v=>Q (.ret v) ρ' H₂
 | _=>K ρ' H₂
section
variable {C:Calls}{ρ:D7}{H:Heap}{Q:C2}{R:E6}{ss:List S}
theorem Ch2 (h:C6 C ss ρ R H):M6 C ss R .next ρ H:=h
theorem D4 {P:Prg}{n:Nat}{f:String}{vs:List V}{fn:Fn}(hf:P f=some fn) (hl:vs.length=fn.params) (h:C6 (callN P n) fn.body (frame fn vs) (E1 Q) H):callN P (n+1) f vs Q H:=by
 show (match P f with | some fn=>_ | none=>_)
 rw [hf]
 exact ⟨hl,h⟩
theorem Cr5 (h:R .next ρ H):C6 C [] ρ R H:=h
theorem H5 {s:S}(h:iC C s ρ (M6 C ss R) H):C6 C (s::ss) ρ R H:=h
theorem P2 {x:Nat}{e:E}(h:E2 C e ρ (fun v H₁=>C6 C ss (ρ.set x (some v)) R H₁) H):C6 C (.assign x e::ss) ρ R H:=h
theorem Cf6 {e:E}(h:E2 C e ρ (fun zz H₁=>C6 C ss ρ R H₁) H):C6 C (.expr e::ss) ρ R H:=h
theorem N9 {e:E}(h:E2 C e ρ (fun v H₁=>R (.ret v) ρ H₁) H):C6 C (.ret e::ss) ρ R H:=h
theorem Cm9 {i:Int}(h:Q (.int i) H):E2 C (.int i) ρ Q H:=h
theorem Au3 {s:List Nat}(h:Q (.str s) H):E2 C (.str s) ρ Q H:=h
theorem Z6 {x:Nat}{v:V}(hx:ρ[x]? = some (some v)) (h:Q v H):E2 C (.var x) ρ Q H:=by
 show (match ρ[x]? with | some (some v)=>Q v H | _=>False)
 rw [hx];exact h
theorem iJ {o:Op}{l r:E}(h:E2 C l ρ (fun a H₁=>E2 C r ρ (fun b H₂=>res (aO o a b H₂) Q) H₁) H):E2 C (.bin o l r) ρ Q H:=h
theorem Cy9 {o:Cmp}{l r:E}(h:E2 C l ρ (fun a H₁=>E2 C r ρ (fun b H₂=>boo (S3 o a b H₂) (fun b H=>Q (.bool b) H) H₂) H₁) H):E2 C (.cmp o l r) ρ Q H:=h
theorem mG {o i:E}(h:E2 C o ρ (fun vo H₁=>E2 C i ρ (fun vi H₂=>val (X1 vo vi H₂) Q H₂) H₁) H):E2 C (.idx o i) ρ Q H:=h
theorem K8 {f:String}{es:List E}(h:S2 C es ρ (fun vs H₁=>C f vs Q H₁) H):E2 C (.call f es) ρ Q H:=h
theorem U0 {es:List E}(h:S2 C es ρ (fun vs H₁=>Q (.ref H₁.length) (H₁++[vs])) H):E2 C (.list es) ρ Q H:=h
theorem W8 {es:List E}(h:S2 C es ρ (fun vs H₁=>Q (.tup vs) H₁) H):E2 C (.tup es) ρ Q H:=h
theorem Al9 {o a:E}(h:E2 C o ρ (fun vo H₁=>∃ s,vo=.str s/\E2 C a ρ (fun va H₂=>fP s va Q H₂) H₁) H) (hC:aP C):E2 C (.join o a) ρ Q H:=by
 refine G5 hC o ρ _ _ _ (fun zz zz h=>?_) h
 obtain ⟨s,rfl,h⟩:=h
 exact h
theorem G8 {Q:List V->Heap->Prop}(h:Q [] H):S2 C [] ρ Q H:=h
theorem J1 {e:E}{es:List E}{Q:List V->Heap->Prop}(h:E2 C e ρ (fun v H₁=>S2 C es ρ (fun vs H₂=>Q (v::vs) H₂) H₁) H):S2 C (e::es) ρ Q H:=h
theorem X5 {k n:Nat}(h:k<n):K6 (k:Int) n=some k:=by
 unfold K6
 rw [if_pos (Int.natCast_nonneg k),if_pos (Int.ofNat_lt.mpr h)];rfl
end
section
variable {H:Heap}{Q:C2}
theorem Be7 {i:Int}{n:Nat}(h0:0<=i) (h:i.toNat<n):K6 i n=some i.toNat:=by
 unfold K6
 rw [if_pos h0,if_pos ((Int.toNat_lt h0).mp h)]
theorem Ce9 {a:Nat}{l:List V}{i:Int}{c:V}(ha:H[a]? = some l) (h0:0<=i) (hk:l[i.toNat]? = some c) (h:Q c H):val (X1 (.ref a) (.int i) H) Q H:=by
 unfold X1 P9
 simp only [ha,Be7 h0 (List.getElem?_eq_some_iff.mp hk).1,Option.bind_some,hk];exact h
theorem fE {i:Int}{n:Nat}(h:0<=i):tM i n=min i.toNat n:=by unfold tM;rw [if_neg (by omega)]
theorem Ab0 {α:Type}{l:List α}{i:Int}(h:0<=i):slice l none (some i)=l.take i.toNat:=by
 unfold slice Ak1 Bc7
 simp only
 rw [fE h,List.drop_zero]
 by_cases q:i.toNat<=l.length
 ·rw [Nat.min_eq_left q]
 ·rw [Nat.min_eq_right (by exact G9 (Nat.lt_of_not_le q)),List.take_of_length_le (A4 _),List.take_of_length_le (by exact G9 (Nat.lt_of_not_le q))]
theorem V6 {α:Type}{l:List α}{i:Int}(h:0<=i):slice l (some i) none=l.drop i.toNat:=by
 unfold slice Ak1 Bc7
 simp only
 rw [fE h,List.take_length]
 by_cases q:i.toNat<=l.length
 ·rw [Nat.min_eq_left q]
 ·rw [Nat.min_eq_right (by exact G9 (Nat.lt_of_not_le q)),List.drop_eq_nil_of_le (A4 _),List.drop_eq_nil_of_le (by exact G9 (Nat.lt_of_not_le q))]
theorem V4 {α:Type}{l:List α}{i j:Int}(h:0<=i) (h':0<=j):slice l (some i) (some j)=(l.drop i.toNat).take (j.toNat - i.toNat):=by
 unfold slice Ak1 Bc7
 simp only
 rw [fE h,fE h',List.drop_take]
 by_cases q:i.toNat<=l.length
 ·rw [Nat.min_eq_left q]
  by_cases q':j.toNat<=l.length
  ·rw [Nat.min_eq_left q']
  ·have q2:=Nat.le_of_not_le q'
   rw [Nat.min_eq_right q2]
   rw [List.take_of_length_le (by rw [List.length_drop];exact A4 _),List.take_of_length_le (by rw [List.length_drop];exact Nat.sub_le_sub_right q2 _)]
 ·have q2:=Nat.le_of_not_le q
  rw [Nat.min_eq_right q2,List.drop_eq_nil_of_le (A4 _),List.drop_eq_nil_of_le q2,List.take_nil,List.take_nil]
mutual
theorem qG:∀ d:D,sS d d=true
 | .none=>rfl
 | .bool b=>beq_self_eq_true b
 | .int i=>beq_self_eq_true i
 | .str s=>beq_self_eq_true s
 | .list l=>fD l
 | .tup l=>fD l
theorem fD:∀ l:List D,sY l l=true
 | []=>rfl
 | d::l=>Bool.and_eq_true_iff.mpr ⟨qG d,fD l⟩
end
end
theorem Bu7 {n:Nat}(hn:n<4611686018427387904):(-4611686018427387904:Int)<=(n:Int)/\(n:Int)<4611686018427387904:=by
 constructor<;>omega
theorem Bu6 {n:Nat}:rangeV (.int (n:Int))=@ite _ (-4611686018427387904<=(n:Int)/\(n:Int)<4611686018427387904) (Classical.propDecidable _) (some (.fix ((List.range (n:Int).toNat).map fun k:Nat=>V.int (k:Int)))) none:=rfl
theorem lP {n:Nat}(hn:n<4611686018427387904):rangeV (.int (n:Int))=some (.fix ((List.range n).map fun k:Nat=>V.int (k:Int))):=by
 rw [Bu6,if_pos (Bu7 hn),Int.toNat_natCast]
theorem Bn5:I3<4611686018427387904:=by unfold I3;decide
theorem Aa9:∀ l:List (List Nat),sX (l.map V.str)=some l
 | []=>rfl
 | x::l=>by
  simp only [List.map_cons]
  show (sX (l.map V.str)).map (x::·)=_
  rw [Aa9 l];rfl
theorem Cm7 {s:List Nat}{a:Nat}{Q:C2}{H:Heap}(l:List (List Nat)) (ha:H[a]? = some (l.map V.str)) (hl:(l.map List.length).sum+l.length * s.length<=I3) (h:Q (.str (D8 s l)) H):fP s (.ref a) Q H:=by
 unfold fP
 have:(H[a]?).bind sX=some l:=by rw [ha];exact Aa9 l
 simp only [this]
 exact ⟨hl,h⟩
theorem Ab3:∀ l:List (List Nat),D8 [] l=l.flatten
 | []=>rfl
 | [w]=>(List.append_nil w).symm
 | w::w2::r=>by
  show w++[]++D8 [] (w2::r)=_
  rw [Ab3 (w2::r),List.append_nil];rfl
section
variable {C:Calls}{ρ:D7}{H:Heap}{Q:C2}{R:E6}{ss:List S}
theorem Bw4 {o e:E}(h:E2 C o ρ (fun vo H₁=>∃ a,vo=.ref a/\E2 C e ρ (fun v H₂=>hea (aC (.ref a) v H₂) Q) H₁) H) (hC:aP C):E2 C (.append o e) ρ Q H:=by
 refine G5 hC o ρ _ _ _ (fun v H₁ h=>?_) h
 obtain ⟨t,rfl,h⟩:=h
 exact h
theorem Cy8 {o:E}(h:E2 C o ρ (fun vo H₁=>∃ a,vo=.ref a/\res (Aj9 (.ref a) H₁) Q) H) (hC:aP C):E2 C (.pop o) ρ Q H:=by
 refine G5 hC o ρ _ _ _ (fun v H₁ h=>?_) h
 obtain ⟨t,rfl,h⟩:=h
 exact h
theorem dM {a:Nat}{l:List V}{v:V}(ha:H[a]? = some l) (hl:l.length<I3) (h:Q .none (H.set a (l++[v]))):hea (aC (.ref a) v H) Q:=by
 unfold aC;simp only [ha,Option.bind_some,if_pos hl];exact h
theorem Cy6 {a k:Nat}{i:Int}{l:List V}{v:V}(ha:H[a]? = some l) (hk:K6 i l.length=some k) (h:Q .none (H.set a (l.set k v))):hea (Cp2 (.ref a) (.int i) v H) Q:=by
 show hea ((H[a]?).bind fun l=>(K6 i l.length).map fun k=>H.set a (l.set k v)) Q
 rw [ha]
 show hea ((K6 i l.length).map fun k=>H.set a (l.set k v)) Q
 rw [hk];exact h
theorem Cm1 {a:Nat}{l:List V}{v:V}(ha:H[a]? = some (l++[v])) (h:Q v (H.set a l)):res (Aj9 (.ref a) H) Q:=by
 unfold Aj9;simp only [ha,Option.bind_some,List.getLast?_append,List.getLast?_singleton,Option.some_or,Option.map_some,List.dropLast_concat];exact h
theorem rC {n:Nat}:K6 (-1) (n+1)=some n:=by
 unfold K6
 have e:(-1:Int)+((n+1:Nat):Int)=(n:Nat):=by rw [Int.add_comm];exact Int.add_sub_cancel (n:Int) 1
 have q:-((n+1:Nat):Int)<=-1:=Int.neg_le_neg (Int.ofNat_le.mpr (B3 (B0 n)))
 rw [if_neg (by decide),e,if_pos q];rfl
theorem Bo0 (hC:aP C) {elt e:E}{x:Nat}(f:V->V)
  (he:E2 C e ρ (fun v H₁=>∃ a l,v=.ref a/\H₁[a]? = some l/\l.length<=I3/\(∀ v∈l,∀ K:C2,K (f v) H₁->E2 C elt (ρ.set x (some v)) K H₁)/\Q (.ref H₁.length) (H₁++[l.map f])) H) :
  E2 C (.comp elt x e []) ρ Q H:=by
 refine G5 hC e ρ _ _ _ (fun v H₁ h=>?_) he
 obtain ⟨a,l,rfl,ha,hl,h1,h2⟩:=h
 exact qH (it:=.lst a) l f (fun i=>by simp only [It.at,ha]) hl h1 h2
end
section
variable {C:Calls}{ρ:D7}{H:Heap}{Q:C2}
end
theorem uJ {C:Calls}{elt:E}{x:Nat}{ρ:D7}{n:Nat}{Q:List V->Heap->Prop}(hn:n<=I3) (I:Nat->List V->Heap->Prop)
  (step:∀ i acc H₁,i<n->acc.length=i->I i acc H₁->∀ K:C2,(∀ v H₂,I (i+1) (acc++[v]) H₂->K v H₂)->E2 C elt (ρ.set x (some (.int (i:Int)))) K H₁)
  (fin:∀ acc H₁,acc.length=n->I n acc H₁->Q acc H₁):∀ (m i:Nat) (acc:List V) (H:Heap),n<m+i->i<=n->acc.length=i->I i acc H ->
  S9 (P6 C []) (E2 C elt) x ρ (.fix ((List.range n).map fun k:Nat=>V.int (k:Int))) m i acc Q H
 | 0,i,_,_,h,hi,_,_=>by exact fkf (I6 h hi)
 | m+1,i,acc,H,h,hi,hl,hI=>by
  show (match (It.fix ((List.range n).map fun k:Nat=>V.int (k:Int))).at H i with | none=>_ | some v=>_)
  have hat:(It.fix ((List.range n).map fun k:Nat=>V.int (k:Int))).at H i=if i<n then some (.int (i:Int)) else none:=by
   show ((List.range n).map fun k:Nat=>V.int (k:Int))[i]? = _
   by_cases hlt:i<n
   ·rw [if_pos hlt,C0,List.getElem?_range hlt];rfl
   ·rw [if_neg hlt,List.getElem?_eq_none (by simp;exact G9 (Nat.le_of_not_lt hlt))]
  rw [hat]
  by_cases hlt:i<n
  ·rw [if_pos hlt]
   refine step i acc H hlt hl hI _ fun v H₂ hI₂=>⟨by exact G9 (I6 (Nat.le_of_eq hl) (I6 hlt hn)),?_⟩
   exact uJ hn I step fin m (i+1) (acc++[v]) H₂ (by exact G9 h) hlt (by simp [hl]) hI₂
  ·rw [if_neg hlt]
   have:i=n:=by exact Nat.le_antisymm (G9 hi) (G9 (Nat.le_of_not_lt hlt))
   subst this
   exact fin acc H hl hI
theorem Bw3 {C:Calls}(hC:aP C) {elt e:E}{x:Nat}{ρ:D7}{H:Heap}{Q:C2}{n:Nat}(hn:n<=I3) (I:Nat->List V->Heap->Prop)
  (step:∀ i acc H₁,i<n->acc.length=i->I i acc H₁->∀ K:C2,(∀ v H₂,I (i+1) (acc++[v]) H₂->K v H₂)->E2 C elt (ρ.set x (some (.int (i:Int)))) K H₁)
  (fin:∀ acc H₁,acc.length=n->I n acc H₁->Q (.ref H₁.length) (H₁++[acc])) (he:E2 C e ρ (fun v H₁=>v=.int (n:Int)/\I 0 [] H₁) H):E2 C (.compR elt x e []) ρ Q H:=by
 have hb:=lP (A9 hn Bn5)
 refine G5 hC e ρ _ _ _ (fun v H₁ h=>?_) he
 have e1:=h.1
 have h2:=h.2
 clear h
 subst e1
 rw [hb]
 exact ⟨n+1,uJ hn I step fin (n+1) 0 [] H₁ (by exact fG) (B0 _) rfl h2⟩
theorem dD {H:Heap}{Q:C2}{a b:Nat}{l r:List V}(ha:H[a]? = some l) (hb:H[b]? = some r) (hl:l.length+r.length<=I3) (h:Q (.ref H.length) (H++[l++r])):res (aO .add (.ref a) (.ref b) H) Q:=by
 show res ((H[a]?).bind fun l=>(H[b]?).bind fun r=>if l.length+r.length<=I3 then some (.ref H.length,H++[l++r]) else none) Q
 rw [ha]
 show res ((H[b]?).bind fun r=>if l.length+r.length<=I3 then some (.ref H.length,H++[l++r]) else none) Q
 rw [hb]
 show res (if l.length+r.length<=I3 then some (.ref H.length,H++[l++r]) else none) Q
 rw [if_pos hl];exact h
end Mini
open Mini
namespace L09
open Mini
noncomputable def vS:List S:=[
  .ite (.cmp .gt (.len (.var 1)) (.int 0)) [
   .ret (.idx (.idx (.var 1) (.neg 1)) (.int 2))] [],
  .ret (.var 0)]
noncomputable def vD:Fn where
 names:=["top", "opened"]
 params:=2
 body:=vS
noncomputable def nQ:List S:=[
  .ite (.and [.cmp .gt (.len (.var 0)) (.int 0),.isinst (.idx (.var 0) (.neg 1)) .str]) [
   .setIdx (.var 0) (.neg 1) (.bin .add (.idx (.var 0) (.neg 1)) (.var 1))] [
   .expr (.append (.var 0) (.var 1))]]
noncomputable def nB:Fn where
 names:=["parts", "sign"]
 params:=2
 body:=nQ
noncomputable def vT:List S:=[
  .assign 2 (.find (.var 0) (.str [96]) (.bin .add (.var 1) (.int 1))),
  .ite (.cmp .lt (.var 2) (.int 0)) [
   .ret (.tup [.tup [.str [99,111,100,101],.slcL (.var 0) (.bin .add (.var 1) (.int 1)),.bool false],.len (.var 0)])] [],
  .ret (.tup [.tup [.str [99,111,100,101],.slc (.var 0) (.bin .add (.var 1) (.int 1)) (.var 2),.bool true],.bin .add (.var 2) (.int 1)])]
noncomputable def vE:Fn where
 names:=["row", "at", "end"]
 params:=2
 body:=vT
noncomputable def vG:List S:=[
  .ite (.cmp .ne (.slc (.var 0) (.bin .add (.var 1) (.int 1)) (.bin .add (.var 1) (.int 2))) (.str [40])) [
   .ret (.tup [.tup [.str [108,105,110,107],.var 2,.none,.bool true],.bin .add (.var 1) (.int 1)])] [],
  .assign 3 (.find (.var 0) (.str [41]) (.bin .add (.var 1) (.int 2))),
  .ite (.cmp .lt (.var 3) (.int 0)) [
   .ret (.tup [.tup [.str [108,105,110,107],.var 2,.slcL (.var 0) (.bin .add (.var 1) (.int 2)),.bool false],.len (.var 0)])] [],
  .ret (.tup [.tup [.str [108,105,110,107],.var 2,.slc (.var 0) (.bin .add (.var 1) (.int 2)) (.var 3),.bool true],.bin .add (.var 3) (.int 1)])]
noncomputable def uW:Fn where
 names:=["row", "at", "parts", "end"]
 params:=3
 body:=vG
noncomputable def Bb4:List S:=[
  .ite (.cmp .ge (.len (.var 2)) (.glob "MOST_OPEN" 12)) [
   .ret (.bool false)] [],
  .ret (.or [.cmp .eq (.idx (.var 0) (.var 1)) (.str [91]),.and [.cmp .isin (.idx (.var 0) (.var 1)) (.str [42,95,126]),.cmp .eq (.slc (.var 0) (.bin .add (.var 1) (.int 1)) (.bin .add (.var 1) (.int 2))) (.str [40])]])]
noncomputable def Ba5:Fn where
 names:=["row", "at", "opened"]
 params:=3
 body:=Bb4
noncomputable def vP:List S:=[
  .ret (.and [.cmp .gt (.len (.var 0)) (.int 0),.cmp .eq (.idx (.idx (.var 0) (.neg 1)) (.int 0)) (.var 1)])]
noncomputable def vA:Fn where
 names:=["opened", "kind"]
 params:=2
 body:=vP
noncomputable def Bb5:List S:=[
  .whl (.cmp .gt (.len (.var 1)) (.int 0)) [
   .assign 2 (.pop (.var 1)),
   .assign 3 (.call "here_of" [.var 0,.var 1]),
   .ite (.cmp .eq (.idx (.var 2) (.int 0)) (.str [115,112,97,110])) [
    .expr (.append (.var 3) (.tup [.str [115,112,97,110],.idx (.var 2) (.int 1),.idx (.var 2) (.int 2),.bool false]))] [
    .expr (.append (.var 3) (.tup [.str [108,105,110,107],.idx (.var 2) (.int 2),.none,.bool false]))]],
  .ret (.var 0)]
noncomputable def Ba6:Fn where
 names:=["top", "opened", "frame", "parts"]
 params:=2
 body:=Bb5
noncomputable def sC:List S:=[
  .assign 1 (.list []),
  .assign 2 (.list []),
  .assign 3 (.int 0),
  .whl (.cmp .lt (.var 3) (.len (.var 0))) [
   .assign 4 (.idx (.var 0) (.var 3)),
   .assign 5 (.call "here_of" [.var 1,.var 2]),
   .ite (.cmp .eq (.var 4) (.str [92])) [
    .expr (.append (.var 5) (.tup [.str [107,101,112,116],.slc (.var 0) (.bin .add (.var 3) (.int 1)) (.bin .add (.var 3) (.int 2))])),
    .assign 3 (.bin .add (.var 3) (.int 2))] [
    .ite (.cmp .eq (.var 4) (.str [96])) [
     .assign 6 (.call "code_at" [.var 0,.var 3]),
     .expr (.append (.var 5) (.idx (.var 6) (.int 0))),
     .assign 3 (.idx (.var 6) (.int 1))] [
     .ite (.call "opens" [.var 0,.var 3,.var 2]) [
      .ite (.cmp .eq (.var 4) (.str [91])) [
       .expr (.append (.var 2) (.list [.str [108,97,98,101,108],.str [],.list []])),
       .assign 3 (.bin .add (.var 3) (.int 1))] [
       .expr (.append (.var 2) (.list [.str [115,112,97,110],.var 4,.list []])),
       .assign 3 (.bin .add (.var 3) (.int 2))]] [
      .ite (.and [.cmp .eq (.var 4) (.str [41]),.call "last_is" [.var 2,.str [115,112,97,110]]]) [
       .assign 7 (.pop (.var 2)),
       .expr (.append (.call "here_of" [.var 1,.var 2]) (.tup [.str [115,112,97,110],.idx (.var 7) (.int 1),.idx (.var 7) (.int 2),.bool true])),
       .assign 3 (.bin .add (.var 3) (.int 1))] [
       .ite (.and [.cmp .eq (.var 4) (.str [93]),.call "last_is" [.var 2,.str [108,97,98,101,108]]]) [
        .assign 6 (.call "link_at" [.var 0,.var 3,.idx (.pop (.var 2)) (.int 2)]),
        .expr (.append (.call "here_of" [.var 1,.var 2]) (.idx (.var 6) (.int 0))),
        .assign 3 (.idx (.var 6) (.int 1))] [
        .expr (.call "put_plain" [.var 5,.var 4]),
        .assign 3 (.bin .add (.var 3) (.int 1))]]]]]],
  .ret (.call "ended" [.var 1,.var 2])]
noncomputable def rU:Fn where
 names:=["row", "top", "opened", "at", "sign", "parts", "made", "frame"]
 params:=1
 body:=sC
noncomputable def vQ:List S:=[
  .assign 1 (.ord (.var 0)),
  .ret (.and [.cmp .le (.int 32) (.var 1),.cmp .le (.var 1) (.int 126),.cmp .ne (.var 1) (.int 37)])]
noncomputable def vB:Fn where
 names:=["sign", "code"]
 params:=1
 body:=vQ
noncomputable def Af4:List S:=[
  .ite (.not (.isinst (.var 0) .str)) [
   .ret (.bool false)] [],
  .forIn 1 (.var 0) [
   .ite (.not (.call "is_sign" [.var 1])) [
    .ret (.bool false)] []],
  .ret (.bool true)]
noncomputable def Ae5:Fn where
 names:=["thing", "sign"]
 params:=1
 body:=Af4
noncomputable def Af0:List S:=[
  .assign 2 (.int 0),
  .whl (.cmp .eq (.slc (.var 0) (.var 2) (.bin .add (.var 2) (.int 1))) (.var 1)) [
   .assign 2 (.bin .add (.var 2) (.int 1))],
  .ret (.var 2)]
noncomputable def Ae1:Fn where
 names:=["row", "sign", "many"]
 params:=2
 body:=Af0
noncomputable def Bb3:List S:=[
  .ite (.cmp .eq (.var 0) (.str [])) [
   .ret (.tup [.str [103,97,112],.int 0,.str []])] [],
  .ite (.and [.cmp .lt (.var 1) (.glob "MOST_QUOTES" 9),.cmp .eq (.slcH (.var 0) (.int 2)) (.str [62,32])]) [
   .ret (.tup [.str [113,117,111,116,101],.int 0,.slcL (.var 0) (.int 2)])] [],
  .assign 2 (.call "run_of" [.var 0,.str [35]]),
  .ite (.and [.cmp .le (.int 1) (.var 2),.cmp .le (.var 2) (.glob "MOST_SHARPS" 6),.cmp .eq (.slc (.var 0) (.var 2) (.bin .add (.var 2) (.int 1))) (.str [32])]) [
   .ret (.tup [.str [104,101,97,100,105,110,103],.var 2,.slcL (.var 0) (.bin .add (.var 2) (.int 1))])] [],
  .assign 3 (.call "run_of" [.var 0,.str [45]]),
  .ite (.and [.cmp .le (.int 1) (.var 3),.cmp .le (.var 3) (.glob "MOST_DASHES" 9),.cmp .eq (.slc (.var 0) (.var 3) (.bin .add (.var 3) (.int 1))) (.str [32])]) [
   .ret (.tup [.str [105,116,101,109],.var 3,.slcL (.var 0) (.bin .add (.var 3) (.int 1))])] [],
  .ret (.tup [.str [112,108,97,105,110],.int 0,.var 0])]
noncomputable def Ba4:Fn where
 names:=["row", "deep", "sharps", "dashes"]
 params:=2
 body:=Bb3
noncomputable def nR:List S:=[
  .ite (.cmp .ne (.var 2) (.str [])) [
   .expr (.append (.var 0) (.tup [.var 1,.var 2]))] []]
noncomputable def nC:Fn where
 names:=["made", "kind", "text"]
 params:=3
 body:=nR
noncomputable def gF:List S:=[
  .expr (.call "put_piece" [.var 1,.str [109,97,114,107],.str [91]]),
  .expr (.call "put_pieces" [.idx (.var 0) (.int 1),.var 1]),
  .ite (.is (.idx (.var 0) (.int 2)) .none) [
   .ite (.idx (.var 0) (.int 3)) [
    .expr (.call "put_piece" [.var 1,.str [109,97,114,107],.str [93]])] [],
   .retNone] [],
  .expr (.call "put_piece" [.var 1,.str [109,97,114,107],.str [93,40]]),
  .expr (.call "put_piece" [.var 1,.str [116,97,114,103,101,116],.idx (.var 0) (.int 2)]),
  .ite (.idx (.var 0) (.int 3)) [
   .expr (.call "put_piece" [.var 1,.str [109,97,114,107],.str [41]])] []]
noncomputable def gC:Fn where
 names:=["part", "made"]
 params:=2
 body:=gF
noncomputable def jZ:List S:=[
  .forIn 2 (.var 0) [
   .ite (.isinst (.var 2) .str) [
    .expr (.call "put_piece" [.var 1,.str [119,111,114,100,115],.var 2])] [
    .ite (.cmp .eq (.idx (.var 2) (.int 0)) (.str [107,101,112,116])) [
     .expr (.call "put_piece" [.var 1,.str [109,97,114,107],.str [92]]),
     .expr (.call "put_piece" [.var 1,.str [107,101,112,116],.idx (.var 2) (.int 1)])] [
     .ite (.cmp .eq (.idx (.var 2) (.int 0)) (.str [99,111,100,101])) [
      .expr (.call "put_piece" [.var 1,.str [109,97,114,107],.str [96]]),
      .expr (.call "put_piece" [.var 1,.str [99,111,100,101],.idx (.var 2) (.int 1)]),
      .ite (.idx (.var 2) (.int 2)) [
       .expr (.call "put_piece" [.var 1,.str [109,97,114,107],.str [96]])] []] [
      .ite (.cmp .eq (.idx (.var 2) (.int 0)) (.str [115,112,97,110])) [
       .expr (.call "put_piece" [.var 1,.str [109,97,114,107],.bin .add (.idx (.var 2) (.int 1)) (.str [40])]),
       .expr (.call "put_pieces" [.idx (.var 2) (.int 2),.var 1]),
       .ite (.idx (.var 2) (.int 3)) [
        .expr (.call "put_piece" [.var 1,.str [109,97,114,107],.str [41]])] []] [
       .expr (.call "link_pieces" [.var 2,.var 1])]]]]]]
noncomputable def jV:Fn where
 names:=["parts", "made", "part"]
 params:=2
 body:=jZ
noncomputable def nT:List S:=[
  .assign 1 (.list []),
  .expr (.call "put_pieces" [.var 0,.var 1]),
  .ret (.var 1)]
noncomputable def nE:Fn where
 names:=["parts", "made"]
 params:=1
 body:=nT
noncomputable def Af1:List S:=[
  .ret (.join (.str []) (.comp (.idx (.var 1) (.int 1)) 1 (.call "pieces_of" [.var 0]) []))]
noncomputable def Ae2:Fn where
 names:=["parts", "piece"]
 params:=1
 body:=Af1
noncomputable def oA:List S:=[
  .ite (.or [.not (.isinst (.var 0) .int),.isinst (.var 0) .bool,.cmp .lt (.var 0) (.int 1)]) [
   .ret (.bool false)] [],
  .ret (.or [.is (.var 1) .none,.cmp .le (.var 0) (.var 1)])]
noncomputable def nN:Fn where
 names:=["thing", "most"]
 params:=2
 body:=oA
noncomputable def sI:List S:=[
  .ite (.or [.not (.isinst (.var 0) .tuple),.cmp .ne (.len (.var 0)) (.var 2)]) [
   .ret (.bool false)] [],
  .ret (.and [.isinst (.idx (.var 0) (.int 0)) .str,.cmp .eq (.idx (.var 0) (.int 0)) (.var 1)])]
noncomputable def rZ:Fn where
 names:=["thing", "kind", "size"]
 params:=3
 body:=sI
noncomputable def vR:List S:=[
  .ite (.isinst (.var 0) .str) [
   .ret (.and [.cmp .ne (.var 0) (.str []),.call "is_row" [.var 0]])] [],
  .ite (.call "is_tuple" [.var 0,.str [107,101,112,116],.int 2]) [
   .ret (.and [.call "is_row" [.idx (.var 0) (.int 1)],.cmp .le (.len (.idx (.var 0) (.int 1))) (.int 1)])] [],
  .ite (.call "is_tuple" [.var 0,.str [99,111,100,101],.int 3]) [
   .ret (.and [.call "is_row" [.idx (.var 0) (.int 1)],.isinst (.idx (.var 0) (.int 2)) .bool])] [],
  .ite (.cmp .ge (.var 1) (.glob "MOST_OPEN" 12)) [
   .ret (.bool false)] [],
  .ite (.call "is_tuple" [.var 0,.str [115,112,97,110],.int 4]) [
   .ite (.or [.not (.call "is_row" [.idx (.var 0) (.int 1)]),.cmp .notin (.idx (.var 0) (.int 1)) (.tup [.str [42],.str [95],.str [126]])]) [
    .ret (.bool false)] [],
   .ret (.and [.isinst (.idx (.var 0) (.int 3)) .bool,.call "are_parts" [.idx (.var 0) (.int 2),.bin .add (.var 1) (.int 1)]])] [],
  .ite (.call "is_tuple" [.var 0,.str [108,105,110,107],.int 4]) [
   .ite (.and [.isnot (.idx (.var 0) (.int 2)) .none,.not (.call "is_row" [.idx (.var 0) (.int 2)])]) [
    .ret (.bool false)] [],
   .ret (.and [.isinst (.idx (.var 0) (.int 3)) .bool,.call "are_parts" [.idx (.var 0) (.int 1),.bin .add (.var 1) (.int 1)]])] [],
  .ret (.bool false)]
noncomputable def vC:Fn where
 names:=["part", "within"]
 params:=2
 body:=vR
noncomputable def oB:List S:=[
  .ite (.not (.isinst (.var 0) .list)) [
   .ret (.bool false)] [],
  .forIn 2 (.var 0) [
   .ite (.not (.call "is_part" [.var 2,.var 1])) [
    .ret (.bool false)] []],
  .ret (.bool true)]
noncomputable def nO:Fn where
 names:=["parts", "within", "part"]
 params:=2
 body:=oB
noncomputable def kB:List S:=[
  .ret (.and [.call "are_parts" [.var 0,.int 0],.cmp .eq (.call "parts_of" [.call "row_of" [.var 0]]) (.var 0)])]
noncomputable def jX:Fn where
 names:=["parts"]
 params:=1
 body:=kB
noncomputable def oC:List S:=[
  .ite (.not (.isinst (.var 0) .list)) [
   .ret (.bool false)] [],
  .assign 2 (.glob "MOST_DASHES" 9),
  .forIn 3 (.var 0) [
   .ite (.or [.not (.isinst (.var 3) .tuple),.cmp .ne (.len (.var 3)) (.int 3)]) [
    .ret (.bool false)] [],
   .ite (.or [.not (.call "is_number" [.idx (.var 3) (.int 0),.var 2]),.cmp .le (.idx (.var 3) (.int 0)) (.var 1)]) [
    .ret (.bool false)] [],
   .ite (.or [.not (.call "is_content" [.idx (.var 3) (.int 1)]),.not (.call "are_items" [.idx (.var 3) (.int 2),.idx (.var 3) (.int 0)])]) [
    .ret (.bool false)] [],
   .assign 2 (.idx (.var 3) (.int 0))],
  .ret (.bool true)]
noncomputable def nP:Fn where
 names:=["items", "above", "most", "item"]
 params:=2
 body:=oC
noncomputable def sK:List S:=[
  .ite (.or [.not (.isinst (.var 0) .list),.cmp .eq (.var 0) (.list [])]) [
   .ret (.bool false)] [],
  .forIn 2 (.var 0) [
   .ite (.or [.not (.call "is_content" [.var 2]),.cmp .ne (.idx (.call "shape" [.call "row_of" [.var 2],.var 1]) (.int 0)) (.str [112,108,97,105,110])]) [
    .ret (.bool false)] []],
  .ret (.bool true)]
noncomputable def sB:Fn where
 names:=["rows", "deep", "parts"]
 params:=2
 body:=sK
noncomputable def sJ:List S:=[
  .ite (.call "is_tuple" [.var 0,.str [103,97,112],.int 2]) [
   .ret (.call "is_number" [.idx (.var 0) (.int 1),.none])] [],
  .ite (.call "is_tuple" [.var 0,.str [104,101,97,100,105,110,103],.int 3]) [
   .ret (.and [.call "is_number" [.idx (.var 0) (.int 1),.glob "MOST_SHARPS" 6],.call "is_content" [.idx (.var 0) (.int 2)]])] [],
  .ite (.call "is_tuple" [.var 0,.str [108,105,115,116],.int 2]) [
   .ret (.and [.call "are_items" [.idx (.var 0) (.int 1),.int 0],.cmp .ne (.idx (.var 0) (.int 1)) (.list [])])] [],
  .ite (.call "is_tuple" [.var 0,.str [112,97,114,97],.int 2]) [
   .ret (.call "are_rows" [.idx (.var 0) (.int 1),.var 1])] [],
  .ite (.call "is_tuple" [.var 0,.str [113,117,111,116,101],.int 2]) [
   .ret (.and [.cmp .lt (.var 1) (.glob "MOST_QUOTES" 9),.call "are_blocks" [.idx (.var 0) (.int 1),.bin .add (.var 1) (.int 1)]])] [],
  .ret (.bool false)]
noncomputable def sA:Fn where
 names:=["block", "deep"]
 params:=2
 body:=sJ
noncomputable def kC:List S:=[
  .ite (.or [.not (.isinst (.var 0) .list),.cmp .eq (.var 0) (.list [])]) [
   .ret (.bool false)] [],
  .assign 2 (.str []),
  .forIn 3 (.var 0) [
   .ite (.not (.call "is_block" [.var 3,.var 1])) [
    .ret (.bool false)] [],
   .ite (.and [.cmp .eq (.idx (.var 3) (.int 0)) (.var 2),.cmp .ne (.var 2) (.str [104,101,97,100,105,110,103])]) [
    .ret (.bool false)] [],
   .assign 2 (.idx (.var 3) (.int 0))],
  .ret (.bool true)]
noncomputable def jY:Fn where
 names:=["blocks", "deep", "last", "block"]
 params:=2
 body:=kC
noncomputable def Af3:List S:=[
  .ret (.call "are_blocks" [.var 0,.int 0])]
noncomputable def Ae4:Fn where
 names:=["tree"]
 params:=1
 body:=Af3
noncomputable def gE:List S:=[
  .ite (.not (.call "normal" [.var 0])) [
   .raise "BadTree" [110,111,32,110,111,114,109,97,108,32,116,114,101,101]] []]
noncomputable def gB:Fn where
 names:=["tree"]
 params:=1
 body:=gE
noncomputable def nS:List S:=[
  .forIn 2 (.var 0) [
   .expr (.append (.var 1) (.bin .add (.list [.tup [.str [109,97,114,107],.bin .add (.bin .mul (.str [45]) (.idx (.var 2) (.int 0))) (.str [32])]]) (.call "pieces_of" [.idx (.var 2) (.int 1)]))),
   .expr (.call "put_items" [.idx (.var 2) (.int 2),.var 1])]]
noncomputable def nD:Fn where
 names:=["items", "rows", "item"]
 params:=2
 body:=nS
noncomputable def vF:List S:=[
  .assign 1 (.list []),
  .forIn 2 (.var 0) [
   .ite (.cmp .eq (.idx (.var 2) (.int 0)) (.str [103,97,112])) [
    .forR 3 (.idx (.var 2) (.int 1)) [
     .expr (.append (.var 1) (.list []))]] [
    .ite (.cmp .eq (.idx (.var 2) (.int 0)) (.str [104,101,97,100,105,110,103])) [
     .expr (.append (.var 1) (.bin .add (.list [.tup [.str [109,97,114,107],.bin .add (.bin .mul (.str [35]) (.idx (.var 2) (.int 1))) (.str [32])]]) (.call "pieces_of" [.idx (.var 2) (.int 2)])))] [
     .ite (.cmp .eq (.idx (.var 2) (.int 0)) (.str [108,105,115,116])) [
      .expr (.call "put_items" [.idx (.var 2) (.int 1),.var 1])] [
      .ite (.cmp .eq (.idx (.var 2) (.int 0)) (.str [112,97,114,97])) [
       .forIn 4 (.idx (.var 2) (.int 1)) [
        .expr (.append (.var 1) (.call "pieces_of" [.var 4]))]] [
       .forIn 5 (.call "rows_of" [.idx (.var 2) (.int 1)]) [
        .expr (.append (.var 1) (.bin .add (.list [.tup [.str [109,97,114,107],.str [62,32]]]) (.var 5)))]]]]]],
  .ret (.var 1)]
noncomputable def uV:Fn where
 names:=["blocks", "rows", "block", "k", "parts", "row"]
 params:=1
 body:=vF
noncomputable def Af2:List S:=[
  .expr (.call "need_normal" [.var 0]),
  .assign 1 (.list []),
  .forEnum 2 3 (.call "rows_of" [.var 0]) [
   .ite (.cmp .gt (.var 2) (.int 0)) [
    .expr (.append (.var 1) (.tup [.str [101,110,100],.str [10]]))] [],
   .expr (.extend (.var 1) (.var 3))],
  .ret (.var 1)]
noncomputable def Ae3:Fn where
 names:=["tree", "made", "at", "row"]
 params:=1
 body:=Af2
noncomputable def Bb2:List S:=[
  .ret (.join (.str []) (.comp (.idx (.var 1) (.int 1)) 1 (.call "pieces" [.var 0]) []))]
noncomputable def Ba3:Fn where
 names:=["tree", "piece"]
 params:=1
 body:=Bb2
noncomputable def gJ:List S:=[
  .ite (.cmp .lt (.var 1) (.len (.var 0))) [
   .ret (.idx (.var 0) (.var 1))] [],
  .ret (.int 0)]
noncomputable def gD:Fn where
 names:=["_law_script", "_law_k"]
 params:=2
 body:=gJ
noncomputable def eF:List S:=[
  .ite (.is (.var 1) .none) [
   .ret (.is (.var 0) .none)] [],
  .ite (.is (.var 1) .tt) [
   .ret (.is (.var 0) .tt)] [],
  .ite (.is (.var 1) .ff) [
   .ret (.is (.var 0) .ff)] [],
  .ite (.isinst (.var 1) .str) [
   .ret (.and [.isinst (.var 0) .str,.cmp .eq (.var 0) (.var 1)])] [],
  .ite (.isinst (.var 1) .int) [
   .ret (.and [.isinst (.var 0) .int,.not (.isinst (.var 0) .bool),.cmp .eq (.var 0) (.var 1)])] [],
  .ite (.or [.and [.isinst (.var 1) .list,.not (.isinst (.var 0) .list)],.and [.isinst (.var 1) .tuple,.not (.isinst (.var 0) .tuple)]]) [
   .ret (.bool false)] [],
  .ite (.cmp .ne (.len (.var 0)) (.len (.var 1))) [
   .ret (.bool false)] [],
  .forR 2 (.len (.var 1)) [
   .ite (.not (.call "_law_alike" [.idx (.var 0) (.var 2),.idx (.var 1) (.var 2)])) [
    .ret (.bool false)] []],
  .ret (.bool true)]
noncomputable def nM:Fn where
 names:=["_law_found", "_law_due", "_law_k"]
 params:=2
 body:=eF
noncomputable def vH:List S:=[
  .assign 1 (.str []),
  .forIn 2 (.var 0) [
   .ite (.isinst (.var 2) .str) [
    .assign 1 (.bin .add (.var 1) (.var 2))] [
    .ite (.cmp .eq (.idx (.var 2) (.int 0)) (.str [107,101,112,116])) [
     .assign 1 (.bin .add (.bin .add (.var 1) (.str [92])) (.idx (.var 2) (.int 1)))] [
     .ite (.cmp .eq (.idx (.var 2) (.int 0)) (.str [99,111,100,101])) [
      .assign 1 (.bin .add (.bin .add (.bin .add (.var 1) (.str [96])) (.idx (.var 2) (.int 1))) (.bin .mul (.str [96]) (.toInt (.idx (.var 2) (.int 2)))))] [
      .ite (.cmp .eq (.idx (.var 2) (.int 0)) (.str [115,112,97,110])) [
       .assign 1 (.bin .add (.bin .add (.bin .add (.var 1) (.idx (.var 2) (.int 1))) (.str [40])) (.call "_law_row" [.idx (.var 2) (.int 2)])),
       .assign 1 (.bin .add (.var 1) (.bin .mul (.str [41]) (.toInt (.idx (.var 2) (.int 3)))))] [
       .ite (.is (.idx (.var 2) (.int 2)) .none) [
        .assign 1 (.bin .add (.bin .add (.bin .add (.var 1) (.str [91])) (.call "_law_row" [.idx (.var 2) (.int 1)])) (.bin .mul (.str [93]) (.toInt (.idx (.var 2) (.int 3)))))] [
        .assign 1 (.bin .add (.bin .add (.bin .add (.var 1) (.str [91])) (.call "_law_row" [.idx (.var 2) (.int 1)])) (.str [93,40])),
        .assign 1 (.bin .add (.bin .add (.var 1) (.idx (.var 2) (.int 2))) (.bin .mul (.str [41]) (.toInt (.idx (.var 2) (.int 3)))))]]]]]],
  .ret (.var 1)]
noncomputable def uX:Fn where
 names:=["_law_parts_here", "_law_row_here", "_law_part"]
 params:=1
 body:=vH
noncomputable def nU:List S:=[
  .assign 1 (.list []),
  .forIn 2 (.var 0) [
   .expr (.append (.var 1) (.bin .add (.bin .add (.bin .mul (.str [45]) (.idx (.var 2) (.int 0))) (.str [32])) (.call "_law_row" [.idx (.var 2) (.int 1)]))),
   .expr (.extend (.var 1) (.call "_law_under" [.idx (.var 2) (.int 2)]))],
  .ret (.var 1)]
noncomputable def nF:Fn where
 names:=["_law_items_here", "_law_rows_here", "_law_item"]
 params:=1
 body:=nU
noncomputable def sD:List S:=[
  .assign 1 (.list []),
  .forIn 2 (.var 0) [
   .ite (.cmp .eq (.idx (.var 2) (.int 0)) (.str [103,97,112])) [
    .expr (.extend (.var 1) (.bin .mul (.list [.str []]) (.idx (.var 2) (.int 1))))] [
    .ite (.cmp .eq (.idx (.var 2) (.int 0)) (.str [104,101,97,100,105,110,103])) [
     .expr (.append (.var 1) (.bin .add (.bin .add (.bin .mul (.str [35]) (.idx (.var 2) (.int 1))) (.str [32])) (.call "_law_row" [.idx (.var 2) (.int 2)])))] [
     .ite (.cmp .eq (.idx (.var 2) (.int 0)) (.str [108,105,115,116])) [
      .expr (.extend (.var 1) (.call "_law_under" [.idx (.var 2) (.int 1)]))] [
      .ite (.cmp .eq (.idx (.var 2) (.int 0)) (.str [113,117,111,116,101])) [
       .expr (.extend (.var 1) (.comp (.bin .add (.str [62,32]) (.var 3)) 3 (.call "_law_rows" [.idx (.var 2) (.int 1)]) []))] [
       .expr (.extend (.var 1) (.comp (.call "_law_row" [.var 4]) 4 (.idx (.var 2) (.int 1)) []))]]]]],
  .ret (.var 1)]
noncomputable def rV:Fn where
 names:=["_law_blocks_here", "_law_rows_here", "_law_block_here", "_law_row_here", "_law_parts_here"]
 params:=1
 body:=sD
noncomputable def vL:List S:=[
  .ret (.bin .mod (.bin .mul (.bin .add (.bin .add (.var 0) (.bin .mul (.int 7919) (.var 1))) (.int 1)) (.int 48271)) (.int 2147483647))]
noncomputable def uY:Fn where
 names:=["_law_number", "_law_k"]
 params:=2
 body:=vL
noncomputable def U6:List S:=[
  .assign 3 (.list [.str [97],.str [98,42],.str [40,99],.str [100,32,40],.str [101],.str [102,32,45],.str [62,32,103],.str [104,35],.str [105,95],.str [126,106],.str [107],.str [108,33],.str [35,109],.str [45,32,110],.str [112,36,113],.str [35,32,114]]),
  .assign 4 (.idx (.var 3) (.bin .mod (.var 0) (.int 16))),
  .ite (.and [.cmp .eq (.var 2) (.str []),.cmp .eq (.bin .mod (.bin .fdiv (.var 0) (.int 16)) (.int 4)) (.int 1)]) [
   .assign 4 (.bin .add (.var 4) (.str [41,93]))] [],
  .ite (.and [.cmp .eq (.var 1) (.int 7),.cmp .eq (.bin .mod (.bin .fdiv (.var 0) (.int 64)) (.int 4)) (.int 1),.cmp .eq (.var 2) (.str [40])]) [
   .ret (.idx (.list [.str [41],.str [121,41],.str [40,122,41],.str [41,119]]) (.bin .mod (.bin .fdiv (.var 0) (.int 256)) (.int 4)))] [],
  .ite (.and [.cmp .eq (.var 1) (.int 7),.cmp .eq (.bin .mod (.bin .fdiv (.var 0) (.int 64)) (.int 4)) (.int 1),.cmp .eq (.var 2) (.str [91])]) [
   .ret (.idx (.list [.str [93],.str [121,93],.str [91],.str [93,119]]) (.bin .mod (.bin .fdiv (.var 0) (.int 256)) (.int 4)))] [],
  .ite (.and [.cmp .eq (.var 1) (.int 7),.cmp .eq (.bin .mod (.bin .fdiv (.var 0) (.int 64)) (.int 4)) (.int 2)]) [
   .assign 3 (.list [.str [42,40,115],.str [116,91],.str [117,96],.str [118,92],.str [95,40],.str [126,40,120],.str [91],.str [96],.str [41],.str [93],.str [121,41],.str [122,93],.str [97,40,98],.str [42],.str [40,40],.str [92]]),
   .assign 4 (.idx (.var 3) (.bin .mod (.bin .fdiv (.var 0) (.int 256)) (.int 16)))] [],
  .ret (.var 4)]
noncomputable def aD:Fn where
 names:=["_law_number", "_law_odd", "_law_mark_here", "_law_some", "_law_words"]
 params:=3
 body:=U6
noncomputable def cN:List S:=[
  .ite (.or [.cmp .ne (.var 2) (.int 2),.cmp .gt (.bin .mod (.var 1) (.int 3)) (.int 0)]) [
   .ret (.var 0)] [],
  .assign 3 (.list [.tup [.str [107,101,112,116],.str []],.tup [.str [99,111,100,101],.str [119],.bool false],.tup [.str [115,112,97,110],.str [42],.list [],.bool false],.tup [.str [108,105,110,107],.list [.str [119]],.none,.bool false]]),
  .ret (.bin .add (.var 0) (.list [.idx (.bin .add (.var 3) (.list [.tup [.str [108,105,110,107],.list [],.str [119],.bool false]])) (.bin .mod (.bin .fdiv (.var 1) (.int 3)) (.int 5))]))]
noncomputable def cL:Fn where
 names:=["_law_parts_here", "_law_number", "_law_odd", "_law_some"]
 params:=3
 body:=cN
noncomputable def V7:List S:=[
  .assign 5 (.idx (.list [.none,.none,.str [116],.str [117,40],.str [],.str [118,42]]) (.bin .mod (.var 0) (.int 6))),
  .ite (.and [.cmp .eq (.var 2) (.int 13),.cmp .eq (.bin .mod (.bin .fdiv (.var 0) (.int 6)) (.int 2)) (.int 1),.isnot (.var 5) .none]) [
   .assign 5 (.bin .add (.var 5) (.str [41,119]))] [],
  .assign 6 (.call "_law_loose_parts" [.bin .fdiv (.var 0) (.int 12),.bin .add (.var 1) (.int 1),.var 2,.str [91],.and [.var 3,.var 4,.is (.var 5) .none]]),
  .ret (.tup [.str [108,105,110,107],.call "_law_loose_end" [.var 6,.bin .fdiv (.var 0) (.int 6),.var 2],.var 5,.not (.var 4)])]
noncomputable def bJ:Fn where
 names:=["_law_number", "_law_deep", "_law_odd", "_law_last", "_law_free", "_law_target", "_law_inner"]
 params:=5
 body:=V7
noncomputable def bL:List S:=[
  .assign 5 (.bin .mod (.var 0) (.int 9)),
  .assign 6 (.bin .fdiv (.var 0) (.int 27)),
  .assign 7 (.and [.cmp .eq (.bin .mod (.bin .fdiv (.var 0) (.int 9)) (.int 3)) (.int 0),.or [.var 4,.and [.cmp .eq (.var 2) (.int 2),.cmp .eq (.bin .mod (.var 6) (.int 5)) (.int 0)]]]),
  .ite (.and [.cmp .eq (.var 5) (.int 3),.cmp .eq (.bin .mod (.bin .fdiv (.var 0) (.int 9)) (.int 3)) (.int 0),.or [.var 4,.cmp .eq (.var 2) (.int 3)]]) [
   .ret (.tup [.str [107,101,112,116],.str []])] [],
  .ite (.cmp .eq (.var 5) (.int 3)) [
   .ret (.tup [.str [107,101,112,116],.idx (.str [97,42,40,92,96,93,41]) (.bin .mod (.var 6) (.int 7))])] [],
  .ite (.cmp .eq (.var 5) (.int 4)) [
   .ret (.tup [.str [99,111,100,101],.bin .add (.idx (.list [.str [],.str [97,42,40],.str [98,41],.str [91,100],.str [99]]) (.bin .mod (.var 6) (.int 5))) (.bin .mul (.str [96]) (.toInt (.and [.cmp .eq (.var 2) (.int 13),.cmp .eq (.bin .mod (.var 6) (.int 2)) (.int 1)]))),.not (.var 7)])] [],
  .ite (.or [.cmp .lt (.var 5) (.int 3),.cmp .gt (.var 1) (.int 4)]) [
   .ret (.call "_law_loose_plain" [.var 6,.var 2,.var 3])] [],
  .ite (.cmp .lt (.var 5) (.int 7)) [
   .assign 8 (.call "_law_loose_parts" [.bin .fdiv (.var 6) (.int 3),.bin .add (.var 1) (.int 1),.var 2,.str [40],.and [.var 4,.var 7]]),
   .ret (.tup [.str [115,112,97,110],.idx (.str [42,95,126]) (.bin .mod (.var 6) (.int 3)),.call "_law_loose_end" [.var 8,.var 6,.var 2],.not (.var 7)])] [],
  .ret (.call "_law_loose_link" [.var 6,.var 1,.var 2,.var 4,.var 7])]
noncomputable def bI:Fn where
 names:=["_law_number", "_law_deep", "_law_odd", "_law_mark_here", "_law_last", "_law_kind", "_law_more", "_law_free", "_law_inner"]
 params:=5
 body:=bL
noncomputable def bM:List S:=[
  .assign 2 (.bin .add (.bin .add (.int 11) (.bin .mod (.var 0) (.int 2))) (.toInt (.cmp .eq (.var 1) (.int 11)))),
  .assign 3 (.list [.idx (.list [.str [112],.str [113,42,40,114,91],.str [115]]) (.bin .mul (.bin .mod (.bin .fdiv (.var 0) (.int 2)) (.int 3)) (.toInt (.or [.cmp .eq (.var 2) (.int 12),.cmp .eq (.var 1) (.int 11)])))]),
  .forR 4 (.var 2) [
   .ite (.cmp .eq (.bin .mod (.bin .add (.bin .fdiv (.var 0) (.int 6)) (.var 4)) (.int 2)) (.int 0)) [
    .assign 3 (.list [.tup [.str [115,112,97,110],.str [95],.var 3,.bool true]])] [
    .assign 3 (.list [.tup [.str [108,105,110,107],.var 3,.none,.bool true]])]],
  .ret (.var 3)]
noncomputable def bK:Fn where
 names:=["_law_number", "_law_odd", "_law_many", "_law_parts_here", "_law_k"]
 params:=2
 body:=bM
noncomputable def U7:List S:=[
  .ite (.and [.cmp .eq (.var 1) (.int 0),.cmp .eq (.bin .mod (.bin .fdiv (.var 0) (.int 4)) (.int 9)) (.int 4)]) [
   .ret (.call "_law_deep_parts" [.bin .fdiv (.var 0) (.int 36),.var 2])] [],
  .assign 5 (.list []),
  .assign 6 (.bin .mod (.var 0) (.int 4)),
  .forR 7 (.var 6) [
   .assign 8 (.call "_law_loose_part" [.call "_law_mix" [.var 0,.var 7],.var 1,.var 2,.var 3,.and [.var 4,.cmp .eq (.var 7) (.bin .sub (.var 6) (.int 1))]]),
   .assign 9 (.isinst (.var 8) .str),
   .ite (.and [.var 9,.cmp .ne (.var 5) (.list []),.isinst (.idx (.var 5) (.neg 1)) .str,.cmp .ne (.var 2) (.int 9)]) [
    .assign 8 (.tup [.str [107,101,112,116],.str [110]])] [
    .ite (.and [.var 9,.cmp .ne (.var 2) (.int 8),.cmp .ne (.var 5) (.list []),.cmp .eq (.idx (.idx (.var 5) (.neg 1)) (.int 0)) (.str [108,105,110,107]),.is (.idx (.idx (.var 5) (.neg 1)) (.int 2)) .none]) [
     .assign 8 (.bin .add (.str [120]) (.var 8))] []],
   .expr (.append (.var 5) (.var 8))],
  .ret (.var 5)]
noncomputable def aE:Fn where
 names:=["_law_number", "_law_deep", "_law_odd", "_law_mark_here", "_law_last", "_law_parts_here", "_law_many", "_law_k", "_law_part", "_law_text"]
 params:=5
 body:=U7
noncomputable def cM:List S:=[
  .assign 3 (.call "_law_loose_parts" [.var 0,.int 0,.var 2,.str [],.bool true]),
  .ite (.or [.and [.cmp .eq (.var 2) (.int 6),.cmp .gt (.bin .mod (.bin .fdiv (.var 0) (.int 4)) (.int 3)) (.int 0)],.cmp .eq (.idx (.call "_law_cut" [.call "_law_row" [.var 3],.var 1]) (.int 0)) (.str [112,97,114,97])]) [
   .ret (.var 3)] [],
  .ite (.and [.cmp .ne (.var 3) (.list []),.isinst (.idx (.var 3) (.int 0)) .str]) [
   .ret (.bin .add (.list [.bin .add (.str [122]) (.idx (.var 3) (.int 0))]) (.slcL (.var 3) (.int 1)))] [],
  .ret (.bin .add (.list [.str [122]]) (.var 3))]
noncomputable def cK:Fn where
 names:=["_law_number", "_law_deep", "_law_odd", "_law_parts_here"]
 params:=3
 body:=cM
noncomputable def M9:List S:=[
  .assign 4 (.compR (.bin .add (.var 1) (.bin .mod (.call "_law_mix" [.var 0,.var 5]) (.int 3))) 5 (.bin .add (.bin .mod (.var 0) (.int 3)) (.toInt (.and [.cmp .eq (.var 2) (.int 0),.cmp .ne (.var 3) (.int 10)]))) []),
  .ite (.cmp .ne (.var 3) (.int 4)) [
   .assign 4 (.sortedDown (.var 4))] [],
  .ite (.cmp .ne (.var 3) (.int 10)) [
   .assign 4 (.comp (.var 6) 6 (.var 4) [.cmp .lt (.var 6) (.int 10)])] [],
  .assign 7 (.list []),
  .forR 5 (.len (.var 4)) [
   .assign 8 (.list []),
   .ite (.cmp .lt (.var 2) (.int 3)) [
    .assign 9 (.bin .sub (.bin .add (.idx (.var 4) (.var 5)) (.int 1)) (.toInt (.and [.cmp .eq (.var 3) (.int 5),.cmp .eq (.bin .mod (.bin .fdiv (.var 0) (.int 3)) (.int 3)) (.int 0)]))),
    .assign 8 (.call "_law_loose_items" [.bin .fdiv (.call "_law_mix" [.var 0,.bin .add (.int 10) (.var 5)]) (.int 7),.var 9,.bin .add (.var 2) (.int 1),.var 3])] [],
   .expr (.append (.var 7) (.tup [.idx (.var 4) (.var 5),.call "_law_loose_parts" [.bin .fdiv (.call "_law_mix" [.var 0,.bin .add (.int 20) (.var 5)]) (.int 11),.int 0,.var 3,.str [],.bool true],.var 8]))],
  .ret (.var 7)]
noncomputable def aF:Fn where
 names:=["_law_number", "_law_least", "_law_deep", "_law_odd", "_law_dashes", "_law_k", "_law_many", "_law_items_here", "_law_under_here", "_law_more"]
 params:=4
 body:=M9
noncomputable def aH:List S:=[
  .assign 3 (.bin .mod (.var 0) (.int 6)),
  .assign 4 (.bin .fdiv (.var 0) (.int 6)),
  .ite (.or [.cmp .eq (.var 3) (.int 0),.and [.cmp .eq (.var 3) (.int 5),.cmp .gt (.var 1) (.int 2)]]) [
   .ret (.tup [.str [103,97,112],.bin .add (.bin .mod (.var 4) (.int 4)) (.toInt (.cmp .ne (.var 2) (.int 10)))])] [],
  .ite (.and [.cmp .eq (.var 3) (.int 1),.cmp .eq (.var 2) (.int 10)]) [
   .ret (.tup [.str [104,101,97,100,105,110,103],.bin .sub (.bin .mod (.var 4) (.int 9)) (.int 1),.list []])] [],
  .ite (.cmp .eq (.var 3) (.int 1)) [
   .ret (.tup [.str [104,101,97,100,105,110,103],.bin .add (.int 1) (.bin .mod (.var 4) (.int 6)),.call "_law_loose_parts" [.bin .fdiv (.var 4) (.int 6),.int 0,.var 2,.str [],.bool true]])] [],
  .ite (.cmp .eq (.var 3) (.int 2)) [
   .ret (.tup [.str [108,105,115,116],.call "_law_loose_items" [.bin .fdiv (.var 4) (.int 8),.idx (.list [.int 1,.int 1,.int 2,.int 3,.int 5,.int 7,.int 8,.toInt (.cmp .ne (.var 2) (.int 10))]) (.bin .mod (.var 4) (.int 8)),.int 0,.var 2]])] [],
  .ite (.cmp .lt (.var 3) (.int 5)) [
   .assign 5 (.compR (.call "_law_loose_row" [.bin .fdiv (.call "_law_mix" [.var 4,.var 6]) (.int 5),.var 1,.var 2]) 6 (.bin .add (.bin .mod (.var 4) (.int 3)) (.toInt (.cmp .ne (.var 2) (.int 10)))) []),
   .ret (.tup [.str [112,97,114,97],.var 5])] [],
  .ite (.or [.cmp .gt (.bin .mod (.var 4) (.int 9)) (.int 2),.cmp .gt (.var 1) (.int 0)]) [
   .ret (.tup [.str [113,117,111,116,101],.call "_law_loose_blocks" [.bin .fdiv (.var 4) (.int 9),.bin .add (.var 1) (.int 1),.var 2]])] [],
  .assign 7 (.list [.tup [.str [112,97,114,97],.list [.list [.bin .add (.bin .mul (.str [62,32]) (.toInt (.cmp .eq (.var 2) (.int 12)))) (.str [119])]]]]),
  .forR 6 (.bin .add (.bin .add (.int 8) (.bin .mod (.bin .fdiv (.var 4) (.int 9)) (.int 2))) (.toInt (.and [.cmp .eq (.var 2) (.int 12),.cmp .eq (.bin .mod (.bin .fdiv (.var 4) (.int 18)) (.int 2)) (.int 1)]))) [
   .assign 7 (.list [.tup [.str [113,117,111,116,101],.var 7]])],
  .ret (.idx (.var 7) (.int 0))]
noncomputable def aG:Fn where
 names:=["_law_number", "_law_deep", "_law_odd", "_law_kind", "_law_more", "_law_rows_here", "_law_k", "_law_blocks_here"]
 params:=3
 body:=aH
noncomputable def Z2:List S:=[
  .assign 3 (.list []),
  .forR 4 (.bin .add (.bin .mod (.var 0) (.int 3)) (.toInt (.cmp .ne (.var 2) (.int 10)))) [
   .assign 5 (.call "_law_loose_block" [.bin .fdiv (.call "_law_mix" [.var 0,.var 4]) (.int 3),.var 1,.var 2]),
   .ite (.or [.cmp .eq (.var 3) (.list []),.cmp .ne (.idx (.var 5) (.int 0)) (.idx (.idx (.var 3) (.neg 1)) (.int 0)),.cmp .eq (.idx (.var 5) (.int 0)) (.str [104,101,97,100,105,110,103]),.cmp .eq (.var 2) (.int 1)]) [
    .expr (.append (.var 3) (.var 5))] []],
  .ret (.var 3)]
noncomputable def Z1:Fn where
 names:=["_law_number", "_law_deep", "_law_odd", "_law_blocks_here", "_law_k", "_law_block_here"]
 params:=3
 body:=Z2
noncomputable def nX:List S:=[
  .ite (.cmp .eq (.var 1) (.str [])) [
   .ret (.var 0)] [],
  .ret (.bin .add (.var 0) (.list [.var 1]))]
noncomputable def nJ:Fn where
 names:=["_law_parts_here", "_law_words"]
 params:=2
 body:=nX
noncomputable def nV:List S:=[
  .whl (.and [.cmp .lt (.var 1) (.len (.var 0)),.cmp .ne (.idx (.var 0) (.var 1)) (.var 2)]) [
   .assign 1 (.bin .add (.var 1) (.int 1))],
  .ret (.var 1)]
noncomputable def nG:Fn where
 names:=["_law_row_here", "_law_at", "_law_sign"]
 params:=3
 body:=nV
noncomputable def sH:List S:=[
  .assign 3 (.call "_law_list" [.var 0,.bin .add (.var 1) (.int 1),.str [93],.bin .add (.var 2) (.int 1)]),
  .assign 4 (.idx (.var 3) (.int 1)),
  .ite (.or [.not (.idx (.var 3) (.int 2)),.cmp .ne (.slc (.var 0) (.var 4) (.bin .add (.var 4) (.int 1))) (.str [40])]) [
   .ret (.tup [.tup [.str [108,105,110,107],.idx (.var 3) (.int 0),.none,.idx (.var 3) (.int 2)],.var 4])] [],
  .assign 5 (.call "_law_place" [.var 0,.bin .add (.var 4) (.int 1),.str [41]]),
  .ret (.tup [.tup [.str [108,105,110,107],.idx (.var 3) (.int 0),.slc (.var 0) (.bin .add (.var 4) (.int 1)) (.var 5),.cmp .lt (.var 5) (.len (.var 0))],.bin .add (.var 5) (.int 1)])]
noncomputable def rY:Fn where
 names:=["_law_row_here", "_law_at", "_law_deep", "_law_inner", "_law_begin", "_law_end"]
 params:=3
 body:=sH
noncomputable def sF:List S:=[
  .ite (.cmp .eq (.idx (.var 0) (.var 1)) (.str [92])) [
   .ret (.tup [.tup [.str [107,101,112,116],.slc (.var 0) (.bin .add (.var 1) (.int 1)) (.bin .add (.var 1) (.int 2))],.bin .add (.var 1) (.int 2)])] [],
  .ite (.cmp .eq (.idx (.var 0) (.var 1)) (.str [96])) [
   .assign 3 (.call "_law_place" [.var 0,.bin .add (.var 1) (.int 1),.str [96]]),
   .ret (.tup [.tup [.str [99,111,100,101],.slc (.var 0) (.bin .add (.var 1) (.int 1)) (.var 3),.cmp .lt (.var 3) (.len (.var 0))],.bin .add (.var 3) (.int 1)])] [],
  .ite (.and [.cmp .lt (.var 2) (.int 12),.cmp .eq (.idx (.var 0) (.var 1)) (.str [91])]) [
   .ret (.call "_law_link" [.var 0,.var 1,.var 2])] [],
  .ite (.and [.cmp .lt (.var 2) (.int 12),.cmp .isin (.slc (.var 0) (.var 1) (.bin .add (.var 1) (.int 2))) (.tup [.str [42,40],.str [95,40],.str [126,40]])]) [
   .assign 4 (.call "_law_list" [.var 0,.bin .add (.var 1) (.int 2),.str [41],.bin .add (.var 2) (.int 1)]),
   .ret (.tup [.tup [.str [115,112,97,110],.idx (.var 0) (.var 1),.idx (.var 4) (.int 0),.idx (.var 4) (.int 2)],.idx (.var 4) (.int 1)])] [],
  .ret .none]
noncomputable def rW:Fn where
 names:=["_law_row_here", "_law_at", "_law_deep", "_law_end", "_law_inner"]
 params:=3
 body:=sF
noncomputable def sG:List S:=[
  .assign 4 (.list []),
  .assign 5 (.str []),
  .whl (.cmp .lt (.var 1) (.len (.var 0))) [
   .assign 6 (.call "_law_mark" [.var 0,.var 1,.var 3]),
   .ite (.isnot (.var 6) .none) [
    .assign 4 (.bin .add (.call "_law_flush" [.var 4,.var 5]) (.list [.idx (.var 6) (.int 0)])),
    .assign 5 (.str []),
    .assign 1 (.idx (.var 6) (.int 1))] [
    .ite (.cmp .eq (.idx (.var 0) (.var 1)) (.var 2)) [
     .ret (.tup [.call "_law_flush" [.var 4,.var 5],.bin .add (.var 1) (.int 1),.bool true])] [
     .assign 5 (.bin .add (.var 5) (.idx (.var 0) (.var 1))),
     .assign 1 (.bin .add (.var 1) (.int 1))]]],
  .ret (.tup [.call "_law_flush" [.var 4,.var 5],.var 1,.bool false])]
noncomputable def rX:Fn where
 names:=["_law_row_here", "_law_at", "_law_closer", "_law_deep", "_law_parts_here", "_law_words", "_law_found"]
 params:=4
 body:=sG
noncomputable def nW:List S:=[
  .ret (.idx (.call "_law_list" [.var 0,.int 0,.str [],.int 0]) (.int 0))]
noncomputable def nH:Fn where
 names:=["_law_row_here"]
 params:=1
 body:=nW
noncomputable def nY:List S:=[
  .assign 2 (.int 0),
  .whl (.cmp .eq (.slc (.var 0) (.var 2) (.bin .add (.var 2) (.int 1))) (.var 1)) [
   .assign 2 (.bin .add (.var 2) (.int 1))],
  .ret (.var 2)]
noncomputable def nK:Fn where
 names:=["_law_row_here", "_law_sign", "_law_many"]
 params:=2
 body:=nY
noncomputable def vO:List S:=[
  .ite (.cmp .eq (.var 0) (.str [])) [
   .ret (.tup [.str [103,97,112],.int 0,.str []])] [],
  .ite (.and [.cmp .eq (.slcH (.var 0) (.int 2)) (.str [62,32]),.cmp .lt (.var 1) (.int 9)]) [
   .ret (.tup [.str [113,117,111,116,101],.int 0,.slcL (.var 0) (.int 2)])] [],
  .assign 2 (.call "_law_count" [.var 0,.str [35]]),
  .assign 3 (.call "_law_count" [.var 0,.str [45]]),
  .ite (.and [.cmp2 .lt .lt (.int 0) (.var 2) (.int 7),.cmp .eq (.slc (.var 0) (.var 2) (.bin .add (.var 2) (.int 1))) (.str [32])]) [
   .ret (.tup [.str [104,101,97,100,105,110,103],.var 2,.slcL (.var 0) (.bin .add (.var 2) (.int 1))])] [],
  .ite (.and [.cmp2 .lt .lt (.int 0) (.var 3) (.int 10),.cmp .eq (.slc (.var 0) (.var 3) (.bin .add (.var 3) (.int 1))) (.str [32])]) [
   .ret (.tup [.str [108,105,115,116],.var 3,.slcL (.var 0) (.bin .add (.var 3) (.int 1))])] [],
  .ret (.tup [.str [112,97,114,97],.int 0,.var 0])]
noncomputable def uZ:Fn where
 names:=["_law_row_here", "_law_deep", "_law_sharps", "_law_dashes"]
 params:=2
 body:=vO
noncomputable def eE:List S:=[
  .assign 1 (.comp (.tup [.idx (.var 2) (.int 1),.call "_law_parts" [.idx (.var 2) (.int 2)],.list []]) 2 (.var 0) []),
  .assign 3 (.list []),
  .forR 4 (.len (.var 1)) [
   .assign 5 (.bin .sub (.var 4) (.int 1)),
   .whl (.and [.cmp .ge (.var 5) (.int 0),.cmp .ge (.idx (.idx (.var 1) (.var 5)) (.int 0)) (.idx (.idx (.var 1) (.var 4)) (.int 0))]) [
    .assign 5 (.bin .sub (.var 5) (.int 1))],
   .ite (.cmp .lt (.var 5) (.int 0)) [
    .expr (.append (.var 3) (.idx (.var 1) (.var 4)))] [
    .expr (.append (.idx (.idx (.var 1) (.var 5)) (.int 2)) (.idx (.var 1) (.var 4)))]],
  .ret (.var 3)]
noncomputable def nI:Fn where
 names:=["_law_lines", "_law_nodes", "_law_line", "_law_top", "_law_k", "_law_at"]
 params:=1
 body:=eE
noncomputable def nZ:List S:=[
  .assign 2 (.idx (.idx (.var 0) (.int 0)) (.int 0)),
  .ite (.cmp .eq (.var 2) (.str [103,97,112])) [
   .ret (.tup [.str [103,97,112],.len (.var 0)])] [],
  .ite (.cmp .eq (.var 2) (.str [104,101,97,100,105,110,103])) [
   .ret (.tup [.str [104,101,97,100,105,110,103],.idx (.idx (.var 0) (.int 0)) (.int 1),.call "_law_parts" [.idx (.idx (.var 0) (.int 0)) (.int 2)]])] [],
  .ite (.cmp .eq (.var 2) (.str [108,105,115,116])) [
   .ret (.tup [.str [108,105,115,116],.call "_law_items" [.var 0]])] [],
  .ite (.cmp .eq (.var 2) (.str [113,117,111,116,101])) [
   .ret (.tup [.str [113,117,111,116,101],.call "_law_blocks" [.comp (.idx (.var 3) (.int 2)) 3 (.var 0) [],.bin .add (.var 1) (.int 1)]])] [],
  .ret (.tup [.str [112,97,114,97],.comp (.call "_law_parts" [.idx (.var 3) (.int 2)]) 3 (.var 0) []])]
noncomputable def nL:Fn where
 names:=["_law_lines", "_law_deep", "_law_kind", "_law_line"]
 params:=2
 body:=nZ
noncomputable def kA:List S:=[
  .assign 2 (.list []),
  .assign 3 (.int 0),
  .whl (.cmp .lt (.var 3) (.len (.var 0))) [
   .assign 4 (.list [.call "_law_cut" [.idx (.var 0) (.var 3),.var 1]]),
   .assign 3 (.bin .add (.var 3) (.int 1)),
   .whl (.and [.cmp .lt (.var 3) (.len (.var 0)),.cmp .ne (.idx (.idx (.var 4) (.int 0)) (.int 0)) (.str [104,101,97,100,105,110,103]),.cmp .eq (.idx (.call "_law_cut" [.idx (.var 0) (.var 3),.var 1]) (.int 0)) (.idx (.idx (.var 4) (.int 0)) (.int 0))]) [
    .expr (.append (.var 4) (.call "_law_cut" [.idx (.var 0) (.var 3),.var 1])),
    .assign 3 (.bin .add (.var 3) (.int 1))],
   .expr (.append (.var 2) (.call "_law_block" [.var 4,.var 1]))],
  .ret (.var 2)]
noncomputable def jW:Fn where
 names:=["_law_rows_here", "_law_deep", "_law_blocks_here", "_law_at", "_law_lines"]
 params:=2
 body:=kA
noncomputable def Bk9:List S:=[
  .assign 1 (.bin .mod (.call "_law_cell_at" [.var 0,.int 0]) (.int 14)),
  .assign 2 (.list []),
  .assign 3 (.bin .mod (.call "_law_cell_at" [.var 0,.int 1]) (.int 5)),
  .ite (.cmp .gt (.var 1) (.int 0)) [
   .assign 3 (.bin .mod (.var 3) (.int 2))] [],
  .forIn 4 (.slc (.var 0) (.int 2) (.bin .add (.int 3) (.var 3))) [
   .assign 5 (.call "_law_loose_block" [.bin .fdiv (.call "_law_mix" [.var 4,.len (.var 2)]) (.int 3),.int 0,.var 1]),
   .ite (.or [.cmp .eq (.var 2) (.list []),.cmp .ne (.idx (.var 5) (.int 0)) (.idx (.idx (.var 2) (.neg 1)) (.int 0)),.cmp .eq (.idx (.var 5) (.int 0)) (.str [104,101,97,100,105,110,103]),.cmp .eq (.var 1) (.int 1)]) [
    .expr (.append (.var 2) (.var 5))] []],
  .assign 6 (.join (.str [10]) (.call "_law_rows" [.var 2])),
  .assign 7 (.call "_law_alike" [.call "_law_blocks" [.split (.var 6) (.str [10]),.int 0],.var 2]),
  .assign 8 (.call "normal" [.var 2]),
  .ite (.or [.not (.isinst (.var 8) .bool),.cmp .ne (.var 8) (.var 7)]) [
   .ret (.bool false)] []]
noncomputable def Da5:Fn where
 names:=["_law_script", "_law_odd", "_law_tree", "_law_many", "_law_cell", "_law_block_here", "_law_text", "_law_due", "_law_told", "_law_found"]
 params:=1
 body:=Bk9
noncomputable def Co1:List S:=[
  .ret (.not (.var 7))]
noncomputable def Bk3:List S:=[
  .ret (.and [.var 7,.isinst (.var 9) .str,.cmp .eq (.var 9) (.var 6)])]
noncomputable def prg:List (String×Fn):=[("here_of",vD),("put_plain",nB),("code_at",vE),("link_at",uW),("opens",Ba5),("last_is",vA),("ended",Ba6),("parts_of",rU),("is_sign",vB),("is_row",Ae5),("run_of",Ae1),("shape",Ba4),("put_piece",nC),("link_pieces",gC),("put_pieces",jV),("pieces_of",nE),("row_of",Ae2),("is_number",nN),("is_tuple",rZ),("is_part",vC),("are_parts",nO),("is_content",jX),("are_items",nP),("are_rows",sB),("is_block",sA),("are_blocks",jY),("normal",Ae4),("need_normal",gB),("put_items",nD),("rows_of",uV),("pieces",Ae3),("shown",Ba3),("_law_cell_at",gD),("_law_alike",nM),("_law_row",uX),("_law_under",nF),("_law_rows",rV),("_law_mix",uY),("_law_loose_plain",aD),("_law_loose_end",cL),("_law_loose_link",bJ),("_law_loose_part",bI),("_law_deep_parts",bK),("_law_loose_parts",aE),("_law_loose_row",cK),("_law_loose_items",aF),("_law_loose_block",aG),("_law_loose_blocks",Z1),("_law_flush",nJ),("_law_place",nG),("_law_link",rY),("_law_mark",rW),("_law_list",rX),("_law_parts",nH),("_law_count",nK),("_law_cut",uZ),("_law_items",nI),("_law_block",nL),("_law_blocks",jW)]
noncomputable def gl:Gl:={ intL:=[("MOST_OPEN",12),("MOST_QUOTES",9),("MOST_SHARPS",6),("MOST_DASHES",9)],fns:=[("here_of",[]),("put_plain",[]),("code_at",[]),("link_at",[]),("opens",[]),("last_is",[]),("ended",[]),("parts_of",[]),("is_sign",[]),("is_row",[]),("run_of",[]),("shape",[]),("put_piece",[]),("link_pieces",[]),("put_pieces",[]),("pieces_of",[]),("row_of",[]),("is_number",[]),("is_tuple",[]),("is_part",[]),("are_parts",[]),("is_content",[]),("are_items",[]),("are_rows",[]),("is_block",[]),("are_blocks",[]),("normal",[]),("need_normal",[]),("put_items",[]),("rows_of",[]),("pieces",[]),("shown",[]),("_law_cell_at",[]),("_law_alike",[]),("_law_row",[]),("_law_under",[]),("_law_rows",[]),("_law_mix",[]),("_law_loose_plain",[]),("_law_loose_end",[]),("_law_loose_link",[]),("_law_loose_part",[]),("_law_deep_parts",[]),("_law_loose_parts",[]),("_law_loose_row",[]),("_law_loose_items",[]),("_law_loose_block",[]),("_law_loose_blocks",[]),("_law_flush",[]),("_law_place",[]),("_law_link",[]),("_law_mark",[]),("_law_list",[]),("_law_parts",[]),("_law_count",[]),("_law_cut",[]),("_law_items",[]),("_law_block",[]),("_law_blocks",[])],pos:=false }
noncomputable abbrev P:Prg:=fun f=>prg.lookup f
theorem Bi5:P "here_of" = some vD:=by rfl
theorem As2 {n:Nat}{a0 a1:V}{Q:C2}{H:Heap}(h:C6 (callN P n) vS [some a0,some a1] (E1 Q) H):callN P (n+1) "here_of" [a0,a1] Q H:=D4 Bi5 rfl h
theorem Ai1:P "put_plain" = some nB:=by rfl
theorem yA {n:Nat}{a0 a1:V}{Q:C2}{H:Heap}(h:C6 (callN P n) nQ [some a0,some a1] (E1 Q) H):callN P (n+1) "put_plain" [a0,a1] Q H:=D4 Ai1 rfl h
theorem Bi6:P "code_at" = some vE:=by rfl
theorem As3 {n:Nat}{a0 a1:V}{Q:C2}{H:Heap}(h:C6 (callN P n) vT [some a0,some a1,none] (E1 Q) H):callN P (n+1) "code_at" [a0,a1] Q H:=D4 Bi6 rfl h
theorem Bh8:P "link_at" = some uW:=by rfl
theorem Ar5 {n:Nat}{a0 a1 a2:V}{Q:C2}{H:Heap}(h:C6 (callN P n) vG [some a0,some a1,some a2,none] (E1 Q) H):callN P (n+1) "link_at" [a0,a1,a2] Q H:=D4 Bh8 rfl h
theorem Ck3:P "opens" = some Ba5:=by rfl
theorem By7 {n:Nat}{a0 a1 a2:V}{Q:C2}{H:Heap}(h:C6 (callN P n) Bb4 [some a0,some a1,some a2] (E1 Q) H):callN P (n+1) "opens" [a0,a1,a2] Q H:=D4 Ck3 rfl h
theorem Bi2:P "last_is" = some vA:=by rfl
theorem Ar9 {n:Nat}{a0 a1:V}{Q:C2}{H:Heap}(h:C6 (callN P n) vP [some a0,some a1] (E1 Q) H):callN P (n+1) "last_is" [a0,a1] Q H:=D4 Bi2 rfl h
theorem Ck4:P "ended" = some Ba6:=by rfl
theorem By9 {n:Nat}{a0 a1:V}{Q:C2}{H:Heap}(h:C6 (callN P n) Bb5 [some a0,some a1,none,none] (E1 Q) H):callN P (n+1) "ended" [a0,a1] Q H:=D4 Ck4 rfl h
theorem As4:P "parts_of" = some rU:=by rfl
theorem Ah4 {n:Nat}{a0:V}{Q:C2}{H:Heap}(h:C6 (callN P n) sC [some a0,none,none,none,none,none,none,none] (E1 Q) H):callN P (n+1) "parts_of" [a0] Q H:=D4 As4 rfl h
theorem Bi3:P "is_sign" = some vB:=by rfl
theorem As0 {n:Nat}{a0:V}{Q:C2}{H:Heap}(h:C6 (callN P n) vQ [some a0,none] (E1 Q) H):callN P (n+1) "is_sign" [a0] Q H:=D4 Bi3 rfl h
theorem Ca3:P "is_row" = some Ae5:=by rfl
theorem Bh2 {n:Nat}{a0:V}{Q:C2}{H:Heap}(h:C6 (callN P n) Af4 [some a0,none] (E1 Q) H):callN P (n+1) "is_row" [a0] Q H:=D4 Ca3 rfl h
theorem Ca0:P "run_of" = some Ae1:=by rfl
theorem Bg8 {n:Nat}{a0 a1:V}{Q:C2}{H:Heap}(h:C6 (callN P n) Af0 [some a0,some a1,none] (E1 Q) H):callN P (n+1) "run_of" [a0,a1] Q H:=D4 Ca0 rfl h
theorem Ck2:P "shape" = some Ba4:=by rfl
theorem By6 {n:Nat}{a0 a1:V}{Q:C2}{H:Heap}(h:C6 (callN P n) Bb3 [some a0,some a1,none,none] (E1 Q) H):callN P (n+1) "shape" [a0,a1] Q H:=D4 Ck2 rfl h
theorem Ai2:P "put_piece" = some nC:=by rfl
theorem yB {n:Nat}{a0 a1 a2:V}{Q:C2}{H:Heap}(h:C6 (callN P n) nR [some a0,some a1,some a2] (E1 Q) H):callN P (n+1) "put_piece" [a0,a1,a2] Q H:=D4 Ai2 rfl h
theorem tH:P "link_pieces" = some gC:=by rfl
theorem sR {n:Nat}{a0 a1:V}{Q:C2}{H:Heap}(h:C6 (callN P n) gF [some a0,some a1] (E1 Q) H):callN P (n+1) "link_pieces" [a0,a1] Q H:=D4 tH rfl h
theorem yN:P "put_pieces" = some jV:=by rfl
theorem tF {n:Nat}{a0 a1:V}{Q:C2}{H:Heap}(h:C6 (callN P n) jZ [some a0,some a1,none] (E1 Q) H):callN P (n+1) "put_pieces" [a0,a1] Q H:=D4 yN rfl h
theorem Ai4:P "pieces_of" = some nE:=by rfl
theorem yD {n:Nat}{a0:V}{Q:C2}{H:Heap}(h:C6 (callN P n) nT [some a0,none] (E1 Q) H):callN P (n+1) "pieces_of" [a0] Q H:=D4 Ai4 rfl h
theorem Ca1:P "row_of" = some Ae2:=by rfl
theorem Bg9 {n:Nat}{a0:V}{Q:C2}{H:Heap}(h:C6 (callN P n) Af1 [some a0,none] (E1 Q) H):callN P (n+1) "row_of" [a0] Q H:=D4 Ca1 rfl h
theorem Aj3:P "is_number" = some nN:=by rfl
theorem cG {n:Nat}{a0 a1:V}{Q:C2}{H:Heap}(h:C6 (callN P n) oA [some a0,some a1] (E1 Q) H):callN P (n+1) "is_number" [a0,a1] Q H:=D4 Aj3 rfl h
theorem As9:P "is_tuple" = some rZ:=by rfl
theorem Ah9 {n:Nat}{a0 a1 a2:V}{Q:C2}{H:Heap}(h:C6 (callN P n) sI [some a0,some a1,some a2] (E1 Q) H):callN P (n+1) "is_tuple" [a0,a1,a2] Q H:=D4 As9 rfl h
theorem Bi4:P "is_part" = some vC:=by rfl
theorem As1 {n:Nat}{a0 a1:V}{Q:C2}{H:Heap}(h:C6 (callN P n) vR [some a0,some a1] (E1 Q) H):callN P (n+1) "is_part" [a0,a1] Q H:=D4 Bi4 rfl h
theorem Aj4:P "are_parts" = some nO:=by rfl
theorem yL {n:Nat}{a0 a1:V}{Q:C2}{H:Heap}(h:C6 (callN P n) oB [some a0,some a1,none] (E1 Q) H):callN P (n+1) "are_parts" [a0,a1] Q H:=D4 Aj4 rfl h
theorem yP:P "is_content" = some jX:=by rfl
theorem fX {n:Nat}{a0:V}{Q:C2}{H:Heap}(h:C6 (callN P n) kB [some a0] (E1 Q) H):callN P (n+1) "is_content" [a0] Q H:=D4 yP rfl h
theorem Aj5:P "are_items" = some nP:=by rfl
theorem yM {n:Nat}{a0 a1:V}{Q:C2}{H:Heap}(h:C6 (callN P n) oC [some a0,some a1,none,none] (E1 Q) H):callN P (n+1) "are_items" [a0,a1] Q H:=D4 Aj5 rfl h
theorem At1:P "are_rows" = some sB:=by rfl
theorem nA {n:Nat}{a0 a1:V}{Q:C2}{H:Heap}(h:C6 (callN P n) sK [some a0,some a1,none] (E1 Q) H):callN P (n+1) "are_rows" [a0,a1] Q H:=D4 At1 rfl h
theorem At0:P "is_block" = some sA:=by rfl
theorem Ai0 {n:Nat}{a0 a1:V}{Q:C2}{H:Heap}(h:C6 (callN P n) sJ [some a0,some a1] (E1 Q) H):callN P (n+1) "is_block" [a0,a1] Q H:=D4 At0 rfl h
theorem yQ:P "are_blocks" = some jY:=by rfl
theorem fY {n:Nat}{a0 a1:V}{Q:C2}{H:Heap}(h:C6 (callN P n) kC [some a0,some a1,none,none] (E1 Q) H):callN P (n+1) "are_blocks" [a0,a1] Q H:=D4 yQ rfl h
theorem Ca2:P "normal" = some Ae4:=by rfl
theorem Bh1 {n:Nat}{a0:V}{Q:C2}{H:Heap}(h:C6 (callN P n) Af3 [some a0] (E1 Q) H):callN P (n+1) "normal" [a0] Q H:=D4 Ca2 rfl h
theorem gM:P "need_normal" = some gB:=by rfl
theorem sQ {n:Nat}{a0:V}{Q:C2}{H:Heap}(h:C6 (callN P n) gE [some a0] (E1 Q) H):callN P (n+1) "need_normal" [a0] Q H:=D4 gM rfl h
theorem Ai3:P "put_items" = some nD:=by rfl
theorem yC {n:Nat}{a0 a1:V}{Q:C2}{H:Heap}(h:C6 (callN P n) nS [some a0,some a1,none] (E1 Q) H):callN P (n+1) "put_items" [a0,a1] Q H:=D4 Ai3 rfl h
theorem Bh7:P "rows_of" = some uV:=by rfl
theorem Ar4 {n:Nat}{a0:V}{Q:C2}{H:Heap}(h:C6 (callN P n) vF [some a0,none,none,none,none,none] (E1 Q) H):callN P (n+1) "rows_of" [a0] Q H:=D4 Bh7 rfl h
theorem Af8:P "pieces" = some Ae3:=by rfl
theorem Bh0 {n:Nat}{a0:V}{Q:C2}{H:Heap}(h:C6 (callN P n) Af2 [some a0,none,none,none] (E1 Q) H):callN P (n+1) "pieces" [a0] Q H:=D4 Af8 rfl h
theorem Bc0:P "shown" = some Ba3:=by rfl
theorem By5 {n:Nat}{a0:V}{Q:C2}{H:Heap}(h:C6 (callN P n) Bb2 [some a0,none] (E1 Q) H):callN P (n+1) "shown" [a0] Q H:=D4 Bc0 rfl h
theorem tI:P "_law_cell_at" = some gD:=by rfl
theorem eK {n:Nat}{a0 a1:V}{Q:C2}{H:Heap}(h:C6 (callN P n) gJ [some a0,some a1] (E1 Q) H):callN P (n+1) "_law_cell_at" [a0,a1] Q H:=D4 tI rfl h
theorem Aj2:P "_law_alike" = some nM:=by rfl
theorem O9 {n:Nat}{a0 a1:V}{Q:C2}{H:Heap}(h:C6 (callN P n) eF [some a0,some a1,none] (E1 Q) H):callN P (n+1) "_law_alike" [a0,a1] Q H:=D4 Aj2 rfl h
theorem Bh9:P "_law_row" = some uX:=by rfl
theorem Ar6 {n:Nat}{a0:V}{Q:C2}{H:Heap}(h:C6 (callN P n) vH [some a0,none,none] (E1 Q) H):callN P (n+1) "_law_row" [a0] Q H:=D4 Bh9 rfl h
theorem Ai5:P "_law_under" = some nF:=by rfl
theorem yE {n:Nat}{a0:V}{Q:C2}{H:Heap}(h:C6 (callN P n) nU [some a0,none,none] (E1 Q) H):callN P (n+1) "_law_under" [a0] Q H:=D4 Ai5 rfl h
theorem As5:P "_law_rows" = some rV:=by rfl
theorem Ah5 {n:Nat}{a0:V}{Q:C2}{H:Heap}(h:C6 (callN P n) sD [some a0,none,none,none,none] (E1 Q) H):callN P (n+1) "_law_rows" [a0] Q H:=D4 As5 rfl h
theorem Bi0:P "_law_mix" = some uY:=by rfl
theorem Ar7 {n:Nat}{a0 a1:V}{Q:C2}{H:Heap}(h:C6 (callN P n) vL [some a0,some a1] (E1 Q) H):callN P (n+1) "_law_mix" [a0,a1] Q H:=D4 Bi0 rfl h
theorem kG:P "_law_loose_plain" = some aD:=by rfl
theorem hV {n:Nat}{a0 a1 a2:V}{Q:C2}{H:Heap}(h:C6 (callN P n) U6 [some a0,some a1,some a2,none,none] (E1 Q) H):callN P (n+1) "_law_loose_plain" [a0,a1,a2] Q H:=D4 kG rfl h
theorem oF:P "_law_loose_end" = some cL:=by rfl
theorem lY {n:Nat}{a0 a1 a2:V}{Q:C2}{H:Heap}(h:C6 (callN P n) cN [some a0,some a1,some a2,none] (E1 Q) H):callN P (n+1) "_law_loose_end" [a0,a1,a2] Q H:=D4 oF rfl h
theorem mA:P "_law_loose_link" = some bJ:=by rfl
theorem kE {n:Nat}{a0 a1 a2 a3 a4:V}{Q:C2}{H:Heap}(h:C6 (callN P n) V7 [some a0,some a1,some a2,some a3,some a4,none,none] (E1 Q) H):callN P (n+1) "_law_loose_link" [a0,a1,a2,a3,a4] Q H:=D4 mA rfl h
theorem lZ:P "_law_loose_part" = some bI:=by rfl
theorem kD {n:Nat}{a0 a1 a2 a3 a4:V}{Q:C2}{H:Heap}(h:C6 (callN P n) bL [some a0,some a1,some a2,some a3,some a4,none,none,none,none] (E1 Q) H):callN P (n+1) "_law_loose_part" [a0,a1,a2,a3,a4] Q H:=D4 lZ rfl h
theorem mB:P "_law_deep_parts" = some bK:=by rfl
theorem kF {n:Nat}{a0 a1:V}{Q:C2}{H:Heap}(h:C6 (callN P n) bM [some a0,some a1,none,none,none] (E1 Q) H):callN P (n+1) "_law_deep_parts" [a0,a1] Q H:=D4 mB rfl h
theorem kH:P "_law_loose_parts" = some aE:=by rfl
theorem hX {n:Nat}{a0 a1 a2 a3 a4:V}{Q:C2}{H:Heap}(h:C6 (callN P n) U7 [some a0,some a1,some a2,some a3,some a4,none,none,none,none,none] (E1 Q) H):callN P (n+1) "_law_loose_parts" [a0,a1,a2,a3,a4] Q H:=D4 kH rfl h
theorem oE:P "_law_loose_row" = some cK:=by rfl
theorem lX {n:Nat}{a0 a1 a2:V}{Q:C2}{H:Heap}(h:C6 (callN P n) cM [some a0,some a1,some a2,none] (E1 Q) H):callN P (n+1) "_law_loose_row" [a0,a1,a2] Q H:=D4 oE rfl h
theorem kI:P "_law_loose_items" = some aF:=by rfl
theorem hY {n:Nat}{a0 a1 a2 a3:V}{Q:C2}{H:Heap}(h:C6 (callN P n) M9 [some a0,some a1,some a2,some a3,none,none,none,none,none,none] (E1 Q) H):callN P (n+1) "_law_loose_items" [a0,a1,a2,a3] Q H:=D4 kI rfl h
theorem kJ:P "_law_loose_block" = some aG:=by rfl
theorem hZ {n:Nat}{a0 a1 a2:V}{Q:C2}{H:Heap}(h:C6 (callN P n) aH [some a0,some a1,some a2,none,none,none,none,none] (E1 Q) H):callN P (n+1) "_law_loose_block" [a0,a1,a2] Q H:=D4 kJ rfl h
theorem iA:P "_law_loose_blocks" = some Z1:=by rfl
theorem fL {n:Nat}{a0 a1 a2:V}{Q:C2}{H:Heap}(h:C6 (callN P n) Z2 [some a0,some a1,some a2,none,none,none] (E1 Q) H):callN P (n+1) "_law_loose_blocks" [a0,a1,a2] Q H:=D4 iA rfl h
theorem Ai9:P "_law_flush" = some nJ:=by rfl
theorem yI {n:Nat}{a0 a1:V}{Q:C2}{H:Heap}(h:C6 (callN P n) nX [some a0,some a1] (E1 Q) H):callN P (n+1) "_law_flush" [a0,a1] Q H:=D4 Ai9 rfl h
theorem Ai6:P "_law_place" = some nG:=by rfl
theorem yF {n:Nat}{a0 a1 a2:V}{Q:C2}{H:Heap}(h:C6 (callN P n) nV [some a0,some a1,some a2] (E1 Q) H):callN P (n+1) "_law_place" [a0,a1,a2] Q H:=D4 Ai6 rfl h
theorem As8:P "_law_link" = some rY:=by rfl
theorem Ah8 {n:Nat}{a0 a1 a2:V}{Q:C2}{H:Heap}(h:C6 (callN P n) sH [some a0,some a1,some a2,none,none,none] (E1 Q) H):callN P (n+1) "_law_link" [a0,a1,a2] Q H:=D4 As8 rfl h
theorem As6:P "_law_mark" = some rW:=by rfl
theorem Ah6 {n:Nat}{a0 a1 a2:V}{Q:C2}{H:Heap}(h:C6 (callN P n) sF [some a0,some a1,some a2,none,none] (E1 Q) H):callN P (n+1) "_law_mark" [a0,a1,a2] Q H:=D4 As6 rfl h
theorem As7:P "_law_list" = some rX:=by rfl
theorem Ah7 {n:Nat}{a0 a1 a2 a3:V}{Q:C2}{H:Heap}(h:C6 (callN P n) sG [some a0,some a1,some a2,some a3,none,none,none] (E1 Q) H):callN P (n+1) "_law_list" [a0,a1,a2,a3] Q H:=D4 As7 rfl h
theorem Ai7:P "_law_parts" = some nH:=by rfl
theorem yG {n:Nat}{a0:V}{Q:C2}{H:Heap}(h:C6 (callN P n) nW [some a0] (E1 Q) H):callN P (n+1) "_law_parts" [a0] Q H:=D4 Ai7 rfl h
theorem Aj0:P "_law_count" = some nK:=by rfl
theorem yJ {n:Nat}{a0 a1:V}{Q:C2}{H:Heap}(h:C6 (callN P n) nY [some a0,some a1,none] (E1 Q) H):callN P (n+1) "_law_count" [a0,a1] Q H:=D4 Aj0 rfl h
theorem Bi1:P "_law_cut" = some uZ:=by rfl
theorem Ar8 {n:Nat}{a0 a1:V}{Q:C2}{H:Heap}(h:C6 (callN P n) vO [some a0,some a1,none,none] (E1 Q) H):callN P (n+1) "_law_cut" [a0,a1] Q H:=D4 Bi1 rfl h
theorem Ai8:P "_law_items" = some nI:=by rfl
theorem yH {n:Nat}{a0:V}{Q:C2}{H:Heap}(h:C6 (callN P n) eE [some a0,none,none,none,none,none] (E1 Q) H):callN P (n+1) "_law_items" [a0] Q H:=D4 Ai8 rfl h
theorem Aj1:P "_law_block" = some nL:=by rfl
theorem yK {n:Nat}{a0 a1:V}{Q:C2}{H:Heap}(h:C6 (callN P n) nZ [some a0,some a1,none,none] (E1 Q) H):callN P (n+1) "_law_block" [a0,a1] Q H:=D4 Aj1 rfl h
theorem yO:P "_law_blocks" = some jW:=by rfl
theorem tG {n:Nat}{a0 a1:V}{Q:C2}{H:Heap}(h:C6 (callN P n) kA [some a0,some a1,none,none,none] (E1 Q) H):callN P (n+1) "_law_blocks" [a0,a1] Q H:=D4 yO rfl h
end L09
set_option linter.unusedVariables false
namespace Mini
noncomputable def Ev (C:Calls) (ρ:D7) (H:Heap) (e:E) (v:V):Prop:=∀ Q:C2,Q v H->E2 C e ρ Q H
noncomputable def Evs (C:Calls) (ρ:D7) (H:Heap) (es:List E) (vs:List V):Prop:=∀ Q:List V->Heap->Prop,Q vs H->S2 C es ρ Q H
section
variable {C:Calls}{ρ:D7}{H:Heap}{R:E6}{ss:List S}
theorem R1 {x:Nat}{v:V}(h:ρ[x]? = some (some v)):Ev C ρ H (.var x) v:=fun zz k=>Z6 h k
theorem Cl7 {i:Int}:Ev C ρ H (.int i) (.int i):=fun zz k=>k
theorem P0 {i:List Nat}:Ev C ρ H (.str i) (.str i):=fun zz k=>k
theorem I5 {o:Op}{l r:E}{a b c:V}(hl:Ev C ρ H l a) (hr:Ev C ρ H r b) (h:aO o a b H=some (c,H)):Ev C ρ H (.bin o l r) c:=fun Q k=>hl _ (hr _ (by
 show res (aO o a b H) Q
 rw [h];exact k))
theorem D9 {o:Cmp}{l r:E}{a b:V}{t:Bool}(hl:Ev C ρ H l a) (hr:Ev C ρ H r b) (h:S3 o a b H=some t):Ev C ρ H (.cmp o l r) (.bool t):=fun Q k=>hl _ (hr _ (by
 show boo (S3 o a b H) (fun b H=>Q (.bool b) H) H
 rw [h];exact k))
theorem Bl7 {o o2:Cmp}{l r q:E}{a b d:V}{t t2:Bool}(hl:Ev C ρ H l a) (hr:Ev C ρ H r b) (hq:Ev C ρ H q d) (h:S3 o a b H=some t) (h2:S3 o2 b d H=some t2):Ev C ρ H (.cmp2 o o2 l r q) (.bool (t&&t2)):=fun Q k=>hl _ (hr _ (by
 show boo (S3 o a b H) _ H
 rw [h]
 cases t with
 | true=>exact hq _ (by show boo (S3 o2 b d H) (fun b H=>Q (.bool b) H) H;rw [h2];exact k)
 | false=>exact k))
theorem Bi9 {e:E}{c:Cst}{a:V}(he:Ev C ρ H e a):Ev C ρ H (.is e c) (.bool (isV a c)):=fun Q k=>he _ k
theorem kQ {e:E}{c:Ty}{a:V}(he:Ev C ρ H e a):Ev C ρ H (.isinst e c) (.bool (bX a c)):=fun Q k=>he _ k
theorem tK {e:E}{t:Bool}(he:Ev C ρ H e (.bool t)):Ev C ρ H (.not e) (.bool (!t)):=fun Q k=>he _ k
theorem F9 {l r:E}{a b c:V}(hl:Ev C ρ H l a) (hr:Ev C ρ H r b) (h:X1 a b H=some c):Ev C ρ H (.idx l r) c:=fun Q k=>hl _ (hr _ (by
 show val (X1 a b H) Q H
 rw [h];exact k))
theorem Cx9 {o l r:E}{a c:V}{i j:Int}(ho:Ev C ρ H o a) (hl:Ev C ρ H l (.int i)) (hr:Ev C ρ H r (.int j)) (h:kK a (some i) (some j) H=some (c,H)):Ev C ρ H (.slc o l r) c:=fun Q k=>ho _ (hl _ (hr _ (by
 show res (kK a (some i) (some j) H) Q
 rw [h];exact k)))
theorem Cq9 {o l:E}{a c:V}{i:Int}(ho:Ev C ρ H o a) (hl:Ev C ρ H l (.int i)) (h:kK a (some i) none H=some (c,H)):Ev C ρ H (.slcL o l) c:=fun Q k=>ho _ (hl _ (by
 show res (kK a (some i) none H) Q
 rw [h];exact k))
theorem P1 {e:E}{a:V}{n:Int}(he:Ev C ρ H e a) (h:yZ a H=some n):Ev C ρ H (.len e) (.int n):=fun Q k=>he _ (by
 show val ((yZ a H).map .int) Q H
 rw [h];exact k)
theorem Bl6 {o a b:E}{s:List Nat}{c:Nat}{i:Int}(ho:Ev C ρ H o (.str s)) (ha:Ev C ρ H a (.str [c])) (hb:Ev C ρ H b (.int i)) (h:0<=i):Ev C ρ H (.find o a b) (.int (tL s c i.toNat)):=fun Q k=>ho _ (ha _ (hb _ ⟨h,k⟩))
theorem T6 {es:List E}{vs:List V}(h:Evs C ρ H es vs):Ev C ρ H (.tup es) (.tup vs):=fun Q k=>h _ k
theorem J5:Evs C ρ H [] []:=fun zz k=>k
theorem C4 {e:E}{es:List E}{v:V}{vs:List V}(h:Ev C ρ H e v) (k:Evs C ρ H es vs):Evs C ρ H (e::es) (v::vs):=fun zz q=>h _ (k _ q)
theorem Cy0 {e:E}{c:Nat}(he:Ev C ρ H e (.str [c])):Ev C ρ H (.ord e) (.int c):=fun Q k=>he _ k
theorem O3 {e:E}{b:Bool}(he:Ev C ρ H e (.bool b)):Ev C ρ H (.toInt e) (.int (if b then 1 else 0)):=fun Q k=>he _ k
theorem D1 {e f:E}{es:List E}{b b2:Bool}(h1:Ev C ρ H e (.bool b)) (h2:b=true->Ev C ρ H (.and (f::es)) (.bool b2)):Ev C ρ H (.and (e::f::es)) (.bool (b&&b2)):=fun Q k=>h1 _ (by
 cases b with
 | true=>exact h2 rfl _ k
 | false=>exact k)
theorem K3 {e f:E}{es:List E}{b b2:Bool}(h1:Ev C ρ H e (.bool b)) (h2:b=false->Ev C ρ H (.or (f::es)) (.bool b2)):Ev C ρ H (.or (e::f::es)) (.bool (b||b2)):=fun Q k=>h1 _ (by
 cases b with
 | true=>exact k
 | false=>exact h2 rfl _ k)
theorem H8 {e:E}{b:V}(h1:Ev C ρ H e b):Ev C ρ H (.and [e]) b:=h1
theorem S6 {e:E}{b:V}(h1:Ev C ρ H e b):Ev C ρ H (.or [e]) b:=h1
theorem iB {e:E}{v v':V}(h:Ev C ρ H e v) (q:v=v'):Ev C ρ H e v':=q▸h
theorem G6 {e:E}{v v':Bool}(h:Ev C ρ H e (.bool v)) (q:v=v'):Ev C ρ H e (.bool v'):=q▸h
theorem Q3 {a b:Int}:aO .add (.int a) (.int b) H=some (.int (a+b),H):=rfl
theorem Al2 {a b:Int}:aO .sub (.int a) (.int b) H=some (.int (a - b),H):=rfl
theorem Cy3 {a b:Int}(hb:0<b):aO .mod (.int a) (.int b) H=some (.int (a % b),H):=by
 show (if _ then _ else _)=_
 rw [if_pos hb]
theorem Cr9 {a b:Int}(hb:0<b/\b<1073741824):aO .fdiv (.int a) (.int b) H=some (.int (a / b),H):=by
 show (if _ then _ else _)=_
 rw [if_pos hb]
theorem Al3 {a b:Int}(hb:a.natAbs<1152921504606846976∨b.natAbs<1152921504606846976):aO .mul (.int a) (.int b) H=some (.int (a * b),H):=if_pos hb
theorem kS {a:List Nat}{n:Int}(hb:a.length * n.toNat<=I3/\-4611686018427387904<n/\n<4611686018427387904):aO .mul (.str a) (.int n) H=some (.str (List.replicate n.toNat a).flatten,H):=if_pos hb
theorem Y1 {a b:List Nat}(hb:a.length+b.length<=I3):aO .add (.str a) (.str b) H=some (.str (a++b),H):=by
 show (if _ then _ else _)=_
 rw [if_pos hb]
theorem Bn1 {s:List Nat}{lo hi:Option Int}:kK (.str s) lo hi H=some (.str (slice s lo hi),H):=rfl
theorem S7 {a b:List Nat}:S3 .eq (.str a) (.str b) H=some (a==b):=rfl
theorem Au0 {a b:List Nat}:S3 .ne (.str a) (.str b) H=some (!(a==b)):=rfl
theorem Cm6 {a b:Int}:S3 .eq (.int a) (.int b) H=some (a==b):=rfl
theorem Au1 {a b:Int}:S3 .ne (.int a) (.int b) H=some (!(a==b)):=rfl
theorem T5 {a b:Int}:S3 .lt (.int a) (.int b) H=some (decide (a<b)):=rfl
theorem yY {a b:Int}:S3 .le (.int a) (.int b) H=some (decide (a<=b)):=rfl
theorem oZ {a b:Int}:S3 .gt (.int a) (.int b) H=some (decide (b<a)):=rfl
theorem Bj1 {a b:Int}:S3 .ge (.int a) (.int b) H=some (decide (b<=a)):=rfl
theorem Cy4 {c:Nat}{b:List Nat}:S3 .isin (.str [c]) (.str b) H=some (b.contains c):=rfl
theorem Bn2 {s:List V}:yZ (.tup s) H=some (s.length:Int):=rfl
theorem Bn3 {s:List Int}:yZ (.frz s) H=some (s.length:Int):=rfl
theorem N0 {a:Nat}{l:List V}(h:H[a]? = some l):yZ (.ref a) H=some (l.length:Int):=by show (H[a]?).map _=_;rw [h];rfl
theorem C9 {x:Nat}{e:E}{v:V}(h:Ev C ρ H e v) (k:C6 C ss (ρ.set x (some v)) R H):C6 C (.assign x e::ss) ρ R H:=h _ k
theorem E0 {e:E}{v:V}(h:Ev C ρ H e v) (k:R (.ret v) ρ H):C6 C (.ret e::ss) ρ R H:=h _ k
theorem Cy2 {c:E}{t f:List S}{b:Bool}(hc:Ev C ρ H c (.bool b)) (ht:b=true->C6 C t ρ (M6 C ss R) H) (hf:b=false->C6 C f ρ (M6 C ss R) H):C6 C (.ite c t f::ss) ρ R H:=hc _ (by
 cases b with
 | true=>exact ht rfl
 | false=>exact hf rfl)
theorem C8 {f:String}{es:List E}{vs:List V}{v:V}(h:Evs C ρ H es vs) (k:∀ Q:C2,Q v H->C f vs Q H):Ev C ρ H (.call f es) v:=fun Q q=>h _ (k Q q)
theorem C1 {c:E}{t:List S}(hc:Ev C ρ H c (.bool false)) (k:C6 C ss ρ R H):C6 C (.ite c t []::ss) ρ R H:=hc _ k
theorem C5 {c:E}{t f:List S}(hc:Ev C ρ H c (.bool true)) (ht:C6 C t ρ (M6 C ss R) H):C6 C (.ite c t f::ss) ρ R H:=hc _ ht
theorem D6 {c:E}{t f:List S}(hc:Ev C ρ H c (.bool false)) (hf:C6 C f ρ (M6 C ss R) H):C6 C (.ite c t f::ss) ρ R H:=hc _ hf
theorem M8 {x:Nat}{f:String}{es:List E}{vs:List V}(h:Evs C ρ H es vs) (k:C f vs (fun v H₁=>C6 C ss (ρ.set x (some v)) R H₁) H):C6 C (.assign x (.call f es)::ss) ρ R H:=h _ k
theorem tO {f:String}{es:List E}{vs:List V}(h:Evs C ρ H es vs) (k:C f vs (fun v H₁=>R (.ret v) ρ H₁) H):C6 C (.ret (.call f es)::ss) ρ R H:=h _ k
theorem P7 {f:String}{es:List E}{vs:List V}(h:Evs C ρ H es vs) (k:C f vs (fun zz H₁=>C6 C ss ρ R H₁) H):C6 C (.expr (.call f es)::ss) ρ R H:=h _ k
end
inductive De0 (C:Calls) (c:E) (b:List S) (Q:E6) (ρ:D7) (H:Heap) (K:D7->Heap->Prop):Prop
 | go (hc:Ev C ρ H c (.bool true)) (hb:C6 C b ρ (fO Q K) H)
 | stop (hc:Ev C ρ H c (.bool false)) (hq:Q .next ρ H)
theorem mD {C:Calls}{c:E}{b:List S}{Q:E6}{σ:Type}(env:σ->D7) (I:σ->Heap->Prop) (μ:σ->Nat)
  (step:∀ s H,I s H->∀ K:D7->Heap->Prop,(∀ s' H',μ s'<μ s->I s' H'->K (env s') H')->De0 C c b Q (env s) H K) (s:σ) {H:Heap}(h:I s H):iC C (.whl c b) (env s) Q H:=by
 refine Bu1 (fun m ρ H=>∃ s,m=μ s/\ρ=env s/\I s H) (fun k ρ H hI K hK=>?_) (μ s) ⟨s,rfl,rfl,h⟩
 obtain ⟨s,rfl,rfl,hI⟩:=hI
 rcases step s H hI K (fun s' H' hm h'=>hK (μ s') _ _ hm ⟨s',rfl,rfl,h'⟩) with ⟨hc,hb⟩ | ⟨hc,hq⟩
 ·exact hc _ hb
 ·exact hc _ hq
theorem Al4 {C:Calls}{x:Nat}{b:List S}{Q:E6}{σ:Type}(env:σ->D7) (I:Nat->σ->Heap->Prop) {a:Nat}{l:List V}(hl:∀ i s H,I i s H->H[a]? = some l)
  (step:∀ i s H v,l[i]? = some v->I i s H->∀ K:D7->Heap->Prop,(∀ s' H',I (i+1) s' H'->K (env s') H')->C6 C b ((env s).set x (some v)) (fO Q K) H)
  (fin:∀ s H,I l.length s H->Q .next (env s) H) (s:σ) {H:Heap}(h:I 0 s H):∃ n,aK (C6 C b) x (.lst a) n 0 (env s) Q H:=by
 refine Ch1 (l:=l) (fun i ρ H=>∃ s,ρ=env s/\I i s H) (fun i ρ H h=>?_) (fun i ρ H v hv hI K hK=>?_) (fun ρ H hI=>?_) ⟨s,rfl,h⟩
 ·obtain ⟨s,rfl,h⟩:=h;exact hl i s H h
 ·obtain ⟨s,rfl,h⟩:=hI;exact step i s H v hv h K fun s' H' h'=>hK _ _ ⟨s',rfl,h'⟩
 ·obtain ⟨s,rfl,h⟩:=hI;exact fin s H h
theorem cU {C:Calls}{x:Nat}{e:E}{b:List S}{Q:E6}{σ:Type}(env:σ->D7) (I:Nat->σ->Heap->Prop) {a:Nat}{l:List V}(hl:∀ i s H,I i s H->H[a]? = some l)
  (step:∀ i s H v,l[i]? = some v->I i s H->∀ K:D7->Heap->Prop,(∀ s' H',I (i+1) s' H'->K (env s') H')->C6 C b ((env s).set x (some v)) (fO Q K) H)
  (fin:∀ s H,I l.length s H->Q .next (env s) H) (s:σ) {H:Heap}(he:Ev C (env s) H e (.ref a)) (h:I 0 s H):iC C (.forIn x e b) (env s) Q H :=
 he (fun v H₁=>match iterV v with | some it=>∃ n,aK (C6 C b) x it n 0 (env s) Q H₁ | none=>False) (Al4 env I hl step fin s h)
theorem Bn6 {C:Calls}{x:Nat}{e:E}{b:List S}{Q:E6}{ρ:D7}{H:Heap}(h:E2 C e ρ (fun v H₁=>match iterV v with | some it=>∃ n,aK (C6 C b) x it n 0 ρ Q H₁ | none=>False) H):iC C (.forIn x e b) ρ Q H:=h
theorem J2 {C:Calls}{ρ:D7}{H H1:Heap}{R:E6}{ss:List S}{o e:E}{a:Nat}{l:List V}{v:V}(ho:Ev C ρ H o (.ref a)) (he:∀ Q:C2,Q v H1->E2 C e ρ Q H) (ha:H1[a]? = some l) (hl:l.length<I3) (k:C6 C ss ρ R (H1.set a (l++[v]))):C6 C (.expr (.append o e)::ss) ρ R H:=ho _ (he _ (dM (Q:=fun zz H₁=>C6 C ss ρ R H₁) ha hl k))
theorem Ab9 {C:Calls}{ρ:D7}{H:Heap}{R:E6}{ss:List S}{o:E}{f:String}{es:List E}{vs:List V}{a:Nat}(ho:Ev C ρ H o (.ref a)) (h:Evs C ρ H es vs) (k:C f vs (fun v H₁=>hea (aC (.ref a) v H₁) (fun zz H₂=>C6 C ss ρ R H₂)) H):C6 C (.expr (.append o (.call f es))::ss) ρ R H:=ho _ (h _ k)
theorem Cm0 {C:Calls}{ρ:D7}{H:Heap}{R:E6}{ss:List S}{x:Nat}{o:E}{a:Nat}{l:List V}{v:V}(ho:Ev C ρ H o (.ref a)) (ha:H[a]? = some (l++[v])) (k:C6 C ss (ρ.set x (some v)) R (H.set a l)):C6 C (.assign x (.pop o)::ss) ρ R H:=ho _ (Cm1 (Q:=fun v H₁=>C6 C ss (ρ.set x (some v)) R H₁) ha k)
theorem H9 {C:Calls}{ρ:D7}{H:Heap}{e:E}{es:List E}{v:V}{Q:List V->Heap->Prop}(h:Ev C ρ H e v) (k:S2 C es ρ (fun vs H₂=>Q (v::vs) H₂) H):S2 C (e::es) ρ Q H:=h _ k
theorem aB {C:Calls}{ρ:D7}{H:Heap}{f:String}{fs es:List E}{vs:List V}{Q:List V->Heap->Prop}(h:Evs C ρ H fs vs) (k:C f vs (fun v H₁=>S2 C es ρ (fun ws H₂=>Q (v::ws) H₂) H₁) H):S2 C (.call f fs::es) ρ Q H:=h _ k
theorem Ab8 {C:Calls}{ρ:D7}{H:Heap}{Q:List V->Heap->Prop}(k:Q [.ref H.length] (H++[[]])):S2 C [.list []] ρ Q H:=k
theorem Bu3 {C:Calls}{ρ:D7}{H:Heap}{R:E6}{ss:List S}{o i e:E}{a k:Nat}{z:Int}{l:List V}{v:V}(he:Ev C ρ H e v) (ho:Ev C ρ H o (.ref a)) (hi:Ev C ρ H i (.int z)) (ha:H[a]? = some l) (hk:K6 z l.length=some k) (q:C6 C ss ρ R (H.set a (l.set k v))):C6 C (.setIdx o i e::ss) ρ R H:=he _ (ho _ (hi _ (Cy6 (Q:=fun zz H₁=>C6 C ss ρ R H₁) ha hk q)))
theorem I0 {C:Calls}{ρ:D7}{H H1:Heap}{R:E6}{ss:List S}{x:Nat}{e:E}{v:V}(h:∀ Q:C2,Q v H1->E2 C e ρ Q H) (k:C6 C ss (ρ.set x (some v)) R H1):C6 C (.assign x e::ss) ρ R H:=h _ k
theorem L0 {H:Heap}{a i:Nat}{l:List V}{c:V}(ha:H[a]? = some l) (hc:l[i]? = some c):X1 (.ref a) (.int i) H=some c:=by
 show (H[a]?).bind _=_
 rw [ha]
 show (K6 (i:Int) l.length).bind _=_
 rw [X5 (List.getElem?_eq_some_iff.mp hc).1];exact hc
theorem gP {H:Heap}{a:Nat}{l:List V}{c:V}(ha:H[a]? = some (l++[c])):X1 (.ref a) (.int (-1)) H=some c:=by
 show (H[a]?).bind _=_
 rw [ha]
 show (K6 (-1) (l++[c]).length).bind _=_
 rw [A6,List.length_singleton,rC]
 show (l++[c])[l.length]? = _
 rw [List.getElem?_append_right (A4 _),Nat.sub_self];rfl
theorem cI {H:Heap}{s:List Nat}{i c:Nat}(hc:s[i]? = some c):X1 (.str s) (.int i) H=some (.str [c]):=by
 show (K6 (i:Int) s.length).bind _=_
 rw [X5 (List.getElem?_eq_some_iff.mp hc).1]
 show (s[i]?).map _=_
 rw [hc];rfl
theorem dF {C:Calls}{x:Nat}{e:E}{b:List S}{Q:E6}{σ:Type}(env:σ->D7) (I:Nat->σ->Heap->Prop) {n:Nat}(hn:n<4611686018427387904)
  (step:∀ i s H,i<n->I i s H->∀ K:D7->Heap->Prop,(∀ s' H',I (i+1) s' H'->K (env s') H')->C6 C b ((env s).set x (some (.int (i:Int)))) (fO Q K) H)
  (fin:∀ s H,I n s H->Q .next (env s) H) (s:σ) {H:Heap}(he:Ev C (env s) H e (.int (n:Int))) (h:I 0 s H):iC C (.forR x e b) (env s) Q H:=by
 refine he (fun v H₁=>match rangeV v with | some it=>∃ m,aK (C6 C b) x it m 0 (env s) Q H₁ | none=>False) ?_
 show match rangeV (.int (n:Int)) with | some it=>∃ m,aK (C6 C b) x it m 0 (env s) Q H | none=>False
 rw [lP hn]
 refine Ay7 (fun i ρ H=>∃ s,ρ=env s/\I i s H) (fun i ρ H v hv hI K hK=>?_) (fun ρ H hI=>?_) ⟨s,rfl,h⟩
 ·obtain ⟨s,rfl,h⟩:=hI
  have hi:i<n:=by
   have:=(List.getElem?_eq_some_iff.mp hv).1
   simpa using this
  have e:v=.int (i:Int):=by
   simp [hi] at hv
   exact hv.symm
  subst e
  exact step i s H hi h K fun s' H' h'=>hK _ _ ⟨s',rfl,h'⟩
 ·obtain ⟨s,rfl,h⟩:=hI
  exact fin s H (by simpa using h)
theorem Cg9 {C:Calls}{ρ:D7}{H:Heap}{o a:E}{s:List Nat}{c:Nat}(ho:Ev C ρ H o (.str s)) (ha:Ev C ρ H a (.str [c])) (hl:s.length<I3) (Q:C2) (k:Q (.ref H.length) (H++[(splitAt c s).map .str])):E2 C (.split o a) ρ Q H:=ho _ (ha _ ⟨hl,k⟩)
theorem Cs0 {C:Calls}{x:Nat}{e:E}{b:List S}{Q:E6}{σ:Type}(env:σ->D7) (I:Nat->σ->Heap->Prop) {t:List Nat}
  (step:∀ i s H c,t[i]? = some c->I i s H->∀ K:D7->Heap->Prop,(∀ s' H',I (i+1) s' H'->K (env s') H')->C6 C b ((env s).set x (some (.str [c]))) (fO Q K) H)
  (fin:∀ s H,I t.length s H->Q .next (env s) H) (s:σ) {H:Heap}(he:Ev C (env s) H e (.str t)) (h:I 0 s H):iC C (.forIn x e b) (env s) Q H:=by
 refine he (fun v H₁=>match iterV v with | some it=>∃ n,aK (C6 C b) x it n 0 (env s) Q H₁ | none=>False) ?_
 refine Ay7 (vs:=t.map fun c=>V.str [c]) (fun i ρ H=>∃ s,ρ=env s/\I i s H) (fun i ρ H v hv hI K hK=>?_) (fun ρ H hI=>?_) ⟨s,rfl,h⟩
 ·obtain ⟨s,rfl,h⟩:=hI
  rw [C0] at hv
  obtain ⟨c,hc,rfl⟩:=Option.map_eq_some_iff.mp hv
  exact step i s H c hc h K fun s' H' h'=>hK _ _ ⟨s',rfl,h'⟩
 ·obtain ⟨s,rfl,h⟩:=hI
  rw [B6] at h
  exact fin s H h
theorem Ch0 {C:Calls}{elt e:E}{x n:Nat}{ρ:D7}{H:Heap}(f:Nat->V) (he:Ev C ρ H e (.int (n:Nat))) (hn:n<=I3) (step:∀ i,i<n->Ev C (ρ.set x (some (.int (i:Nat)))) H elt (f i)) (Q:C2) (fin:Q (.ref H.length) (H++[(List.range n).map f])):E2 C (.compR elt x e []) ρ Q H:=by
 refine he (fun v H₁=>match rangeV v with | some it=>∃ m,S9 (P6 C []) (E2 C elt) x ρ it m 0 [] (fun vs H₂=>Q (.ref H₂.length) (H₂++[vs])) H₁ | none=>False) ?_
 show match rangeV (.int (n:Int)) with | some it=>_ | none=>False
 rw [lP (A9 hn Bn5)]
 refine qH ((List.range n).map fun k:Nat=>V.int (k:Int)) (fun v=>match v with | .int i=>f i.toNat | _=>.none) (fun i=>rfl) (by rw [B6,List.length_range];exact hn) (fun v hv K hK=>?_) ?_
 ·obtain ⟨i,hi,rfl⟩:=List.mem_map.mp hv
  exact step i (List.mem_range.mp hi) K hK
 ·rw [List.map_map];exact fin
theorem uK {C:Calls}{elt:E}{x a:Nat}{ρ:D7}{l:List V}{Q:List V->Heap->Prop}(hn:l.length<=I3) (I:Nat->List V->Heap->Prop) (hl:∀ i acc G,I i acc G->G[a]? = some l)
  (step:∀ i acc G v,l[i]? = some v->acc.length=i->I i acc G->∀ K:C2,(∀ w G',I (i+1) (acc++[w]) G'->K w G')->E2 C elt (ρ.set x (some v)) K G)
  (fin:∀ acc G,acc.length=l.length->I l.length acc G->Q acc G):∀ (m i:Nat) (acc:List V) (H:Heap),l.length<m+i->i<=l.length->acc.length=i->I i acc H->S9 (P6 C []) (E2 C elt) x ρ (.lst a) m i acc Q H
 | 0,i,_,_,h,hi,_,_=>absurd h (Nat.not_lt_of_le (by rw [Nat.zero_add];exact hi))
 | m+1,i,acc,H,h,hi,hlen,hI=>by
  show (match (It.lst a).at H i with | none=>_ | some v=>_)
  have hat:(It.lst a).at H i=l[i]?:=by unfold It.at;simp only [hl i acc H hI]
  rw [hat]
  by_cases hlt:i<l.length
  ·rw [List.getElem?_eq_getElem hlt]
   exact step i acc H _ (List.getElem?_eq_getElem hlt) hlen hI _ fun w G' hI'=>⟨A8 (hlen▸hlt) hn,uK hn I hl step fin m (i+1) (acc++[w]) G' (by rw [Nat.add_right_comm] at h;exact h) hlt (by rw [A6,hlen];rfl) hI'⟩
  ·have e:i=l.length:=Nat.le_antisymm hi (Nat.le_of_not_lt hlt)
   subst e
   rw [List.getElem?_eq_none (A4 _)]
   exact fin acc H hlen hI
theorem wG {C:Calls}{elt e:E}{x a:Nat}{ρ:D7}{H:Heap}{l:List V}(he:Ev C ρ H e (.ref a)) (hn:l.length<=I3) (I:Nat->List V->Heap->Prop) (hl:∀ i acc G,I i acc G->G[a]? = some l)
  (step:∀ i acc G v,l[i]? = some v->acc.length=i->I i acc G->∀ K:C2,(∀ w G',I (i+1) (acc++[w]) G'->K w G')->E2 C elt (ρ.set x (some v)) K G) (h0:I 0 [] H)
  (Q:C2) (fin:∀ acc G,acc.length=l.length->I l.length acc G->Q (.ref G.length) (G++[acc])):E2 C (.comp elt x e []) ρ Q H :=
 he (fun v H₁=>match iterV v with | some it=>∃ n,S9 (P6 C []) (E2 C elt) x ρ it n 0 [] (fun vs H₂=>Q (.ref H₂.length) (H₂++[vs])) H₁ | none=>False) ⟨l.length+1,uK hn I hl step fin (l.length+1) 0 [] H (B1 _) (B0 _) rfl h0⟩
theorem Cy7 {C:Calls}{elt e:E}{x a:Nat}{ρ:D7}{H:Heap}{l:List V}(f:V->V) (he:Ev C ρ H e (.ref a)) (ha:H[a]? = some l) (hn:l.length<=I3) (step:∀ v∈l,Ev C (ρ.set x (some v)) H elt (f v))
  (Q:C2) (fin:Q (.ref H.length) (H++[l.map f])):E2 C (.comp elt x e []) ρ Q H :=
 wG he hn (fun i acc G=>G=H/\acc=(l.take i).map f) (fun i acc G h=>h.1▸ha) (fun i acc G v hv zz hI K hK=>by
  obtain ⟨rfl,rfl⟩:=hI
  exact step v (B9 hv) K (hK _ _ ⟨rfl,by rw [List.take_add_one,hv,List.map_append];rfl⟩)) ⟨rfl,rfl⟩ Q fun acc G zz hI=>by
  obtain ⟨rfl,rfl⟩:=hI
  rw [List.take_length];exact fin
noncomputable def W5 (C:Calls) (ρ:D7) (H:Heap) (e:E) (v:V) (Φ:Heap->Prop):Prop:=∀ Q:C2,(∀ G,Φ G->Q v G)->E2 C e ρ Q H
section
variable {C:Calls}{ρ:D7}{H:Heap}{R:E6}{ss:List S}{Φ Ψ:Heap->Prop}
theorem kL {e:E}{v:V}(h:Ev C ρ H e v):W5 C ρ H e v (fun G=>G=H):=fun zz k=>h _ (k H rfl)
theorem zA {e:E}{v:V}(h:W5 C ρ H e v Φ) (k:∀ G,Φ G->Ψ G):W5 C ρ H e v Ψ:=fun Q q=>h Q fun G g=>q G (k G g)
theorem V2 {f:String}{es:List E}{vs:List V}{v:V}(h:Evs C ρ H es vs) (k:∀ Q:C2,(∀ G,Φ G->Q v G)->C f vs Q H):W5 C ρ H (.call f es) v Φ:=fun Q q=>h _ (k Q q)
theorem mF {e:E}{t:Bool}(h:W5 C ρ H e (.bool t) Φ):W5 C ρ H (.not e) (.bool (!t)) Φ:=fun Q q=>h _ fun G g=>q G g
theorem zH {e f:E}{es:List E}{v:V}(h1:W5 C ρ H e (.bool false) Φ) (h2:∀ G,Φ G->W5 C ρ G (.or (f::es)) v Ψ):W5 C ρ H (.or (e::f::es)) v Ψ:=fun Q k=>h1 _ fun G g=>h2 G g Q k
theorem Au2 {e:E}{v:V}(h1:W5 C ρ H e v Φ):W5 C ρ H (.or [e]) v Φ:=h1
theorem pP {e f:E}{es:List E}{v:V}(h1:W5 C ρ H e (.bool true) Φ) (h2:∀ G,Φ G->W5 C ρ G (.and (f::es)) v Ψ):W5 C ρ H (.and (e::f::es)) v Ψ:=fun Q k=>h1 _ fun G g=>h2 G g Q k
theorem pQ {e:E}{v:V}(h1:W5 C ρ H e v Φ):W5 C ρ H (.and [e]) v Φ:=h1
theorem h_b {e:E}{v v':Bool}(h:W5 C ρ H e (.bool v) Φ) (q:v=v'):W5 C ρ H e (.bool v') Φ:=q▸h
theorem S1 {c:E}{t:List S}(hc:W5 C ρ H c (.bool false) Φ) (k:∀ G,Φ G->C6 C ss ρ R G):C6 C (.ite c t []::ss) ρ R H:=hc _ fun G g=>k G g
theorem V8 {c:E}{t f:List S}(hc:W5 C ρ H c (.bool true) Φ) (k:∀ G,Φ G->C6 C t ρ (M6 C ss R) G):C6 C (.ite c t f::ss) ρ R H:=hc _ fun G g=>k G g
theorem W7 {e:E}{v:V}(h:W5 C ρ H e v Φ) (k:∀ G,Φ G->R (.ret v) ρ G):C6 C (.ret e::ss) ρ R H:=h _ fun G g=>k G g
theorem Bf7 {x:Nat}{e:E}{v:V}(h:W5 C ρ H e v Φ) (k:∀ G,Φ G->C6 C ss (ρ.set x (some v)) R G):C6 C (.assign x e::ss) ρ R H:=h _ fun G g=>k G g
theorem Bj9 {o:Cmp}{l r:E}{a b:V}{t:Bool}(hl:W5 C ρ H l a Φ) (hr:∀ G,Φ G->W5 C ρ G r b Ψ) (h:∀ G,Ψ G->S3 o a b G=some t):W5 C ρ H (.cmp o l r) (.bool t) Ψ:=fun Q k=>hl _ fun G g=>hr G g _ fun G' g'=>by
 show boo (S3 o a b G') (fun b H=>Q (.bool b) H) G'
 rw [h G' g'];exact k G' g'
theorem Ay6:W5 C ρ H (.list []) (.ref H.length) (fun G=>G=H++[[]]):=fun zz k=>k _ rfl
end
end Mini
set_option genSizeOf false
set_option linter.unusedVariables false
namespace L09
open Mini
inductive A where
 | n
 | b (t:Bool)
 | i (z:Int)
 | s (w:List Nat)
noncomputable def aV:A->V
 | .n=>.none
 | .b t=>.bool t
 | .i z=>.int z
 | .s w=>.str w
inductive X where
 | at (a:A)
 | tup (xs:List X)
 | lst (xs:List X)
structure Bd (lo hi a p q:Nat):Prop where
 la:lo<=a
 ah:a<hi
 lp:lo<=p
 qh:q<=hi
theorem Bd.mono {lo hi a p q lo' hi':Nat}(h:Bd lo hi a p q) (h1:lo'<=lo) (h2:hi<=hi'):Bd lo' hi' a p q :=
 ⟨A3 h1 h.la,A8 h.ah h2,A3 h1 h.lp,A3 h.qh h2⟩
mutual
noncomputable def I1 (H:Heap):X->Nat->Nat->V->Prop
 | .at a,_,_,v=>v=aV a
 | .tup xs,lo,hi,v=>∃ vs,v=.tup vs/\E8 H xs lo hi vs
 | .lst xs,lo,hi,v=>∃ a vs p q,v=.ref a/\Bd lo hi a p q/\H[a]? = some vs/\E8 H xs p q vs
noncomputable def E8 (H:Heap):List X->Nat->Nat->List V->Prop
 | [],lo,hi,l=>lo<=hi/\l=[]
 | x::xs,lo,hi,l=>∃ v r,l=v::r/\I1 H x lo hi v/\E8 H xs lo hi r
end
noncomputable def T3 (H G:Heap) (lo hi:Nat):Prop:=∀ x,lo<=x->x<hi->G[x]? = H[x]?
theorem T3.sub {H G:Heap}{lo hi lo' hi':Nat}(h:T3 H G lo hi) (h1:lo<=lo') (h2:hi'<=hi):T3 H G lo' hi':=fun x a b=>h x (A3 h1 a) (A8 b h2)
theorem T3.refl {H:Heap}{lo hi:Nat}:T3 H H lo hi:=fun zz zz zz=>rfl
theorem T3.trans {A B C:Heap}{lo hi:Nat}(h:T3 A B lo hi) (k:T3 B C lo hi):T3 A C lo hi:=fun x a b=>(k x a b).trans (h x a b)
theorem E8.le {H:Heap}:∀ {xs:List X}{lo hi:Nat}{l:List V},E8 H xs lo hi l->lo<=hi
 | [],_,_,_,h=>h.1
 | _::xs,_,_,_,h=>by
  obtain ⟨v,r,_,_,h2⟩:=h
  exact E8.le (xs:=xs) h2
mutual
theorem I1.mono {H G:Heap}:∀ (x:X) (lo hi lo' hi':Nat) (v:V),T3 H G lo hi->lo'<=lo->hi<=hi'->I1 H x lo hi v->I1 G x lo' hi' v
 | .at _,_,_,_,_,_,_,_,_,h=>h
 | .tup xs,lo,hi,lo',hi',_,hf,h1,h2,h=>by
  obtain ⟨vs,e,h⟩:=h
  exact ⟨vs,e,E8.mono xs lo hi lo' hi' vs hf h1 h2 h⟩
 | .lst xs,lo,hi,lo',hi',_,hf,h1,h2,h=>by
  obtain ⟨a,l,p,q,e,hb,hl,hr⟩:=h
  exact ⟨a,l,p,q,e,hb.mono h1 h2,(hf a hb.la hb.ah).trans hl,E8.mono xs p q p q l (hf.sub hb.lp hb.qh) (A4 _) (A4 _) hr⟩
theorem E8.mono {H G:Heap}:∀ (xs:List X) (lo hi lo' hi':Nat) (l:List V),T3 H G lo hi->lo'<=lo->hi<=hi'->E8 H xs lo hi l->E8 G xs lo' hi' l
 | [],_,_,_,_,_,_,h1,h2,h=>⟨A3 h1 (A3 h.1 h2),h.2⟩
 | x::xs,lo,hi,lo',hi',_,hf,h1,h2,h=>by
  obtain ⟨v,r,e,g1,g2⟩:=h
  exact ⟨v,r,e,I1.mono x lo hi lo' hi' v hf h1 h2 g1,E8.mono xs lo hi lo' hi' r hf h1 h2 g2⟩
end
theorem I1.to {H G:Heap}{x:X}{lo hi:Nat}{v:V}(h:I1 H x lo hi v) (k:T3 H G lo hi):I1 G x lo hi v:=I1.mono _ _ _ _ _ _ k (A4 _) (A4 _) h
theorem E8.to {H G:Heap}{x:List X}{lo hi:Nat}{v:List V}(h:E8 H x lo hi v) (k:T3 H G lo hi):E8 G x lo hi v:=E8.mono _ _ _ _ _ _ k (A4 _) (A4 _) h
theorem E8.wide {H:Heap}{x:List X}{lo hi lo' hi':Nat}{v:List V}(h:E8 H x lo hi v) (h1:lo'<=lo) (h2:hi<=hi'):E8 H x lo' hi' v:=E8.mono _ _ _ _ _ _ .refl h1 h2 h
theorem I1.wide {H:Heap}{x:X}{lo hi lo' hi':Nat}{v:V}(h:I1 H x lo hi v) (h1:lo'<=lo) (h2:hi<=hi'):I1 H x lo' hi' v:=I1.mono _ _ _ _ _ _ .refl h1 h2 h
theorem E8.nil {H:Heap}{lo hi:Nat}(h:lo<=hi):E8 H [] lo hi []:=⟨h,rfl⟩
theorem E8.one {H:Heap}{x:X}{lo hi:Nat}{v:V}(hh:lo<=hi) (h:I1 H x lo hi v):E8 H [x] lo hi [v]:=⟨v,[],rfl,h,hh,rfl⟩
theorem E8.app0 {H:Heap}{ys:List X}{m:List V}{lo hi:Nat}(hm:E8 H ys lo hi m):∀ {xs:List X}{l:List V},E8 H xs lo hi l->E8 H (xs++ys) lo hi (l++m)
 | [],l,h=>by
  obtain ⟨h1,rfl⟩:=h
  exact hm
 | x::xs,l,h=>by
  obtain ⟨v,r,rfl,g1,g2⟩:=h
  exact ⟨v,r++m,rfl,g1,E8.app0 hm g2⟩
theorem E8.app {H:Heap}{ys:List X}{m:List V}{mid hi:Nat}(hm:E8 H ys mid hi m) {xs:List X}{lo:Nat}{l:List V}(h:E8 H xs lo mid l):E8 H (xs++ys) lo hi (l++m):=E8.app0 (hm.wide h.le (A4 _)) (h.wide (A4 _) hm.le)
theorem E8.add {H:Heap}{x:X}{v:V}{mid hi:Nat}{xs:List X}{lo:Nat}{l:List V}(h:E8 H xs lo mid l) (hh:mid<=hi) (hm:I1 H x mid hi v):E8 H (xs++[x]) lo hi (l++[v]):=E8.app (.one hh hm) h
theorem E8.cut {H:Heap}{ys:List X}{hi:Nat}:∀ {xs:List X}{lo:Nat}{l:List V},E8 H (xs++ys) lo hi l->∃ a b,l=a++b/\E8 H xs lo hi a/\E8 H ys lo hi b
 | [],lo,l,h=>⟨[],l,rfl,⟨h.le,rfl⟩,h⟩
 | x::xs,lo,l,h=>by
  obtain ⟨v,r,rfl,g1,g2⟩:=h
  obtain ⟨a,b,rfl,h3,h4⟩:=E8.cut (xs:=xs) g2
  exact ⟨v::a,b,rfl,⟨v,a,rfl,g1,h3⟩,h4⟩
theorem E8.len {H:Heap}:∀ {xs:List X}{lo hi:Nat}{l:List V},E8 H xs lo hi l->l.length=xs.length
 | [],_,_,_,h=>by rw [h.2];rfl
 | _::xs,_,_,_,h=>by
  obtain ⟨v,r,rfl,_,h2⟩:=h
  exact congrArg (· + 1) (E8.len h2)
theorem pT {x m:Nat}(h:x+1<=m):∃ m',m=m'+1:=by
 cases m with
 | zero=>cases h
 | succ m=>exact ⟨m,rfl⟩
theorem xI {deep d:Nat}(hd:deep+d=9) (h:deep<9):∃ d',d=d'+1:=by
 cases d with
 | zero=>exact absurd hd (Nat.ne_of_lt h)
 | succ d=>exact ⟨d,rfl⟩
theorem pG {a d m:Nat}(h:a+(d+1)=m):a+1+d=m:=(Nat.add_right_comm a 1 d).trans h
theorem Cb5 {H:Heap}:∀ {xs:List X}{lo hi:Nat}{l:List V}{i:Nat}{v:V},E8 H xs lo hi l->l[i]? = some v->∃ x,xs[i]? = some x/\I1 H x lo hi v
 | [],_,_,_,i,v,h,hv=>by rw [h.2] at hv;cases hv
 | x::xs,_,_,_,i,v,h,hv=>by
  obtain ⟨u,r,rfl,h1,h2⟩:=h
  cases i with
  | zero=>cases hv;exact ⟨x,rfl,h1⟩
  | succ i=>exact Cb5 (xs:=xs) (i:=i) h2 hv
theorem Cb6 {α:Type}{f:α->X}{as:List α}{xs:List X}{H:Heap}{lo hi i:Nat}{l:List V}{v:V}(e:xs=as.map f) (h:E8 H xs lo hi l) (hv:l[i]? = some v):∃ a,as[i]? = some a/\I1 H (f a) lo hi v:=by
 obtain ⟨x,hx,hr⟩:=Cb5 h hv
 rw [e,C0] at hx
 obtain ⟨a,ha,rfl⟩:=Option.map_eq_some_iff.mp hx
 exact ⟨a,ha,hr⟩
theorem wM {α:Type}{f:α->X}{as:List α}{xs:List X}(e:xs=as.map f):xs.length=as.length:=by rw [e,B6]
theorem Am7 {α:Type}{f:α->X}{g:List α->List X}(e:∀ as,g as=as.map f) (as bs:List α):g (as++bs)=g as++g bs:=by rw [e,e,e,List.map_append]
noncomputable def J3 (w:Nat):Nat->X->Prop
 | 0,x=>match x with
  | .at _=>True
  | _=>False
 | m+1,x=>match x with
  | .at _=>True
  | .tup xs=>xs.length<=w/\∀ y∈xs,J3 w m y
  | .lst xs=>xs.length<=w/\∀ y∈xs,J3 w m y
theorem J3.at {w m:Nat}{a:A}:J3 w m (.at a):=by cases m<;>exact trivial
theorem J3.up {w w':Nat}(hw:w<=w'):∀ {m m':Nat}{x:X},m<=m'->J3 w m x->J3 w' m' x
 | 0,m',.at _,_,_=>J3.at
 | 0,m',.tup _,_,h=>h.elim
 | 0,m',.lst _,_,h=>h.elim
 | m+1,m',.at _,_,_=>J3.at
 | m+1,m'+1,.tup _,hm,h=>⟨A3 h.1 hw,fun y hy=>J3.up hw (Nat.le_of_succ_le_succ hm) (h.2 y hy)⟩
 | m+1,m'+1,.lst _,hm,h=>⟨A3 h.1 hw,fun y hy=>J3.up hw (Nat.le_of_succ_le_succ hm) (h.2 y hy)⟩
noncomputable def cO (p:Prop):Bool:=@decide p (Classical.propDecidable p)
theorem L8 {p:Prop}(h:p):cO p=true:=@decide_eq_true p (Classical.propDecidable p) h
theorem J0 {p:Prop}(h:¬p):cO p=false:=@decide_eq_false p (Classical.propDecidable p) h
theorem Av1 {p:Prop}{b:Bool}(h:b=true↔p):b=cO p:=by
 cases b with
 | true=>exact (L8 (h.mp rfl)).symm
 | false=>exact (J0 fun q=>nomatch h.mpr q).symm
theorem U1 {p q:Prop}(h:p↔q):cO p=cO q:=Av1 (by
 by_cases hp:p
 ·rw [L8 hp];exact ⟨fun zz=>h.mp hp,fun zz=>rfl⟩
 ·rw [J0 hp];exact ⟨fun k=>(nomatch k),fun k=>absurd (h.mpr k) hp⟩)
theorem Af7 {n lo hi:Nat}{a:A}{x:X}{v:V}{Q:C2}{H:Heap}(hx:I1 H x lo hi v) (h:Q (.bool (cO (x=.at a))) H):callN P (n+1) "_law_alike" [v,aV a] Q H:=by
 refine O9 ?_
 have no:∀ {x:X},Q (.bool (cO (x=.at a))) H->x≠.at a->Q (.bool false) H:=fun h q=>by rw [J0 q] at h;exact h
 have yes:∀ {b:Bool}{x:X},(b=true↔x=.at a)->Q (.bool (cO (x=.at a))) H->Q (.bool b) H:=fun q h=>by rw [<- Av1 q] at h;exact h
 have sE:∀ {C:Calls}{s w:List Nat}{x:Option V},Ev C [some (.str s),some (.str w),x] H (.cmp .eq (.var 0) (.var 1)) (.bool (s==w)):=fun zz h=>h
 have iE:∀ {C:Calls}{s w:Int}{x:Option V},Ev C [some (.int s),some (.int w),x] H (.cmp .eq (.var 0) (.var 1)) (.bool (s==w)):=fun zz h=>h
 cases a with
 | n =>
  refine C5 (fun zz h=>h) (E0 (Bi9 (fun zz h=>h)) ?_)
  cases x with
  | «at» a =>
   rw [show v=aV a from hx]
   cases a with
   | n=>exact yes ⟨fun zz=>rfl,fun zz=>rfl⟩ h
   | b t=>cases t<;>exact no h (fun q=>nomatch q)
   | i z=>exact no h (fun q=>nomatch q)
   | s w=>exact no h (fun q=>nomatch q)
  | tup xs=>obtain ⟨_,rfl,_⟩:=hx;exact no h (fun q=>nomatch q)
  | lst xs=>obtain ⟨_,_,_,_,rfl,_⟩:=hx;exact no h (fun q=>nomatch q)
 | b t =>
  cases t with
  | true =>
   refine C1 (fun zz h=>h) (C5 (fun zz h=>h) (E0 (Bi9 (fun zz h=>h)) ?_))
   cases x with
   | «at» a =>
    rw [show v=aV a from hx]
    cases a with
    | n=>exact no h (fun q=>nomatch q)
    | b t =>
     cases t with
     | true=>exact yes ⟨fun zz=>rfl,fun zz=>rfl⟩ h
     | false=>exact no h (fun q=>nomatch q)
    | i z=>exact no h (fun q=>nomatch q)
    | s w=>exact no h (fun q=>nomatch q)
   | tup xs=>obtain ⟨_,rfl,_⟩:=hx;exact no h (fun q=>nomatch q)
   | lst xs=>obtain ⟨_,_,_,_,rfl,_⟩:=hx;exact no h (fun q=>nomatch q)
  | false =>
   refine C1 (fun zz h=>h) (C1 (fun zz h=>h) (C5 (fun zz h=>h) (E0 (Bi9 (fun zz h=>h)) ?_)))
   cases x with
   | «at» a =>
    rw [show v=aV a from hx]
    cases a with
    | n=>exact no h (fun q=>nomatch q)
    | b t =>
     cases t with
     | true=>exact no h (fun q=>nomatch q)
     | false=>exact yes ⟨fun zz=>rfl,fun zz=>rfl⟩ h
    | i z=>exact no h (fun q=>nomatch q)
    | s w=>exact no h (fun q=>nomatch q)
   | tup xs=>obtain ⟨_,rfl,_⟩:=hx;exact no h (fun q=>nomatch q)
   | lst xs=>obtain ⟨_,_,_,_,rfl,_⟩:=hx;exact no h (fun q=>nomatch q)
 | s w =>
  refine C1 (fun zz h=>h) (C1 (fun zz h=>h) (C1 (fun zz h=>h) (C5 (fun zz h=>h) ?_)))
  cases x with
  | «at» a =>
   rw [show v=aV a from hx]
   cases a with
   | s u=>exact E0 (D1 (b:=true) (fun zz h=>h) fun zz=>H8 sE) (yes ⟨fun q=>by rw [eq_of_beq (show (u==w)=true from q)],fun q=>by cases q;exact beq_self_eq_true _⟩ h)
   | n=>exact E0 (D1 (b:=false) (b2:=false) (fun zz h=>h) fun q=>nomatch q) (no h (fun q=>nomatch q))
   | b t=>exact E0 (D1 (b:=false) (b2:=false) (fun zz h=>h) fun q=>nomatch q) (no h (fun q=>nomatch q))
   | i z=>exact E0 (D1 (b:=false) (b2:=false) (fun zz h=>h) fun q=>nomatch q) (no h (fun q=>nomatch q))
  | tup xs=>obtain ⟨_,rfl,_⟩:=hx;exact E0 (D1 (b:=false) (b2:=false) (fun zz h=>h) fun q=>nomatch q) (no h (fun q=>nomatch q))
  | lst xs=>obtain ⟨_,_,_,_,rfl,_⟩:=hx;exact E0 (D1 (b:=false) (b2:=false) (fun zz h=>h) fun q=>nomatch q) (no h (fun q=>nomatch q))
 | i w =>
  refine C1 (fun zz h=>h) (C1 (fun zz h=>h) (C1 (fun zz h=>h) (C1 (fun zz h=>h) (C5 (fun zz h=>h) ?_))))
  cases x with
  | «at» a =>
   rw [show v=aV a from hx]
   cases a with
   | i u=>exact E0 (D1 (b:=true) (fun zz h=>h) fun zz=>D1 (b:=true) (fun zz h=>h) fun zz=>H8 iE) (yes ⟨fun q=>by rw [eq_of_beq (show (u==w)=true from q)],fun q=>by cases q;exact beq_self_eq_true _⟩ h)
   | n=>exact E0 (D1 (b:=false) (b2:=false) (fun zz h=>h) fun q=>nomatch q) (no h (fun q=>nomatch q))
   | b t=>exact E0 (D1 (b:=true) (b2:=false) (fun zz h=>h) fun zz=>D1 (b:=false) (b2:=false) (fun zz h=>h) fun q=>nomatch q) (no h (fun q=>nomatch q))
   | s z=>exact E0 (D1 (b:=false) (b2:=false) (fun zz h=>h) fun q=>nomatch q) (no h (fun q=>nomatch q))
  | tup xs=>obtain ⟨_,rfl,_⟩:=hx;exact E0 (D1 (b:=false) (b2:=false) (fun zz h=>h) fun q=>nomatch q) (no h (fun q=>nomatch q))
  | lst xs=>obtain ⟨_,_,_,_,rfl,_⟩:=hx;exact E0 (D1 (b:=false) (b2:=false) (fun zz h=>h) fun q=>nomatch q) (no h (fun q=>nomatch q))
noncomputable def Pw {α:Type}(l r:List α) (n:Nat):Prop:=∀ i,i<n->l[i]? = r[i]?
theorem Cn4 {α:Type}{l r:List α}(h:l.length=r.length):Pw l r l.length↔l=r :=
 ⟨fun q=>List.ext_getElem? fun i=>by
  by_cases hi:i<l.length
  ·exact q i hi
  ·rw [List.getElem?_eq_none (Nat.not_lt.mp hi),List.getElem?_eq_none (h▸Nat.not_lt.mp hi)],fun q i zz=>by rw [q]⟩
theorem sL {n:Nat}{x y:V}{l l':List V}{xs ys:List X}{Q:C2}{H:Heap}(hl:l.length<4611686018427387904) (hll:l'.length=l.length) (hxl:xs.length=l.length)
  (hx:∀ (i:Nat) (c:V),l[i]? = some c->X1 x (.int i) H=some c) (hy:∀ (i:Nat) (c:V),l'[i]? = some c->X1 y (.int i) H=some c) (hlen:yZ y H=some (l.length:Int))
  (hi:∀ (i:Nat) (c c':V),l[i]? = some c->l'[i]? = some c'->∃ b:Bool,(b=true↔xs[i]? = ys[i]?)/\∀ K:C2,K (.bool b) H->callN P n "_law_alike" [c,c'] K H) (h:Q (.bool (cO (Pw xs ys xs.length))) H) :
  C6 (callN P n) (eF.drop 7) [some x,some y,none] (E1 Q) H:=by
 refine H5 (dF (σ:=Option V) (fun e=>[some x,some y,e]) (fun k zz G=>G=H/\Pw xs ys k) hl (fun i e G hlt hG K hK=>?_) (fun e G hG=>?_) none (P1 (fun zz h=>h) hlen) ⟨rfl,fun i q=>absurd q (Nat.not_lt_zero i)⟩)
 ·obtain ⟨rfl,hp⟩:=hG
  have hg:l[i]? = some l[i]:=List.getElem?_eq_getElem hlt
  have hg':l'[i]? = some (l'[i]'(hll.symm▸hlt)):=List.getElem?_eq_getElem _
  obtain ⟨b,hb,hc⟩:=hi i _ _ hg hg'
  have ev:Ev (callN P n) [some x,some y,some (.int i)] G (.not (.call "_law_alike" [.idx (.var 0) (.var 2),.idx (.var 1) (.var 2)])) (.bool (!b)):=tK (C8 (C4 (F9 (fun zz h=>h) (fun zz h=>h) (hx i _ hg)) (C4 (F9 (fun zz h=>h) (fun zz h=>h) (hy i _ hg')) J5)) hc)
  cases b with
  | false =>
   rw [J0 fun q=>(nomatch hb.mpr (q i (hxl▸hlt)))] at h
   exact C5 ev (E0 (fun zz h=>h) h)
  | true=>exact C1 ev (hK (some (.int i)) _ ⟨rfl,fun j hj=>(Nat.lt_succ_iff_lt_or_eq.mp hj).elim (hp j) fun e=>e▸hb.mp rfl⟩)
 ·obtain ⟨rfl,hp⟩:=hG
  rw [L8 (hxl▸hp)] at h
  exact h
theorem Ck1 {H:Heap}{w k:Nat}(hw:w<4611686018427387904):∀ (m:Nat) (x y:X) (v v':V) (lo hi lo' hi':Nat),J3 w m y->I1 H x lo hi v->I1 H y lo' hi' v'->∀ K:C2,K (.bool (cO (x=y))) H->callN P (k+m+1) "_law_alike" [v,v'] K H:=by
 intro m
 induction m with
 | zero =>
  intro x y v v' lo hi lo' hi' hf h h' K hK
  cases y with
  | «at» a=>rw [show v'=aV a from h'];exact Af7 h hK
  | tup xs=>exact hf.elim
  | lst xs=>exact hf.elim
 | succ m ih =>
  intro x y v v' lo hi lo' hi' hf h h' K hK
  have no:∀ {x:X},K (.bool (cO (x=y))) H->x≠y->K (.bool false) H:=fun h q=>by rw [J0 q] at h;exact h
  have go:∀ (xs ys:List X) (l l':List V) (p q p' q':Nat),(∀ y∈ys,J3 w m y)->E8 H xs p q l->E8 H ys p' q' l'->∀ (i:Nat) (c c':V),l[i]? = some c->l'[i]? = some c'->∃ b:Bool,(b=true↔xs[i]? = ys[i]?)/\∀ K:C2,K (.bool b) H->callN P (k+m+1) "_law_alike" [c,c'] K H:=fun xs ys l l' p q p' q' hf h h' i c c' hc hc'=>by
   obtain ⟨y,hy,hr⟩:=Cb5 h hc
   obtain ⟨z,hz,hr'⟩:=Cb5 h' hc'
   refine ⟨cO (y=z),?_,fun K hK=>ih y z c c' _ _ _ _ (hf z (B9 hz)) hr hr' K hK⟩
   rw [hy,hz]
   by_cases e:y=z
   ·exact ⟨fun zz=>congrArg some e,fun zz=>L8 e⟩
   ·exact ⟨fun q=>(nomatch (J0 e).symm.trans q),fun q=>absurd (Option.some.inj q) e⟩
  cases y with
  | «at» a=>rw [show v'=aV a from h'];exact Af7 h hK
  | tup ys =>
   obtain ⟨l',rfl,h'⟩:=h'
   cases x with
   | «at» a =>
    rw [show v=aV a from h]
    cases a<;>exact O9 (C1 (fun zz h=>h) (C1 (fun zz h=>h) (C1 (fun zz h=>h) (C1 (fun zz h=>h) (C1 (fun zz h=>h) (C5 (K3 (b:=false) (b2:=true) (fun zz h=>h) fun zz=>fun zz h=>h) (E0 (fun zz h=>h) (no hK (fun q=>nomatch q)))))))))
   | lst xs =>
    obtain ⟨_,_,_,_,rfl,_⟩:=h
    exact O9 (C1 (fun zz h=>h) (C1 (fun zz h=>h) (C1 (fun zz h=>h) (C1 (fun zz h=>h) (C1 (fun zz h=>h) (C5 (K3 (b:=false) (b2:=true) (fun zz h=>h) fun zz=>fun zz h=>h) (E0 (fun zz h=>h) (no hK (fun q=>nomatch q)))))))))
   | tup xs =>
    obtain ⟨l,rfl,h⟩:=h
    have e1:=h.len
    have e2:=h'.len
    have e0:∀ {C:Calls},Ev C [some (.tup l),some (.tup l'),none] H (.cmp .ne (.len (.var 0)) (.len (.var 1))) (.bool (!((l.length:Int)==l'.length))):=D9 (P1 (fun zz h=>h) Bn2) (P1 (fun zz h=>h) Bn2) Au1
    refine O9 (C1 (fun zz h=>h) (C1 (fun zz h=>h) (C1 (fun zz h=>h) (C1 (fun zz h=>h) (C1 (fun zz h=>h) (C1 (K3 (b:=false) (b2:=false) (fun zz h=>h) fun zz=>fun zz h=>h) ?_))))))
    by_cases el:l.length=l'.length
    ·refine C1 (G6 e0 (by rw [el];simp)) (sL (xs:=xs) (ys:=ys) (by rw [el,e2];exact A9 hf.1 hw) el.symm e1.symm (fun i c hc=>?_) (fun i c hc=>?_) (by rw [el];rfl) (go xs ys l l' _ _ _ _ hf.2 h h') ?_)
     ·show (K6 (i:Int) l.length).bind _=_
      rw [X5 (List.getElem?_eq_some_iff.mp hc).1];exact hc
     ·show (K6 (i:Int) l'.length).bind _=_
      rw [X5 (List.getElem?_eq_some_iff.mp hc).1];exact hc
     ·rw [U1 (Cn4 (e1.symm.trans (el.trans e2)))]
      rw [U1 (q:=xs=ys) ⟨fun q=>by cases q;rfl,fun q=>by rw [q]⟩] at hK
      exact hK
    ·exact C5 (G6 e0 (by simpa using fun q=>el (Int.ofNat.inj q))) (E0 (fun zz h=>h) (no hK fun q=>el (by cases q;exact e1.trans e2.symm)))
  | lst ys =>
   obtain ⟨a',l',_,_,rfl,_,ha',h'⟩:=h'
   cases x with
   | «at» a =>
    rw [show v=aV a from h]
    cases a<;>exact O9 (C1 (fun zz h=>h) (C1 (fun zz h=>h) (C1 (fun zz h=>h) (C1 (fun zz h=>h) (C1 (fun zz h=>h) (C5 (K3 (b:=true) (b2:=true) (fun zz h=>h) fun q=>nomatch q) (E0 (fun zz h=>h) (no hK (fun q=>nomatch q)))))))))
   | tup xs =>
    obtain ⟨_,rfl,_⟩:=h
    exact O9 (C1 (fun zz h=>h) (C1 (fun zz h=>h) (C1 (fun zz h=>h) (C1 (fun zz h=>h) (C1 (fun zz h=>h) (C5 (K3 (b:=true) (b2:=true) (fun zz h=>h) fun q=>nomatch q) (E0 (fun zz h=>h) (no hK (fun q=>nomatch q)))))))))
   | lst xs =>
    obtain ⟨a,l,_,_,rfl,_,ha,h⟩:=h
    have e1:=h.len
    have e2:=h'.len
    have e0:∀ {C:Calls},Ev C [some (.ref a),some (.ref a'),none] H (.cmp .ne (.len (.var 0)) (.len (.var 1))) (.bool (!((l.length:Int)==l'.length))):=D9 (P1 (fun zz h=>h) (N0 ha)) (P1 (fun zz h=>h) (N0 ha')) Au1
    refine O9 (C1 (fun zz h=>h) (C1 (fun zz h=>h) (C1 (fun zz h=>h) (C1 (fun zz h=>h) (C1 (fun zz h=>h) (C1 (K3 (b:=false) (b2:=false) (fun zz h=>h) fun zz=>fun zz h=>h) ?_))))))
    by_cases el:l.length=l'.length
    ·refine C1 (G6 e0 (by rw [el];simp)) (sL (xs:=xs) (ys:=ys) (by rw [el,e2];exact A9 hf.1 hw) el.symm e1.symm (fun i c hc=>L0 ha hc) (fun i c hc=>L0 ha' hc) (by rw [el];exact N0 ha') (go xs ys l l' _ _ _ _ hf.2 h h') ?_)
     rw [U1 (Cn4 (e1.symm.trans (el.trans e2)))]
     rw [U1 (q:=xs=ys) ⟨fun q=>by cases q;rfl,fun q=>by rw [q]⟩] at hK
     exact hK
    ·exact C5 (G6 e0 (by simpa using fun q=>el (Int.ofNat.inj q))) (E0 (fun zz h=>h) (no hK fun q=>el (by cases q;exact e1.trans e2.symm)))
theorem D3 {A:Heap}{x:List V}:(A++[x])[A.length]? = some x:=by
 rw [List.getElem?_append_right (A4 _),Nat.sub_self];rfl
theorem R6 {A:Heap}{i:Nat}{x y:List V}(h:A[i]? = some x):(A++[y])[i]? = some x:=by
 rw [List.getElem?_append_left (List.getElem?_eq_some_iff.mp h).1];exact h
theorem T3.one {H:Heap}{x:List V}{lo hi:Nat}(h:hi<=H.length):T3 H (H++[x]) lo hi:=fun y zz b=>List.getElem?_append_left (A8 b h)
theorem T3.set {H:Heap}{a:Nat}{l:List V}{lo hi:Nat}(h:a<lo∨hi<=a):T3 H (H.set a l) lo hi:=fun y h1 h2=>List.getElem?_set_ne (fun e=>by
 rcases h with h | h
 ·exact Nat.lt_irrefl _ (A8 (e▸h) h1)
 ·exact Nat.lt_irrefl _ (A8 h2 (e▸h)))
theorem tP {H:Heap}{a:Nat}{l l':List V}(h:H[a]? = some l):(H.set a l')[a]? = some l':=List.getElem?_set_self (List.getElem?_eq_some_iff.mp h).1
inductive T where
 | txt (s:List Nat)
 | kept (s:List Nat)
 | code (s:List Nat) (b:Bool)
 | span (c:Nat) (ts:List T) (b:Bool)
 | link (ts:List T) (g:Option (List Nat)) (b:Bool)
noncomputable def gA:Option (List Nat)->A
 | none=>.n
 | some s=>.s s
mutual
noncomputable def enc:T->X
 | .txt s=>.at (.s s)
 | .kept s=>.tup [.at (.s [107,101,112,116]),.at (.s s)]
 | .code s b=>.tup [.at (.s [99,111,100,101]),.at (.s s),.at (.b b)]
 | .span c ts b=>.tup [.at (.s [115,112,97,110]),.at (.s [c]),.lst (encs ts),.at (.b b)]
 | .link ts g b=>.tup [.at (.s [108,105,110,107]),.lst (encs ts),.at (gA g),.at (.b b)]
noncomputable def encs:List T->List X
 | []=>[]
 | t::ts=>enc t::encs ts
end
theorem dU:∀ ts:List T,encs ts=ts.map enc
 | []=>rfl
 | t::ts=>congrArg (enc t::·) (dU ts)
theorem qO (ts us:List T):encs (ts++us)=encs ts++encs us:=Am7 dU ts us
theorem Q6 (ts:List T):(encs ts).length=ts.length:=wM (dU ts)
noncomputable def Z7 (s:List Nat):V:=.tup [.str [107,101,112,116],.str s]
noncomputable def cQ (t:List Nat) (b:Bool):V:=.tup [.str [99,111,100,101],.str t,.bool b]
noncomputable def V1 (c a:Nat) (b:Bool):V:=.tup [.str [115,112,97,110],.str [c],.ref a,.bool b]
noncomputable def J6 (a:Nat) (g:Option (List Nat)) (b:Bool):V:=.tup [.str [108,105,110,107],.ref a,aV (gA g),.bool b]
theorem E8.cons {H:Heap}{x:X}{xs:List X}{lo m hi:Nat}{v:V}{l:List V}(h:lo<=m) (h1:I1 H x lo m v) (h2:E8 H xs m hi l):E8 H (x::xs) lo hi (v::l):=⟨v,l,rfl,h1.wide (A4 _) h2.le,h2.wide h (A4 _)⟩
theorem E8.atom {H:Heap}{a:A}{xs:List X}{lo hi:Nat}{l:List V}(h2:E8 H xs lo hi l):E8 H (.at a::xs) lo hi (aV a::l):=⟨aV a,l,rfl,rfl,h2⟩
theorem aX {H:Heap}{s:List Nat}{lo hi:Nat}(h:lo<=hi):I1 H (enc (.kept s)) lo hi (Z7 s):=⟨_,rfl,.atom (a:=.s _) (.atom (a:=.s _) (.nil h))⟩
theorem aY {H:Heap}{s:List Nat}{b:Bool}{lo hi:Nat}(h:lo<=hi):I1 H (enc (.code s b)) lo hi (cQ s b):=⟨_,rfl,.atom (a:=.s _) (.atom (a:=.s _) (.atom (a:=.b _) (.nil h)))⟩
theorem J7 {H:Heap}{xs:List X}{lo hi a p q:Nat}{l:List V}(hb:Bd lo hi a p q) (ha:H[a]? = some l) (hr:E8 H xs p q l):I1 H (.lst xs) lo hi (.ref a):=⟨a,l,p,q,rfl,hb,ha,hr⟩
theorem Bd.le {lo hi a p q:Nat}(h:Bd lo hi a p q):lo<=hi:=A3 h.la (B5 h.ah)
theorem jH {H:Heap}{c:Nat}{ts:List T}{b:Bool}{lo hi a p q:Nat}{l:List V}(hb:Bd lo hi a p q) (ha:H[a]? = some l) (hr:E8 H (encs ts) p q l):I1 H (enc (.span c ts b)) lo hi (V1 c a b) :=
 ⟨_,rfl,.atom (a:=.s _) (.atom (a:=.s _) (.cons hb.le (J7 hb ha hr) (.atom (a:=.b _) (.nil (A4 _)))))⟩
theorem dP {H:Heap}{ts:List T}{g:Option (List Nat)}{b:Bool}{lo hi a p q:Nat}{l:List V}(hb:Bd lo hi a p q) (ha:H[a]? = some l) (hr:E8 H (encs ts) p q l):I1 H (enc (.link ts g b)) lo hi (J6 a g b) :=
 ⟨_,rfl,.atom (a:=.s _) (.cons hb.le (J7 hb ha hr) (.atom (a:=gA g) (.atom (a:=.b _) (.nil (A4 _)))))⟩
theorem E8.addT {H:Heap}{t:T}{v:V}{mid hi:Nat}{ts:List T}{lo:Nat}{l:List V}(h:E8 H (encs ts) lo mid l) (hh:mid<=hi) (hm:I1 H (enc t) mid hi v):E8 H (encs (ts++[t])) lo hi (l++[v]):=by
 rw [qO];exact h.add hh hm
abbrev T4:=List (Option Nat×List T)
noncomputable def nx (row:List Nat) (k:Nat):List Nat:=(row.drop (k+1)).take 1
noncomputable def sT (row:List Nat) (k c:Nat):Bool:=c==91||([42,95,126].contains c&&nx row k==[40])
noncomputable def R3 (row:List Nat) (k:Nat):T×Nat:=match idx? 96 (row.drop (k+1)) with
 | some j=>(.code ((row.drop (k+1)).take j) true,k+1+j+1)
 | none=>(.code (row.drop (k+1)) false,row.length)
noncomputable def M5 (row:List Nat) (k:Nat) (ts:List T):T×Nat:=if nx row k=[40] then (match idx? 41 (row.drop (k+2)) with
 | some j=>(.link ts (some ((row.drop (k+2)).take j)) true,k+2+j+1)
 | none=>(.link ts (some (row.drop (k+2))) false,row.length)) else (.link ts none true,k+1)
noncomputable def M4 (ts:List T) (c:Nat):List T:=match ts.getLast? with
 | some (.txt s)=>ts.dropLast++[.txt (s++[c])]
 | _=>ts++[.txt [c]]
noncomputable def wQ (kd:Option Nat) (ts:List T):T:=match kd with
 | some c=>.span c ts false
 | none=>.link ts none false
noncomputable def M0:List T->T4->List T
 | cur,[]=>cur
 | cur,(kd,p)::ctx=>M0 (p++[wQ kd cur]) ctx
noncomputable def wN:T4->Bool
 | (some _,_)::_=>true
 | _=>false
noncomputable def oS:T4->Bool
 | (none,_)::_=>true
 | _=>false
inductive J4 (row:List Nat):Nat->List T->T4->List T->Prop
 | done {k:Nat}{cur:List T}{ctx:T4}:row.length<=k->J4 row k cur ctx (M0 cur ctx)
 | kept {k:Nat}{cur r:List T}{ctx:T4}:row[k]? = some 92->J4 row (k+2) (cur++[.kept (nx row k)]) ctx r->J4 row k cur ctx r
 | code {k:Nat}{cur r:List T}{ctx:T4}:row[k]? = some 96->J4 row (R3 row k).2 (cur++[(R3 row k).1]) ctx r->J4 row k cur ctx r
 | label {k:Nat}{cur r:List T}{ctx:T4}:row[k]? = some 91->ctx.length<12->J4 row (k+1) [] ((none,cur)::ctx) r->J4 row k cur ctx r
 | span {k c:Nat}{cur r:List T}{ctx:T4}:row[k]? = some c->[42,95,126].contains c=true->nx row k=[40]->ctx.length<12->J4 row (k+2) [] ((some c,cur)::ctx) r->J4 row k cur ctx r
 | shutS {k c:Nat}{cur p r:List T}{ctx:T4}:row[k]? = some 41->J4 row (k+1) (p++[.span c cur true]) ctx r->J4 row k cur ((some c,p)::ctx) r
 | shutL {k:Nat}{cur p r:List T}{ctx:T4}:row[k]? = some 93->J4 row (M5 row k cur).2 (p++[(M5 row k cur).1]) ctx r->J4 row k cur ((none,p)::ctx) r
 | plain {k c:Nat}{cur r:List T}{ctx:T4}:row[k]? = some c->c≠92->c≠96->(ctx.length<12->sT row k c=false)->(c=41->wN ctx=false)->(c=93->oS ctx=false) ->
   J4 row (k+1) (M4 cur c) ctx r->J4 row k cur ctx r
noncomputable def kn:Option Nat->List Nat
 | some _=>[115,112,97,110]
 | none=>[108,97,98,101,108]
noncomputable def ks:Option Nat->List Nat
 | some c=>[c]
 | none=>[]
noncomputable def frV (kd:Option Nat) (a:Nat):List V:=[.str (kn kd),.str (ks kd),.ref a]
noncomputable def At (H:Heap) (cur:List T) (a hi:Nat):Prop:=∃ l,H[a]? = some l/\E8 H (encs cur) (a+2) hi l
noncomputable def Lv (H:Heap) (A0:Nat):Nat->List Nat->List T->T4->Prop
 | hi,as,cur,[]=>as=[]/\At H cur A0 hi
 | hi,as,cur,(kd,p)::ctx=>∃ a as',as=a::as'/\A0+2<=a/\H[a+1]? = some (frV kd a)/\At H cur a hi/\Lv H A0 a as' p ctx
noncomputable def fK (A0:Nat):List Nat->Nat
 | []=>A0
 | a::_=>a
theorem At.le {H:Heap}{cur:List T}{a hi:Nat}(h:At H cur a hi):a+2<=hi:=by
 obtain ⟨_,_,h⟩:=h;exact h.le
theorem At.to {H G:Heap}{cur:List T}{a hi:Nat}(h:At H cur a hi) (e:G[a]? = H[a]?) (k:T3 H G (a+2) hi):At G cur a hi:=by
 obtain ⟨l,h1,h2⟩:=h;exact ⟨l,e.trans h1,h2.to k⟩
theorem At.up {H:Heap}{cur:List T}{a hi hi':Nat}(h:At H cur a hi) (k:hi<=hi'):At H cur a hi':=by
 obtain ⟨l,h1,h2⟩:=h;exact ⟨l,h1,h2.wide (A4 _) k⟩
theorem Lv.to {H G:Heap}{A0:Nat}:∀ {ctx:T4}{hi:Nat}{as:List Nat}{cur:List T},Lv H A0 hi as cur ctx->G[A0]? = H[A0]?->T3 H G (A0+2) hi->Lv G A0 hi as cur ctx
 | [],hi,as,cur,h,e,k=>⟨h.1,h.2.to e k⟩
 | (kd,p)::ctx,hi,as,cur,h,e,k=>by
  obtain ⟨a,as',h1,h2,h3,h4,h5⟩:=h
  have hle:=h4.le
  exact ⟨a,as',h1,h2,(k _ (A3 h2 (B8 _)) hle).trans h3,h4.to (k _ h2 (Nat.lt_of_succ_lt hle)) (k.sub (A3 h2 (B4 _ _)) (A4 _)),h5.to e (k.sub (A4 _) (B5 (Nat.lt_of_succ_lt hle)))⟩
theorem Lv.up {H:Heap}{A0:Nat}{ctx:T4}{hi hi':Nat}{as:List Nat}{cur:List T}(h:Lv H A0 hi as cur ctx) (k:hi<=hi'):Lv H A0 hi' as cur ctx:=by
 cases ctx with
 | nil=>exact ⟨h.1,h.2.up k⟩
 | cons x ctx =>
  obtain ⟨a,as',h1,h2,h3,h4,h5⟩:=h
  exact ⟨a,as',h1,h2,h3,h4.up k,h5⟩
theorem Lv.head {H:Heap}{A0:Nat}{ctx:T4}{hi:Nat}{as:List Nat}{cur:List T}(h:Lv H A0 hi as cur ctx):At H cur (fK A0 as) hi/\(fK A0 as=A0∨A0+2<=fK A0 as):=by
 cases ctx with
 | nil=>obtain ⟨rfl,h1⟩:=h;exact ⟨h1,Or.inl rfl⟩
 | cons x ctx =>
  obtain ⟨a,as',rfl,h2,h3,h4,h5⟩:=h
  exact ⟨h4,Or.inr h2⟩
theorem Lv.lens {H:Heap}{A0:Nat}:∀ {ctx:T4}{hi:Nat}{as:List Nat}{cur:List T},Lv H A0 hi as cur ctx->as.length=ctx.length
 | [],hi,as,cur,h=>by rw [h.1];rfl
 | (kd,p)::ctx,hi,as,cur,h=>by
  obtain ⟨a,as',rfl,h2,h3,h4,h5⟩:=h
  exact congrArg (· + 1) h5.lens
noncomputable def bN (as:List Nat):List V:=as.reverse.map fun a=>.ref (a+1)
theorem Y6 {a:Nat}{as:List Nat}:bN (a::as)=bN as++[.ref (a+1)]:=by unfold bN;simp
theorem xL {as:List Nat}:(bN as).length=as.length:=by unfold bN;simp
structure mC (H0:Heap) (as:List Nat) (cur:List T) (ctx:T4) (H:Heap):Prop where
 len:H0.length+2<=H.length
 old:T3 H0 H 0 H0.length
 opn:H[H0.length+1]? = some (bN as)
 lv:Lv H H0.length H.length as cur ctx
theorem mC.at {H0 as cur ctx H}(h:mC H0 as cur ctx H):At H cur (fK H0.length as) H.length:=h.lv.head.1
theorem mC.upd {H0 as cur ctx H}{cur':List T}{l':List V}(h:mC H0 as cur ctx H) (hl:E8 H (encs cur') (fK H0.length as+2) H.length l'):mC H0 as cur' ctx (H.set (fK H0.length as) l'):=by
 have hh:=h.lv.head
 have hle:=hl.le
 have hA:H0.length<=fK H0.length as:=by
  rcases hh.2 with q | q
  ·rw [q];exact A4 _
  ·exact A3 (B4 _ 2) q
 have hget:(H.set (fK H0.length as) l')[fK H0.length as]? = some l':=List.getElem?_set_self (Nat.lt_of_succ_lt hle)
 have hat:At (H.set (fK H0.length as) l') cur' (fK H0.length as) H.length:=⟨l',hget,hl.to (T3.set (Or.inl (Nat.lt_add_of_pos_right (by decide))))⟩
 refine ⟨by rw [List.length_set];exact h.len,h.old.trans (T3.set (Or.inr hA)),?_,?_⟩
 ·have hne:fK H0.length as≠H0.length+1:=by
   rcases hh.2 with q | q
   ·rw [q];exact Nat.ne_of_lt (B1 _)
   ·exact Nat.ne_of_gt q
  rw [List.getElem?_set_ne hne];exact h.opn
 ·rw [List.length_set]
  have hlv:=h.lv
  cases ctx with
  | nil=>exact ⟨hlv.1,by obtain ⟨rfl,_⟩:=hlv;exact hat⟩
  | cons x ctx =>
   obtain ⟨a,as',rfl,h2,h3,h4,h5⟩:=hlv
   refine ⟨a,as',rfl,h2,?_,hat,h5.to ?_ (T3.set (Or.inr (A4 _)))⟩
   ·exact (List.getElem?_set_ne (Nat.ne_of_lt (B1 a))).trans h3
   ·exact List.getElem?_set_ne (Nat.ne_of_gt (Nat.lt_of_succ_lt h2))
theorem mC.push {H0 as cur ctx H}{kd:Option Nat}(h:mC H0 as cur ctx H):mC H0 (H.length::as) [] ((kd,cur)::ctx) ((H++[[]]++[frV kd H.length]).set (H0.length+1) (bN as++[V.ref (H.length+1)])):=by
 have hlen:=h.len
 have hl2:(H++[[]]++[frV kd H.length]).length=H.length+2:=by rw [A6,A6];rfl
 have hl1:(H++[[]]).length=H.length+1:=by rw [A6];rfl
 have e1:T3 H (H++[[]]++[frV kd H.length]) 0 H.length:=(T3.one (A4 _)).trans (T3.one (by rw [hl1];exact B8 _))
 have hlt:H0.length<H.length:=Nat.lt_of_succ_lt hlen
 refine ⟨by rw [List.length_set,hl2];exact A3 hlen (B4 _ 2),(h.old.trans (e1.sub (A4 _) (B5 hlt))).trans (T3.set (Or.inr (B8 _))),?_,?_⟩
 ·rw [Y6];exact List.getElem?_set_self (by rw [hl2];exact A8 hlen (B4 _ 2))
 ·rw [List.length_set,hl2]
  refine ⟨H.length,as,rfl,hlen,?_,⟨[],?_,.nil (A4 _)⟩,h.lv.to ?_ ((e1.sub (B0 _) (A4 _)).trans (T3.set (Or.inl (B1 _))))⟩
  ·rw [List.getElem?_set_ne (show H0.length+1≠H.length+1 from Nat.ne_of_lt (Nat.succ_lt_succ hlt)),<- hl1];exact D3
  ·rw [List.getElem?_set_ne (Nat.ne_of_lt hlen)];exact R6 D3
  ·rw [List.getElem?_set_ne (Nat.ne_of_gt (B1 _))];exact e1 _ (B0 _) hlt
theorem mC.pop {H0 a as cur kd p ctx H}(h:mC H0 (a::as) cur ((kd,p)::ctx) H) :
  mC H0 as p ctx (H.set (H0.length+1) (bN as))/\(H.set (H0.length+1) (bN as))[a+1]? = some (frV kd a)/\Lv (H.set (H0.length+1) (bN as)) H0.length a as p ctx/\At (H.set (H0.length+1) (bN as)) cur a (H.set (H0.length+1) (bN as)).length:=by
 obtain ⟨_,_,e,h2,h3,h4,h5⟩:=h.lv
 cases e
 have hle:=h4.le
 have hA:(H.set (H0.length+1) (bN as))[H0.length]? = H[H0.length]?:=List.getElem?_set_ne (Nat.ne_of_gt (B1 _))
 have ev:∀ {hi:Nat},T3 H (H.set (H0.length+1) (bN as)) (H0.length+2) hi:=T3.set (Or.inl (B1 _))
 have hlv:=h5.to hA ev
 refine ⟨⟨by rw [List.length_set];exact h.len,h.old.trans (T3.set (Or.inr (B8 _))),List.getElem?_set_self h.len,by rw [List.length_set];exact hlv.up (B5 (Nat.lt_of_succ_lt hle))⟩,?_,hlv,?_⟩
 ·rw [List.getElem?_set_ne (Nat.ne_of_lt (Nat.lt_succ_of_lt h2))];exact h3
 ·rw [List.length_set];exact h4.to (List.getElem?_set_ne (Nat.ne_of_lt h2)) (ev.sub (A3 h2 (B4 _ 2)) (A4 _))
noncomputable def aZ (l:List V) (c:Nat):List V:=match l.getLast? with
 | some (.str s)=>l.dropLast++[.str (s++[c])]
 | _=>l++[.str [c]]
theorem Az3 (l:List V) (s:List Nat) (c:Nat):aZ (l++[.str s]) c=l++[.str (s++[c])]:=by
 unfold aZ;simp
theorem Az2 (l:List V) (t:List V) (c:Nat):aZ (l++[.tup t]) c=l++[.tup t]++[.str [c]]:=by
 unfold aZ;simp
noncomputable def Co6 (l:List V):Prop:=l=[]∨(∃ r s,l=r++[.str s]/\s.length+1<=I3)∨∃ r t,l=r++[.tup t]
theorem xJ {l:List V}{c:V}:decide ((0:Int)<((l++[c]).length:Nat))=true:=by
 rw [A6];exact decide_eq_true (Int.natCast_pos.mpr (Nat.succ_pos _))
theorem Bx5 {n a c:Nat}{l:List V}{Q:C2}{H:Heap}(ha:H[a]? = some l) (hl:l.length<I3) (he:Co6 l) (h:Q .none (H.set a (aZ l c))):callN P (n+1) "put_plain" [.ref a,.str [c]] Q H:=by
 refine yA ?_
 rcases he with rfl | ⟨r,s,rfl,hs⟩ | ⟨r,t,rfl⟩
 ·exact D6 (D1 (b:=false) (b2:=true) (D9 (P1 (fun zz h=>h) (N0 ha)) (fun zz h=>h) oZ) fun q=>nomatch q) (J2 (fun zz h=>h) (fun zz h=>h) ha hl h)
 ·rw [Az3] at h
  refine C5 (D1 (b:=true) (b2:=true) (G6 (D9 (P1 (fun zz h=>h) (N0 ha)) (fun zz h=>h) oZ) xJ) fun zz=>H8 (G6 (kQ (F9 (fun zz h=>h) (fun zz h=>h) (gP ha))) rfl))
   (Bu3 (I5 (F9 (fun zz h=>h) (fun zz h=>h) (gP ha)) (fun zz h=>h) (Y1 hs)) (fun zz h=>h) (fun zz h=>h) ha (by rw [A6];exact rC) ?_)
  rw [List.set_append_right _ _ (A4 _),Nat.sub_self]
  exact h
 ·rw [Az2] at h
  exact D6 (D1 (b:=true) (b2:=false) (G6 (D9 (P1 (fun zz h=>h) (N0 ha)) (fun zz h=>h) oZ) xJ) fun zz=>H8 (G6 (kQ (F9 (fun zz h=>h) (fun zz h=>h) (gP ha))) rfl)) (J2 (fun zz h=>h) (fun zz h=>h) ha hl h)
theorem kU (row:List Nat) (k:Nat):slice row (some ((k:Int)+1)) (some ((k:Int)+2))=nx row k:=by
 rw [V4 (by lia) (by lia)]
 show (row.drop (k+1)).take (k+2 - (k+1))=_
 rw [Nat.add_sub_add_left];rfl
section
variable {H0 H:Heap}{as:List Nat}{cur:List T}{ctx:T4}{n:Nat}
theorem xK {a:Nat}:decide ((0:Int)<((bN (a::as)).length:Nat))=true:=by rw [Y6];exact xJ
theorem oU (h:mC H0 as cur ctx H) (Q:C2) (k:Q (.ref (fK H0.length as)) H):callN P (n+1) "here_of" [.ref H0.length,.ref (H0.length+1)] Q H:=by
 refine As2 ?_
 have ho:=h.opn
 have hlv:=h.lv
 cases ctx with
 | nil =>
  obtain ⟨rfl,_⟩:=hlv
  exact C1 (D9 (P1 (fun zz h=>h) (N0 ho)) (fun zz h=>h) oZ) k
 | cons x ctx =>
  obtain ⟨kd,p⟩:=x
  obtain ⟨a,as',rfl,h2,h3,_⟩:=hlv
  exact C5 (G6 (D9 (P1 (fun zz h=>h) (N0 ho)) (fun zz h=>h) oZ) xK) (E0 (F9 (F9 (fun zz h=>h) (fun zz h=>h) (gP (Y6▸ho))) (fun zz h=>h) (L0 (i:=2) h3 rfl)) k)
theorem Az8 {w:List Nat}(h:mC H0 as cur ctx H) (Q:C2) (k:Q (.bool (match ctx with | []=>false | (kd,_)::_=>kn kd==w)) H):callN P (n+1) "last_is" [.ref (H0.length+1),.str w] Q H:=by
 refine Ar9 ?_
 have ho:=h.opn
 have hlv:=h.lv
 cases ctx with
 | nil =>
  obtain ⟨rfl,_⟩:=hlv
  exact E0 (D1 (b:=false) (b2:=true) (D9 (P1 (fun zz h=>h) (N0 ho)) (fun zz h=>h) oZ) fun q=>nomatch q) k
 | cons x ctx =>
  obtain ⟨kd,p⟩:=x
  obtain ⟨a,as',rfl,h2,h3,_⟩:=hlv
  exact E0 (D1 (b:=true) (G6 (D9 (P1 (fun zz h=>h) (N0 ho)) (fun zz h=>h) oZ) xK) fun zz=>H8 (D9 (F9 (F9 (fun zz h=>h) (fun zz h=>h) (gP (Y6▸ho))) (fun zz h=>h) (L0 (i:=0) h3 rfl)) (fun zz h=>h) S7)) k
theorem uR (h:mC H0 as cur ctx H) (Q:C2) (k:Q (.bool (wN ctx)) H):callN P (n+1) "last_is" [.ref (H0.length+1),.str [115,112,97,110]] Q H:=by
 refine Az8 h Q ?_
 match ctx with
 | []=>exact k
 | (some _,_)::_=>exact k
 | (none,_)::_=>exact k
theorem rR (h:mC H0 as cur ctx H) (Q:C2) (k:Q (.bool (oS ctx)) H):callN P (n+1) "last_is" [.ref (H0.length+1),.str [108,97,98,101,108]] Q H:=by
 refine Az8 h Q ?_
 match ctx with
 | []=>exact k
 | (some _,_)::_=>exact k
 | (none,_)::_=>exact k
theorem dQ {row:List Nat}{i c:Nat}(h:mC H0 as cur ctx H) (hg:row[i]? = some c) (Q:C2) (k:Q (.bool (decide (ctx.length<12)&&sT row i c)) H):callN P (n+1) "opens" [.str row,.int i,.ref (H0.length+1)] Q H:=by
 refine By7 ?_
 have hl:((bN as).length:Int)=(ctx.length:Nat):=by rw [xL,h.lv.lens]
 have hge:∀ {C:Calls},Ev C [some (V.str row),some (V.int i),some (V.ref (H0.length+1))] H (.cmp .ge (.len (.var 2)) (.glob "MOST_OPEN" 12)) (.bool (decide ((12:Int)<=(bN as).length))):=D9 (P1 (fun zz h=>h) (N0 h.opn)) (fun zz h=>h) Bj1
 rw [hl] at hge
 by_cases h12:ctx.length<12
 ·rw [decide_eq_true h12,Bool.true_and] at k
  refine C1 (G6 hge (decide_eq_false (fun q=>Nat.not_le_of_lt h12 (Int.ofNat_le.mp q)))) (E0 (K3 (G6 (D9 (F9 (fun zz h=>h) (fun zz h=>h) (cI hg)) (fun zz h=>h) S7) ?_) fun zz=>S6 (D1 (D9 (F9 (fun zz h=>h) (fun zz h=>h) (cI hg)) (fun zz h=>h) Cy4) fun zz=>H8 (G6 (fun zz h=>h) (congrArg (· == [40]) (kU row i))))) k)
  simp
 ·rw [decide_eq_false h12] at k
  exact C5 (G6 hge (decide_eq_true (Int.ofNat_le.mpr (Nat.le_of_not_lt h12)))) k
end
theorem Cj8 {n k:Nat}{row:List Nat}{Q:C2}{H:Heap}(h:∀ v,(∀ G lo hi,lo<=hi->I1 G (enc (R3 row k).1) lo hi v)->Q (.tup [v,.int (R3 row k).2]) H):callN P (n+1) "code_at" [.str row,.int k] Q H:=by
 refine As3 (C9 (Bl6 (fun zz h=>h) (fun zz h=>h) (fun zz h=>h) (Int.le_add_one (Int.natCast_nonneg k))) ?_)
 unfold R3 at h
 have e1:tL row 96 ((k:Int)+1).toNat=(match idx? 96 (row.drop (k+1)) with | some j=>((k+1+j:Nat):Int) | none=>-1):=rfl
 rw [e1]
 cases hi:idx? 96 (row.drop (k+1)) with
 | none =>
  rw [hi] at h
  have es:slice row (some ((k:Int)+1)) none=row.drop (k+1):=V6 (Int.le_add_one (Int.natCast_nonneg k))
  exact C5 (fun zz h=>h) (E0 (iB (fun zz h=>h) (congrArg (fun s=>V.tup [V.tup [V.str [99,111,100,101],V.str s,V.bool false],V.int row.length]) es)) (h (cQ (row.drop (k+1)) false) fun zz zz zz=>aY))
 | some j =>
  rw [hi] at h
  have es:slice row (some ((k:Int)+1)) (some ((k+1+j:Nat):Int))=(row.drop (k+1)).take j:=by
   rw [V4 (Int.le_add_one (Int.natCast_nonneg k)) (Int.natCast_nonneg _)]
   show (row.drop (k+1)).take (k+1+j - (k+1))=_
   rw [Nat.add_sub_cancel_left]
  exact C1 (G6 (D9 (fun zz h=>h) (fun zz h=>h) T5) (decide_eq_false (Int.not_lt.mpr (Int.natCast_nonneg _)))) (E0 (iB (fun zz h=>h) (congrArg (fun s=>V.tup [V.tup [V.str [99,111,100,101],V.str s,V.bool true],V.int ((k+1+j:Nat)+1)]) es)) (h (cQ ((row.drop (k+1)).take j) true) fun zz zz zz=>aY))
theorem Ci7 {n k a:Nat}{row:List Nat}{ts:List T}{Q:C2}{H:Heap}(h:∀ g b,(M5 row k ts).1=.link ts g b->Q (.tup [J6 a g b,.int (M5 row k ts).2]) H):callN P (n+1) "link_at" [.str row,.int k,.ref a] Q H:=by
 refine Ar5 ?_
 have p2:(0:Int)<=(k:Int)+2:=Int.natCast_nonneg (k+2)
 unfold M5 at h
 by_cases hn:nx row k=[40]
 ·rw [if_pos hn] at h
  refine C1 (G6 (fun zz h=>h) (by rw [kU,hn];rfl)) (C9 (Bl6 (fun zz h=>h) (fun zz h=>h) (fun zz h=>h) p2) ?_)
  have e1:tL row 41 ((k:Int)+2).toNat=(match idx? 41 (row.drop (k+2)) with | some j=>((k+2+j:Nat):Int) | none=>-1):=rfl
  rw [e1]
  cases hi:idx? 41 (row.drop (k+2)) with
  | none =>
   rw [hi] at h
   have es:slice row (some ((k:Int)+2)) none=row.drop (k+2):=V6 p2
   exact C5 (fun zz h=>h) (E0 (iB (fun zz h=>h) (congrArg (fun s=>V.tup [V.tup [V.str [108,105,110,107],V.ref a,V.str s,V.bool false],V.int row.length]) es)) (h _ _ rfl))
  | some j =>
   rw [hi] at h
   have es:slice row (some ((k:Int)+2)) (some ((k+2+j:Nat):Int))=(row.drop (k+2)).take j:=by
    rw [V4 p2 (Int.natCast_nonneg _)]
    show (row.drop (k+2)).take (k+2+j - (k+2))=_
    rw [Nat.add_sub_cancel_left]
   exact C1 (G6 (D9 (fun zz h=>h) (fun zz h=>h) T5) (decide_eq_false (Int.not_lt.mpr (Int.natCast_nonneg _)))) (E0 (iB (fun zz h=>h) (congrArg (fun s=>V.tup [V.tup [V.str [108,105,110,107],V.ref a,V.str s,V.bool true],V.int ((k+2+j:Nat)+1)]) es)) (h _ _ rfl))
 ·rw [if_neg hn] at h
  exact C5 (G6 (fun zz h=>h) (by rw [kU];simpa using hn)) (h none true rfl)
theorem Ac7 {H:Heap}{t:T}{lo hi:Nat}{v:V}(h:I1 H (enc t) lo hi v):(∃ s,t=.txt s/\v=.str s)∨∃ w,v=.tup w/\∀ us c,M4 (us++[t]) c=us++[t]++[.txt [c]]:=by
 have e:∀ us:List T,(us++[t]).getLast? = some t:=fun us=>by simp
 cases t with
 | txt s=>exact Or.inl ⟨s,rfl,h⟩
 | kept s=>obtain ⟨w,e1,_⟩:=h;exact Or.inr ⟨w,e1,fun us c=>by unfold M4;rw [e]⟩
 | code s b=>obtain ⟨w,e1,_⟩:=h;exact Or.inr ⟨w,e1,fun us c=>by unfold M4;rw [e]⟩
 | span c ts b=>obtain ⟨w,e1,_⟩:=h;exact Or.inr ⟨w,e1,fun us c=>by unfold M4;rw [e]⟩
 | link ts g b=>obtain ⟨w,e1,_⟩:=h;exact Or.inr ⟨w,e1,fun us c=>by unfold M4;rw [e]⟩
theorem Y5 {us:List T}{s:List Nat}{c:Nat}:M4 (us++[.txt s]) c=us++[.txt (s++[c])]:=by
 unfold M4;simp
theorem jG {H:Heap}{cur:List T}{lo hi:Nat}{l:List V}(h:E8 H (encs cur) lo hi l):(cur=[]/\l=[])∨∃ us t r v,cur=us++[t]/\l=r++[v]/\E8 H (encs us) lo hi r/\I1 H (enc t) lo hi v:=by
 rcases List.eq_nil_or_concat cur with rfl | ⟨us,t,e⟩
 ·exact Or.inl ⟨rfl,h.2⟩
 ·rw [List.concat_eq_append] at e
  subst e
  rw [qO] at h
  obtain ⟨a,b,rfl,h1,h2⟩:=h.cut
  obtain ⟨v,r,rfl,h3,h4⟩:=h2
  rw [h4.2]
  exact Or.inr ⟨us,t,a,v,rfl,rfl,h1,h3⟩
theorem Ci3 {H:Heap}{cur:List T}{l:List V}{c lo hi:Nat}(h:E8 H (encs cur) lo hi l):E8 H (encs (M4 cur c)) lo hi (aZ l c):=by
 rcases jG h with ⟨rfl,rfl⟩ | ⟨us,t,r,v,rfl,rfl,h1,h3⟩
 ·exact .one h.le rfl
 ·rcases Ac7 h3 with ⟨s,rfl,rfl⟩ | ⟨w,rfl,e⟩
  ·rw [Y5,Az3]
   exact h1.addT (A4 _) rfl
  ·rw [e,Az2]
   exact h.addT (A4 _) rfl
structure BdL (k:Nat) (ts:List T):Prop where
 len:ts.length<=k
 txt:∀ s,T.txt s∈ts->s.length<=k
theorem BdL.nil {k:Nat}:BdL k []:=⟨B0 _,fun s hs=>nomatch hs⟩
theorem BdL.le {k m:Nat}{ts:List T}(h:BdL k ts) (hm:k<=m):BdL m ts:=⟨A3 h.1 hm,fun s hs=>A3 (h.2 s hs) hm⟩
theorem BdL.add {k m:Nat}{ts:List T}{t:T}(h:BdL k ts) (hm:k<m) (ht:∀ s,t=.txt s->s.length<=m):BdL m (ts++[t]):=by
 refine ⟨by rw [A6];exact A9 h.1 hm,fun s hs=>?_⟩
 rcases List.mem_append.mp hs with q | q
 ·exact A3 (h.2 s q) (B5 hm)
 ·exact ht s (List.mem_singleton.mp q).symm
theorem BdL.put {k c:Nat}{ts:List T}(h:BdL k ts):BdL (k+1) (M4 ts c):=by
 rcases List.eq_nil_or_concat ts with rfl | ⟨us,t,e⟩
 ·exact h.add (t:=.txt [c]) (B1 _) fun s e=>by cases e;exact B3 (B0 _)
 ·rw [List.concat_eq_append] at e
  subst e
  have hadd:=h.add (m:=k+1) (t:=.txt [c]) (B1 _) (fun s e=>by cases e;exact B3 (B0 _))
  have hl:=h.len
  cases t with
  | txt s =>
   rw [Y5]
   have hs:=h.txt s (List.mem_append_right _ (.head _))
   have hus:BdL k us:=⟨by rw [A6] at hl;exact Nat.le_of_succ_le hl,fun s hs=>h.txt s (List.mem_append_left _ hs)⟩
   exact hus.add (B1 _) fun s' e=>by cases e;rw [A6];exact B3 hs
  | kept s=>unfold M4;simp only [List.getLast?_append,List.getLast?_singleton,Option.some_or];exact hadd
  | code s b=>unfold M4;simp only [List.getLast?_append,List.getLast?_singleton,Option.some_or];exact hadd
  | span c' ts b=>unfold M4;simp only [List.getLast?_append,List.getLast?_singleton,Option.some_or];exact hadd
  | link ts g b=>unfold M4;simp only [List.getLast?_append,List.getLast?_singleton,Option.some_or];exact hadd
theorem Cv4 {H:Heap}{k lo hi:Nat}{cur:List T}{l:List V}(hb:BdL k cur) (h:E8 H (encs cur) lo hi l) (hk:k<I3):Co6 l/\l.length<I3:=by
 refine ⟨?_,by rw [h.len,Q6];exact A9 hb.1 hk⟩
 rcases jG h with ⟨rfl,rfl⟩ | ⟨us,t,r,v,rfl,rfl,h1,h3⟩
 ·exact Or.inl rfl
 ·rcases Ac7 h3 with ⟨s,rfl,rfl⟩ | ⟨w,rfl,e⟩
  ·exact Or.inr (Or.inl ⟨r,s,rfl,A9 (hb.2 s (List.mem_append_right _ (.head _))) hk⟩)
  ·exact Or.inr (Or.inr ⟨r,w,rfl⟩)
structure Bds (k:Nat) (cur:List T) (ctx:T4):Prop where
 cur:BdL k cur
 ctx:∀ x∈ctx,BdL k x.2
theorem Bds.to {k m:Nat}{cur cur':List T}{ctx:T4}(h:Bds k cur ctx) (hm:k<=m) (h':BdL m cur'):Bds m cur' ctx:=⟨h',fun x hx=>(h.ctx x hx).le hm⟩
theorem mC.shut {H0 a as cur kd p ctx H}(h:mC H0 (a::as) cur ((kd,p)::ctx) H) {t:T}{v:V}
  (ht:∀ G,At G cur a G.length->I1 G (enc t) a G.length v):∃ l,(H.set (H0.length+1) (bN as))[fK H0.length as]? = some l/\l.length=p.length/\mC H0 as (p++[t]) ctx ((H.set (H0.length+1) (bN as)).set (fK H0.length as) (l++[v])):=by
 obtain ⟨h1,_,h2,h3⟩:=h.pop
 obtain ⟨l,g1,g2⟩:=h2.head.1
 exact ⟨l,g1,by rw [g2.len,Q6],h1.upd (g2.addT (B5 (Nat.lt_of_succ_lt h3.le)) (ht _ h3))⟩
theorem Bb6 {G:Heap}{cur:List T}{a c:Nat}{b:Bool}(h:At G cur a G.length):I1 G (enc (.span c cur b)) a G.length (V1 c a b):=by
 have hle:=h.le
 obtain ⟨l,h1,h2⟩:=h
 exact jH ⟨A4 _,Nat.lt_of_succ_lt hle,B4 _ _,A4 _⟩ h1 h2
theorem Bb7 {G:Heap}{cur:List T}{a:Nat}{g:Option (List Nat)}{b:Bool}(h:At G cur a G.length):I1 G (enc (.link cur g b)) a G.length (J6 a g b):=by
 have hle:=h.le
 obtain ⟨l,h1,h2⟩:=h
 exact dP ⟨A4 _,Nat.lt_of_succ_lt hle,B4 _ _,A4 _⟩ h1 h2
noncomputable def PQ (H0:Heap) (res:List T) (Q:C2):Prop:=∀ H' l,H'[H0.length]? = some l->E8 H' (encs res) (H0.length+2) H'.length l->T3 H0 H' 0 H0.length->Q (.ref H0.length) H'
structure ES where
 as:List Nat
 cur:List T
 ctx:T4
 e2:Option V
 e3:Option V
theorem Bz4 {n K:Nat}{H0 H:Heap}{as:List Nat}{cur:List T}{ctx:T4}{Q:C2}(hst:mC H0 as cur ctx H) (hK:K<2000000) (hb:Bds K cur ctx) (h:PQ H0 (M0 cur ctx) Q) :
  callN P (n+2) "ended" [.ref H0.length,.ref (H0.length+1)] Q H:=by
 refine By9 (H5 (mD (σ:=ES) (fun s=>[some (.ref H0.length),some (.ref (H0.length+1)),s.e2,s.e3]) (fun s G=>mC H0 s.as s.cur s.ctx G/\M0 s.cur s.ctx=M0 cur ctx/\∀ x∈s.ctx,x.2.length<=K) (fun s=>s.ctx.length) (fun s G hI K' hK'=>?_) ⟨as,cur,ctx,none,none⟩ ⟨hst,rfl,fun x hx=>(hb.ctx x hx).len⟩))
 obtain ⟨as,cur',ctx',e2,e3⟩:=s
 have ho:=hI.1.opn
 have hlv:=hI.1.lv
 cases ctx' with
 | nil =>
  obtain ⟨rfl,l,g1,g2⟩:=hlv
  refine .stop (D9 (P1 (fun zz h=>h) (N0 ho)) (fun zz h=>h) oZ) (h G l g1 ?_ hI.1.old)
  rw [<- hI.2.1];exact g2
 | cons x ctx' =>
  obtain ⟨kd,p⟩:=x
  obtain ⟨a,as',rfl,_⟩:=hlv
  obtain ⟨hst1,hf1,_⟩:=hI.1.pop
  refine .go (G6 (D9 (P1 (fun zz h=>h) (N0 ho)) (fun zz h=>h) oZ) xK) (Cm0 (fun zz h=>h) (Y6▸ho) (C9 (C8 (fun zz h=>h) (oU hst1)) ?_))
  have hp:=hI.2.2 (kd,p) (.head _)
  have hlim:I3=16777216:=rfl
  have next:∀ {t:T}{G':Heap}{e2 e3:Option V},t=wQ kd cur'->mC H0 as' (p++[t]) ctx' G'->K' [some (.ref H0.length),some (.ref (H0.length+1)),e2,e3] G':=fun {t G' e2 e3} et g=>hK' ⟨as',p++[t],ctx',e2,e3⟩ G' (B1 _) ⟨g,by rw [et];exact hI.2.1,fun x hx=>hI.2.2 x (.tail _ hx)⟩
  cases kd with
  | some c =>
   obtain ⟨l,g1,g2,g3⟩:=hI.1.shut (t:=.span c cur' false) (v:=V1 c a false) fun G h=>Bb6 h
   exact C5 (G6 (D9 (F9 (fun zz h=>h) (fun zz h=>h) (L0 (i:=0) hf1 rfl)) (fun zz h=>h) S7) rfl) (J2 (fun zz h=>h) (T6 (C4 (fun zz h=>h) (C4 (F9 (fun zz h=>h) (fun zz h=>h) (L0 (i:=1) hf1 rfl)) (C4 (F9 (fun zz h=>h) (fun zz h=>h) (L0 (i:=2) hf1 rfl)) (C4 (fun zz h=>h) J5))))) g1 (by exact G9 (I6 (Nat.le_of_eq g2) (I6 hp (I6 hK (Nat.le_of_eq hlim.symm))))) (next rfl g3))
  | none =>
   obtain ⟨l,g1,g2,g3⟩:=hI.1.shut (t:=.link cur' none false) (v:=J6 a none false) fun G h=>Bb7 h
   exact D6 (G6 (D9 (F9 (fun zz h=>h) (fun zz h=>h) (L0 (i:=0) hf1 rfl)) (fun zz h=>h) S7) rfl) (J2 (fun zz h=>h) (T6 (C4 (fun zz h=>h) (C4 (F9 (fun zz h=>h) (fun zz h=>h) (L0 (i:=2) hf1 rfl)) (C4 (fun zz h=>h) (C4 (fun zz h=>h) J5))))) g1 (by exact G9 (I6 (Nat.le_of_eq g2) (I6 hp (I6 hK (Nat.le_of_eq hlim.symm))))) (next rfl g3))
theorem jL {row:List Nat}{k:Nat}(hk:k<row.length):k<(R3 row k).2:=by
 unfold R3
 split
 ·exact Nat.lt_succ_of_le (A3 (B8 k) (B4 _ _))
 ·exact hk
theorem wO {c:Nat}:∀ {l:List Nat}{j:Nat},idx? c l=some j->j<l.length
 | [],_,h=>by cases h
 | x::l,j,h=>by
  replace h:(if x=c then some 0 else (idx? c l).map (· + 1))=some j:=h
  by_cases hx:x=c
  ·rw [if_pos hx] at h;cases h;exact Nat.succ_pos _
  ·rw [if_neg hx] at h
   obtain ⟨i,hi,rfl⟩:=Option.map_eq_some_iff.mp h
   exact Nat.succ_lt_succ (wO hi)
set_option tactic.hygienic true in
theorem Ae8 {row:List Nat}{k:Nat}(hk:k<row.length):(R3 row k).2<=row.length:=by
 unfold R3
 split
 ·rename_i j hj
  have:=wO hj
  rw [List.length_drop] at this
  exact Nat.add_comm (k+1) j▸Nat.add_lt_of_lt_sub this
 ·exact A4 _
set_option tactic.hygienic true in
theorem Ad4 {row:List Nat}{k:Nat}{ts:List T}(hk:k<row.length):(M5 row k ts).2<=row.length:=by
 unfold M5
 split
 ·split
  ·rename_i j hj
   have:=wO hj
   rw [List.length_drop] at this
   exact Nat.add_comm (k+2) j▸Nat.add_lt_of_lt_sub this
  ·exact A4 _
 ·exact hk
theorem Bz6 {row:List Nat}{k:Nat}(s:List Nat):(R3 row k).1≠.txt s:=by
 unfold R3
 split<;>exact fun e=>by cases e
theorem jJ {row:List Nat}{k:Nat}{ts:List T}(hk:k<row.length):k<(M5 row k ts).2:=by
 unfold M5
 split
 ·split
  ·exact Nat.lt_succ_of_le (A3 (B4 k 2) (B4 _ _))
  ·exact hk
 ·exact B1 _
theorem Ar1 {row:List Nat}{k:Nat}{ts:List T}:∃ g b,(M5 row k ts).1=.link ts g b:=by
 unfold M5
 split
 ·split<;>exact ⟨_,_,rfl⟩
 ·exact ⟨_,_,rfl⟩
structure PS where
 k:Nat
 as:List Nat
 cur:List T
 ctx:T4
 e4:Option V
 e5:Option V
 e6:Option V
 e7:Option V
structure Df0 (row:List Nat) (res:List T) (H0:Heap) (k:Nat) (as:List Nat) (cur:List T) (ctx:T4) (H:Heap):Prop where
 le:k<=row.length+1
 pars:J4 row k cur ctx res
 bds:Bds k cur ctx
 st:mC H0 as cur ctx H
theorem Bx6 {n:Nat}{row:List Nat}{res:List T}{Q:C2}{H0:Heap}(hr:row.length<=1000000) (hp:J4 row 0 [] [] res) (h:PQ H0 res Q):callN P (n+3) "parts_of" [.str row] Q H0:=by
 have hlim:I3=16777216:=rfl
 have hH:(H0++[[]]).length=H0.length+1:=by rw [A6];rfl
 have hst0:mC H0 [] [] [] (H0++[[]]++[[]]):=⟨by rw [A6,hH];exact A4 _,(T3.one (A4 _)).trans (T3.one (by rw [hH];exact B8 _)),by rw [<- hH];exact D3,rfl,[],R6 D3,.nil (by rw [A6,hH];exact A4 _)⟩
 refine Ah4 (I0 (H1:=H0++[[]]) (fun zz h=>h) (I0 (v:=.ref (H0.length+1)) (H1:=H0++[[]]++[[]]) (fun zz h=>by rw [<- hH] at h;exact h) (C9 (fun zz h=>h) (H5 (mD (σ:=PS)
  (fun s=>[some (.str row),some (.ref H0.length),some (.ref (H0.length+1)),some (.int s.k),s.e4,s.e5,s.e6,s.e7]) (fun s G=>Df0 row res H0 s.k s.as s.cur s.ctx G) (fun s=>row.length+1 - s.k) (fun s G hI K hK=>?_) ⟨0,[],[],[],none,none,none,none⟩ ⟨B0 _,hp,⟨.nil,fun x hx=>nomatch hx⟩,hst0⟩)))))
 obtain ⟨k,as,cur,ctx,e4,e5,e6,e7⟩:=s
 obtain ⟨hkb,hp,hb,hst⟩:=hI
 dsimp only at hkb hp hb hst hK ⊢
 by_cases hk:k<row.length
 ·have hg:row[k]? = some row[k]:=List.getElem?_eq_getElem hk
  generalize row[k]=c at hg
  have go:∀ {k' as' cur' ctx' G' e4 e5 e6 e7},k<k'->k'<=row.length+1->J4 row k' cur' ctx' res->Bds k' cur' ctx'->mC H0 as' cur' ctx' G'->K [some (.str row),some (.ref H0.length),some (.ref (H0.length+1)),some (.int (k':Nat)),e4,e5,e6,e7] G':=fun {k' as' cur' ctx' G' e4 e5 e6 e7} h1 h2 h3 h4 h5=>hK ⟨k',as',cur',ctx',e4,e5,e6,e7⟩ G' (Nat.sub_lt_sub_left (A8 h1 h2) h1) ⟨h2,h3,h4,h5⟩
  clear hK
  have same:∀ {d:Nat},row[k]? = some d->c=d:=fun hd=>Option.some.inj (hg.symm.trans hd)
  obtain ⟨l,ha,hra⟩:=hst.at
  have hend:=Cv4 hb.cur hra (by exact G9 (I6 hkb (I6 hr (Nat.le_of_eq hlim.symm))))
  have cat:∀ {t:T}{v:V},I1 G (enc t) G.length G.length v->mC H0 as (cur++[t]) ctx (G.set (fK H0.length as) (l++[v])):=fun hv=>hst.upd (hra.addT (A4 _) hv)
  refine .go (G6 (D9 (fun zz h=>h) (fun zz h=>h) T5) (decide_eq_true (Int.ofNat_lt.mpr hk))) (C9 (F9 (fun zz h=>h) (fun zz h=>h) (cI hg)) (C9 (C8 (fun zz h=>h) (oU hst)) ?_))
  cases hp with
  | done hd=>exact absurd hk (Nat.not_lt.mpr hd)
  | kept hc hp =>
   obtain rfl:=same hc
   exact C5 (fun zz h=>h) (J2 (fun zz h=>h) (iB (fun zz h=>h) (congrArg (fun s=>V.tup [V.str [107,101,112,116],V.str s]) (kU row k))) ha hend.2 (go (k':=k+2) (Nat.lt_add_of_pos_right (by decide)) (B3 hk) hp (hb.to (B4 _ 2) (hb.cur.add (Nat.lt_add_of_pos_right (by decide)) fun s e=>nomatch e)) (cat (aX (A4 _)))))
  | code hc hp =>
   obtain rfl:=same hc
   have h1:=jL hk
   refine D6 (fun zz h=>h) (C5 (fun zz h=>h) (M8 (fun zz h=>h) (Cj8 fun v hv=>J2 (fun zz h=>h) (fun zz h=>h) ha hend.2 (go h1 (Nat.le_succ_of_le (Ae8 hk)) hp (hb.to (B5 h1) (hb.cur.add h1 fun s e=>absurd e (Bz6 s))) (cat (hv _ _ _ (A4 _)))))))
  | label hc h12 hp =>
   obtain rfl:=same hc
   have hop:=dQ (n:=n+1) hst hc
   rw [decide_eq_true h12] at hop
   have hpush:=hst.push (kd:=none)
   have e2:(G++[[]]).length=G.length+1:=by rw [A6];rfl
   rw [<- e2] at hpush
   refine D6 (fun zz h=>h) (D6 (fun zz h=>h) (C5 (C8 (fun zz h=>h) hop) (C5 (fun zz h=>h) (J2 (H1:=G++[[]]++[frV none G.length]) (v:=V.ref (G++[[]]:Heap).length) (fun zz h=>h) (fun zz h=>h) (R6 (R6 hst.opn)) (by rw [xL,hst.lv.lens];exact G9 (I6 h12 (Nat.le_of_eq hlim.symm))) (go (B1 k) (Nat.le_succ_of_le hk) hp ⟨.nil,fun x hx=>?_⟩ hpush)))))
   cases hx with
   | head=>exact hb.cur.le (B8 _)
   | tail _ hx=>exact (hb.ctx x hx).le (B8 _)
  | @span _ d _ _ _ hc hcc hn h12 hp =>
   obtain rfl:=same hc
   have hop:=dQ (n:=n+1) hst hc
   have h91:c≠91:=fun e=>by subst e;cases hcc
   have h92:c≠92:=fun e=>by subst e;cases hcc
   have h96:c≠96:=fun e=>by subst e;cases hcc
   have eop:sT row k c=true:=by unfold sT;rw [hcc,hn];simp
   rw [decide_eq_true h12,eop] at hop
   have hpush:=hst.push (kd:=some c)
   have e2:(G++[[]]).length=G.length+1:=by rw [A6];rfl
   rw [<- e2] at hpush
   have hk2:k+2<=row.length+1:=B3 hk
   refine D6 (G6 (fun zz h=>h) (by simpa using h92)) (D6 (G6 (fun zz h=>h) (by simpa using h96)) (C5 (C8 (fun zz h=>h) hop) (D6 (G6 (fun zz h=>h) (by simpa using h91)) (J2 (H1:=G++[[]]++[frV (some c) G.length]) (v:=V.ref (G++[[]]:Heap).length) (fun zz h=>h) (fun zz h=>h) (R6 (R6 hst.opn)) (by rw [xL,hst.lv.lens];exact G9 (I6 h12 (Nat.le_of_eq hlim.symm))) (go (k':=k+2) (Nat.lt_add_of_pos_right (by decide)) hk2 hp ⟨.nil,fun x hx=>?_⟩ hpush)))))
   cases hx with
   | head=>exact hb.cur.le (B4 _ _)
   | tail _ hx=>exact (hb.ctx x hx).le (B4 _ _)
  | @shutS _ d _ p _ ctx hc hp =>
   obtain rfl:=same hc
   obtain ⟨a,as',rfl,_⟩:=hst.lv
   obtain ⟨hst1,hf1,_⟩:=hst.pop
   obtain ⟨l',g1,g2,g3⟩:=hst.shut (t:=.span d cur true) (v:=V1 d a true) fun G h=>Bb6 h
   have hop:=dQ (n:=n+1) hst hc
   have eop:(decide (((some d,p)::ctx:T4).length<12)&&sT row k 41)=false:=by unfold sT;simp
   rw [eop] at hop
   have hpl:=(hb.ctx _ (.head _)).len
   refine D6 (fun zz h=>h) (D6 (fun zz h=>h) (D6 (C8 (fun zz h=>h) hop) (C5 (D1 (b:=true) (b2:=true) (fun zz h=>h) fun zz=>H8 (C8 (fun zz h=>h) (uR hst))) (Cm0 (fun zz h=>h) (Y6▸hst.opn)
    (J2 (C8 (fun zz h=>h) (oU hst1)) (T6 (C4 (fun zz h=>h) (C4 (F9 (fun zz h=>h) (fun zz h=>h) (L0 (i:=1) hf1 rfl)) (C4 (F9 (fun zz h=>h) (fun zz h=>h) (L0 (i:=2) hf1 rfl)) (C4 (fun zz h=>h) J5))))) g1 (by exact G9 (I6 (Nat.le_of_eq g2) (I6 hpl (I6 hkb (I6 hr (Nat.le_of_eq hlim.symm))))))
     (go (B1 k) (Nat.le_succ_of_le hk) hp ⟨(hb.ctx _ (.head _)).add (B1 _) (fun s e=>nomatch e),fun x hx=>(hb.ctx x (.tail _ hx)).le (B8 _)⟩ g3))))))
  | @shutL _ _ p _ ctx hc hp =>
   obtain rfl:=same hc
   obtain ⟨a,as',rfl,_⟩:=hst.lv
   obtain ⟨hst1,hf1,_⟩:=hst.pop
   have hop:=dQ (n:=n+1) hst hc
   have eop:(decide (((none,p)::ctx:T4).length<12)&&sT row k 93)=false:=by unfold sT;simp
   rw [eop] at hop
   have hpl:=(hb.ctx _ (.head _)).len
   have hup:=jJ (ts:=cur) hk
   refine D6 (fun zz h=>h) (D6 (fun zz h=>h) (D6 (C8 (fun zz h=>h) hop) (D6 (D1 (b:=false) (b2:=true) (fun zz h=>h) fun q=>nomatch q) (C5 (D1 (b:=true) (b2:=true) (fun zz h=>h) fun zz=>H8 (C8 (fun zz h=>h) (rR hst))) ?_))))
   refine P2 (K8 (J1 (Z6 rfl (J1 (Z6 rfl (J1 (mG (Cy8 (Z6 rfl ⟨_,rfl,Cm1 (Y6▸hst.opn) (Cm9 (Ce9 (c:=.ref a) hf1 (by decide) rfl (G8 ?_)))⟩) (U3 _ _)))))))))
   refine Ci7 (ts:=cur) fun g b e=>?_
   obtain ⟨l',g1,g2,g3⟩:=hst.shut (t:=.link cur g b) (v:=J6 a g b) fun G h=>Bb7 h
   rw [<- e] at g3
   exact J2 (C8 (fun zz h=>h) (oU hst1)) (fun zz h=>h) g1 (by exact G9 (I6 (Nat.le_of_eq g2) (I6 hpl (I6 hkb (I6 hr (Nat.le_of_eq hlim.symm)))))) (go hup (Nat.le_succ_of_le (Ad4 hk)) hp ⟨(hb.ctx _ (.head _)).add hup (fun s q=>by rw [e] at q;cases q),fun x hx=>(hb.ctx x (.tail _ hx)).le (B5 hup)⟩ g3)
  | @plain _ d _ _ _ hc h92 h96 hop h41 h93 hp =>
   obtain rfl:=same hc
   have hop':=dQ (n:=n+1) hst hc
   have eop:(decide (ctx.length<12)&&sT row k c)=false:=by
    by_cases q:ctx.length<12
    ·rw [hop q,Bool.and_false]
    ·rw [decide_eq_false q];rfl
   rw [eop] at hop'
   have tst:∀ {d:Nat}{w:List Nat}{b:Bool}{ρ:D7},(c=d->b=false)->Ev (callN P (n+2)) ρ G (.cmp .eq (.var 4) (.str [d])) (.bool ([c]==[d]))->(∀ Q:C2,Q (.bool b) G->E2 (callN P (n+2)) (.call "last_is" [.var 2,.str w]) ρ Q G)->Ev (callN P (n+2)) ρ G (.and [.cmp .eq (.var 4) (.str [d]),.call "last_is" [.var 2,.str w]]) (.bool false):=fun {d w b ρ} h1 h2 h3=>by
    refine G6 (D1 h2 fun zz=>H8 h3) ?_
    by_cases q:c=d
    ·rw [h1 q,Bool.and_false]
    ·rw [show ([c]==[d])=false by simpa using q];rfl
   exact D6 (G6 (fun zz h=>h) (by simpa using h92)) (D6 (G6 (fun zz h=>h) (by simpa using h96)) (D6 (C8 (fun zz h=>h) hop') (D6 (tst h41 (fun zz h=>h) (C8 (fun zz h=>h) (uR hst))) (D6 (tst h93 (fun zz h=>h) (C8 (fun zz h=>h) (rR hst)))
    (P7 (fun zz h=>h) (Bx5 ha hend.2 hend.1 (go (B1 k) (Nat.le_succ_of_le hk) hp (hb.to (B8 _) hb.cur.put) (hst.upd (Ci3 hra)))))))))
 ·refine .stop (G6 (D9 (fun zz h=>h) (fun zz h=>h) T5) (decide_eq_false (fun q=>hk (Int.ofNat_lt.mp q)))) (tO (fun zz h=>h) (Bz4 (K:=k) hst (by exact G9 (I6 hkb hr)) hb ?_))
  cases hp with
  | done hd=>exact h
  | kept hc _=>exact absurd (List.getElem?_eq_some_iff.mp hc).1 hk
  | code hc _=>exact absurd (List.getElem?_eq_some_iff.mp hc).1 hk
  | label hc _ _=>exact absurd (List.getElem?_eq_some_iff.mp hc).1 hk
  | span hc _ _ _ _=>exact absurd (List.getElem?_eq_some_iff.mp hc).1 hk
  | shutS hc _=>exact absurd (List.getElem?_eq_some_iff.mp hc).1 hk
  | shutL hc _=>exact absurd (List.getElem?_eq_some_iff.mp hc).1 hk
  | plain hc _ _ _ _ _ _=>exact absurd (List.getElem?_eq_some_iff.mp hc).1 hk
theorem J4.past {row:List Nat}{k:Nat}{cur r:List T}{ctx:T4}(h:J4 row k cur ctx r) (hk:row.length<=k):r=M0 cur ctx:=by
 have hno:∀ {c:Nat},row[k]? = some c->r=M0 cur ctx:=fun hc=>by rw [List.getElem?_eq_none hk] at hc;cases hc
 cases h with
 | done _=>rfl
 | kept hc _=>exact hno hc
 | code hc _=>exact hno hc
 | label hc _ _=>exact hno hc
 | span hc _ _ _ _=>exact hno hc
 | shutS hc _=>exact hno hc
 | shutL hc _=>exact hno hc
 | plain hc _ _ _ _ _ _=>exact hno hc
theorem J4.move {row:List Nat}{k k':Nat}{cur r:List T}{ctx:T4}(h:J4 row k' cur ctx r) (hk:k=k'∨(row.length<=k/\row.length<=k')):J4 row k cur ctx r:=by
 rcases hk with rfl | ⟨h1,h2⟩
 ·exact h
 ·rw [h.past h2];exact .done h1
structure D0 (H G:Heap):Prop where
 len:H.length<=G.length
 old:T3 H G 0 H.length
theorem D0.refl {H:Heap}:D0 H H:=⟨A4 _,.refl⟩
theorem D0.one {H:Heap}{x:List V}:D0 H (H++[x]):=⟨by rw [A6];exact B4 _ _,.one (A4 _)⟩
theorem D0.trans {A B C:Heap}(h:D0 A B) (k:D0 B C):D0 A C:=⟨A3 h.len k.len,h.old.trans (k.old.sub (A4 _) h.len)⟩
theorem D0.get {H G:Heap}{a:Nat}{l:List V}(g:D0 H G) (h:H[a]? = some l):G[a]? = some l:=(g.old a (B0 _) (List.getElem?_eq_some_iff.mp h).1).trans h
theorem E8.grow {H G:Heap}{xs:List X}{lo hi:Nat}{l:List V}(h:E8 H xs lo hi l) (g:D0 H G) (hh:hi<=H.length):E8 G xs lo hi l:=h.to (g.old.sub (B0 _) hh)
theorem I1.grow {H G:Heap}{xs:X}{lo hi:Nat}{l:V}(h:I1 H xs lo hi l) (g:D0 H G) (hh:hi<=H.length):I1 G xs lo hi l:=h.to (g.old.sub (B0 _) hh)
theorem D2 {H:Heap}{a:Nat}{l:List V}(h:H[a]? = some l):a<H.length:=(List.getElem?_eq_some_iff.mp h).1
theorem aL {H:Heap}{x:List V}:(H++[x]).length=H.length+1:=by rw [A6];rfl
noncomputable def Co4 (ts:List T):Prop:=∀ us s,ts≠us++[.txt s]
noncomputable def part (ts:List T) (s:List Nat):List T:=if s=[] then ts else ts++[.txt s]
theorem jI {ts:List T}:part ts []=ts:=if_pos rfl
theorem Bx8 {ts:List T}{s:List Nat}:(part ts s).length<=ts.length+s.length:=by
 unfold part
 split
 ·exact B4 _ _
 ·rename_i q
  rw [A6]
  exact Nat.add_le_add_left (List.length_pos_iff.mpr q) _
theorem Bx7 {ts:List T}{s:List Nat}{t:T}(h:t∈part ts s):t∈ts∨t=.txt s:=by
 unfold part at h
 split at h
 ·exact Or.inl h
 ·rcases List.mem_append.mp h with q | q
  ·exact Or.inl q
  ·exact Or.inr (List.mem_singleton.mp q)
theorem Bx3 {ts:List T}{s:List Nat}{c:Nat}(hd:Co4 ts):M4 (part ts s) c=part ts (s++[c]):=by
 have e:part ts (s++[c])=ts++[.txt (s++[c])]:=if_neg (by simp)
 rw [e]
 by_cases h:s=[]
 ·rw [h,jI]
  rcases List.eq_nil_or_concat ts with rfl | ⟨us,t,rfl⟩
  ·rfl
  ·rw [List.concat_eq_append] at hd ⊢
   have e2:(us++[t]).getLast? = some t:=by simp
   cases t with
   | txt s'=>exact absurd rfl (hd us s')
   | kept s=>unfold M4;rw [e2];rfl
   | code s b=>unfold M4;rw [e2];rfl
   | span c' ts b=>unfold M4;rw [e2];rfl
   | link ts g b=>unfold M4;rw [e2];rfl
 ·have e1:part ts s=ts++[.txt s]:=if_neg h
  rw [e1,Y5]
theorem Bz2 {n p lo:Nat}{parts:List T}{words:List Nat}{l:List V}{Q:C2}{H:Heap}(hp:H[p]? = some l) (hr:E8 H (encs parts) lo p l) (hl:parts.length<1000000)
  (h:∀ p' l' G,D0 H G->G[p']? = some l'->p<=p'->E8 G (encs (part parts words)) lo p l'->Q (.ref p') G):callN P (n+1) "_law_flush" [.ref p,.str words] Q H:=by
 have hlim:I3=16777216:=rfl
 have hpl:=D2 hp
 refine yI ?_
 by_cases hw:words=[]
 ·subst hw
  rw [jI] at h
  exact C5 (fun zz h=>h) (h p l H .refl hp (A4 _) hr)
 ·have e:part parts words=parts++[.txt words]:=if_neg hw
  rw [e] at h
  have g2:D0 H (H++[[V.str words]]++[l++[V.str words]]):=D0.one.trans D0.one
  refine C1 (G6 (fun zz h=>h) (by simpa using hw)) (dD (Q:=fun v H₁=>Q v H₁) (R6 hp) D3 (by rw [hr.len,Q6];exact A3 (Nat.succ_le_of_lt hl) (by decide)) ?_)
  exact h _ _ _ g2 D3 (by rw [aL];exact Nat.le_succ_of_le (B5 hpl)) ((hr.grow g2 (B5 hpl)).addT (A4 _) rfl)
noncomputable def endN (row:List Nat) (k c:Nat):Nat:=match idx? c (row.drop k) with
 | some j=>k+j
 | none=>row.length
theorem qQ {row:List Nat}{k c:Nat}(h:row[k]? = some c):row.drop k=c::row.drop (k+1):=by
 obtain ⟨hk,hc⟩:=List.getElem?_eq_some_iff.mp h
 rw [List.drop_eq_getElem_cons hk,hc]
theorem Bh3 {row:List Nat}{k c:Nat}(h:row[k]? = some c):endN row k c=k:=by
 unfold endN;rw [qQ h];unfold idx?;rw [if_pos rfl];rfl
theorem Bh4 {row:List Nat}{k c d:Nat}(h:row[k]? = some d) (hd:d≠c):endN row k c=endN row (k+1) c:=by
 unfold endN;rw [qQ h]
 have e:idx? c (d::row.drop (k+1))=(idx? c (row.drop (k+1))).map (· + 1):=if_neg hd
 rw [e]
 cases idx? c (row.drop (k+1)) with
 | none=>rfl
 | some j=>exact (Nat.add_right_comm k j 1)
theorem Bh5 {row:List Nat}{k c:Nat}(h:row.length<=k):endN row k c=row.length:=by
 unfold endN;rw [List.drop_eq_nil_of_le h];rfl
theorem Ad1 {n k c:Nat}{row:List Nat}{Q:C2}{H:Heap}(hk:k<=row.length) (h:Q (.int (endN row k c:Nat)) H):callN P (n+1) "_law_place" [.str row,.int (k:Nat),.str [c]] Q H:=by
 refine yF (H5 (mD (σ:=Nat) (fun j=>[some (.str row),some (.int j),some (.str [c])]) (fun j G=>j<=row.length/\endN row j c=endN row k c/\G=H) (fun j=>row.length - j) (fun j G hI K hK=>?_) k ⟨hk,rfl,rfl⟩))
 obtain ⟨hj,he,rfl⟩:=hI
 by_cases hl:j<row.length
 ·have hg:row[j]? = some row[j]:=List.getElem?_eq_getElem hl
  generalize row[j]=d at hg
  have hc1:∀ {C:Calls}{ρ:D7},Ev C ([some (.str row),some (.int j),some (.str [c])]) G (.cmp .lt (.var 1) (.len (.var 0))) (.bool true):=G6 (D9 (fun zz h=>h) (fun zz h=>h) T5) (decide_eq_true (Int.ofNat_lt.mpr hl))
  by_cases hd:d=c
  ·subst hd
   refine .stop (D1 (b:=true) (b2:=false) (hc1 (ρ:=[])) fun zz=>H8 (G6 (D9 (F9 (fun zz h=>h) (fun zz h=>h) (cI hg)) (fun zz h=>h) Au0) (by simp))) ?_
   rw [Bh3 hg] at he
   rw [<- he] at h
   exact h
  ·exact .go (D1 (b:=true) (b2:=true) (hc1 (ρ:=[])) fun zz=>H8 (G6 (D9 (F9 (fun zz h=>h) (fun zz h=>h) (cI hg)) (fun zz h=>h) Au0) (by simpa using hd))) (hK (j+1) _ (Nat.sub_lt_sub_left hl (B1 j)) ⟨hl,by rw [<- Bh4 hg hd];exact he,rfl⟩)
 ·have e:j=row.length:=Nat.le_antisymm hj (Nat.not_lt.mp hl)
  refine .stop (D1 (b:=false) (b2:=true) (G6 (D9 (fun zz h=>h) (fun zz h=>h) T5) (decide_eq_false fun q=>hl (Int.ofNat_lt.mp q))) fun q=>nomatch q) ?_
  rw [Bh5 (Nat.le_of_eq e.symm),<- e] at he
  rw [<- he] at h
  exact h
theorem Ae7 {row:List Nat}{k c:Nat}(h:k<=row.length):(idx? c (row.drop k)=none/\endN row k c=row.length/\slice row (some (k:Int)) (some (row.length:Int))=row.drop k) ∨
  ∃ j,idx? c (row.drop k)=some j/\endN row k c=k+j/\k+j<row.length/\slice row (some (k:Int)) (some ((k+j:Nat):Int))=(row.drop k).take j:=by
 cases hi:idx? c (row.drop k) with
 | none =>
  refine Or.inl ⟨rfl,by unfold endN;rw [hi],?_⟩
  rw [V4 (Int.natCast_nonneg _) (Int.natCast_nonneg _)]
  exact List.take_of_length_le (by rw [List.length_drop];exact A4 _)
 | some j =>
  have:=wO hi
  rw [List.length_drop] at this
  refine Or.inr ⟨j,rfl,by unfold endN;rw [hi],by rw [Nat.add_comm];exact Nat.add_lt_of_lt_sub this,?_⟩
  rw [V4 (Int.natCast_nonneg _) (Int.natCast_nonneg _)]
  show (row.drop k).take (k+j - k)=_
  rw [Nat.add_sub_cancel_left]
theorem By8 {H:Heap}{s:List Nat}(hs:s.all (fun c=>decide (c<1114112))=true):S3 .isin (.str s) (.tup [.str [42,40],.str [95,40],.str [126,40]]) H=some ([[42,40],[95,40],[126,40]].contains s):=by
 have e1:rd H K0 (.str s)=some (.str s):=if_pos hs
 show memV _ _ H=_
 unfold memV
 rw [e1]
 show some ([D.str [42,40],D.str [95,40],D.str [126,40]].any fun y=>sS y (.str s))=_
 have q:∀ a:List Nat,sS (.str a) (.str s)=(s==a):=fun a=>by
  show (a==s)=(s==a)
  rw [Bool.eq_iff_iff,beq_iff_eq,beq_iff_eq];exact eq_comm
 simp only [List.any_cons,List.any_nil,q,List.contains_cons,List.contains_nil]
theorem By0 {row:List Nat}{k c:Nat}:[[42,40],[95,40],[126,40]].contains (c::nx row k)=([42,95,126].contains c&&nx row k==[40]):=by
 by_cases h:nx row k=[40]
 ·rw [h];simp
 ·have:(nx row k==[40])=false:=by simpa using h
  rw [this,Bool.and_false]
  simp [h]
theorem Bg1 {row:List Nat}{k c:Nat}(h:row[k]? = some c):slice row (some (k:Int)) (some ((k:Int)+2))=c::nx row k:=by
 rw [V4 (Int.natCast_nonneg _) (by lia)]
 show (row.drop k).take (k+2 - k)=_
 rw [qQ h,Nat.add_sub_cancel_left];rfl
noncomputable def Cq0:T4->List Nat
 | []=>[]
 | (some _,_)::_=>[41]
 | (none,_)::_=>[93]
noncomputable def W:Nat:=1000000
theorem W4:(4:Nat)<=W:=by decide
structure Df1 (row:List Nat) (w:List Nat) (m deep k:Nat) (us:List T) (o:Bool) (e:Nat):Prop where
 le:e<=row.length+1
 len:us.length<=e
 fit:∀ t∈us,J3 W (2 * m+1) (enc t)
 opn:o=false->row.length<=e/\∀ ctx:T4,ctx.length=deep->Cq0 ctx=w->J4 row k [] ctx (M0 us ctx)
 shut:o=true->∃ j c,e=j+1/\k<=j/\row[j]? = some c/\w=[c]/\∀ (ctx:T4) (r:List T),ctx.length=deep->Cq0 ctx=w->J4 row j us ctx r->J4 row k [] ctx r
noncomputable def LS (row:List Nat) (m deep n:Nat):Prop:=∀ (w:List Nat) (k:Nat) (H:Heap) (Q:C2),k<=row.length+1 ->
 (∀ a l G us o e,D0 H G->G[a]? = some l->H.length<=a->E8 G (encs us) H.length a l->Df1 row w m deep k us o e->Q (.tup [.ref a,.int (e:Nat),.bool o]) G) ->
 callN P n "_law_list" [.str row,.int (k:Nat),.str w,.int (deep:Nat)] Q H
noncomputable def Mk (row:List Nat) (m deep k:Nat) (H:Heap) (Q:C2):Prop:=∀ w k' t G,D0 H G->I1 G (enc t) H.length G.length w->k<k'->k'<=row.length+1->(∀ s,t≠.txt s)->J3 W (2 * m+1) (enc t) ->
 (∀ (ctx:T4) (cur r:List T),ctx.length=deep->J4 row k' (cur++[t]) ctx r->J4 row k cur ctx r)->Q (.tup [w,.int (k':Nat)]) G
theorem Av2 {H G:Heap}{a:Nat}{l:List V}(ha:G[a]? = some l) (hlo:H.length<=a):Bd H.length G.length a H.length a:=⟨hlo,D2 ha,A4 _,B5 (D2 ha)⟩
theorem U2 {m:Nat}{s:List Nat}:J3 W m (enc (.txt s)):=J3.at
theorem bB {m:Nat}{s:List Nat}:J3 W (m+1) (enc (.kept s)):=⟨A3 (by decide:(2:Nat)<=4) W4,fun y hy=>by
 rcases List.mem_cons.mp hy with rfl | hy
 ·exact J3.at
 ·rw [List.mem_singleton.mp hy];exact J3.at⟩
theorem dT {m:Nat}{s:List Nat}{b:Bool}:J3 W (m+1) (enc (.code s b)):=⟨A3 (by decide:(3:Nat)<=4) W4,fun y hy=>by
 rcases List.mem_cons.mp hy with rfl | hy
 ·exact J3.at
 ·rcases List.mem_cons.mp hy with rfl | hy
  ·exact J3.at
  ·rw [List.mem_singleton.mp hy];exact J3.at⟩
theorem Ad2:∀ {ts:List T}{y:X},y∈encs ts->∃ t∈ts,y=enc t
 | [],y,h=>by cases h
 | t::ts,y,h=>by
  cases h with
  | head=>exact ⟨t,.head _,rfl⟩
  | tail _ h =>
   obtain ⟨u,hu,e⟩:=Ad2 h
   exact ⟨u,.tail _ hu,e⟩
theorem eX {m:Nat}{us:List T}(h:us.length<=W) (hf:∀ t∈us,J3 W m (enc t)):J3 W (m+1) (.lst (encs us)):=⟨by rw [Q6];exact h,fun y hy=>by
 obtain ⟨t,ht,rfl⟩:=Ad2 hy
 exact hf t ht⟩
theorem dS {m c:Nat}{us:List T}{b:Bool}(h:us.length<=W) (hf:∀ t∈us,J3 W m (enc t)):J3 W (m+2) (enc (.span c us b)):=⟨W4,fun y hy=>by
 rcases List.mem_cons.mp hy with rfl | hy
 ·exact J3.at
 ·rcases List.mem_cons.mp hy with rfl | hy
  ·exact J3.at
  ·rcases List.mem_cons.mp hy with rfl | hy
   ·exact eX h hf
   ·rw [List.mem_singleton.mp hy];exact J3.at⟩
theorem bA {m:Nat}{us:List T}{g:Option (List Nat)}{b:Bool}(h:us.length<=W) (hf:∀ t∈us,J3 W m (enc t)):J3 W (m+2) (enc (.link us g b)):=⟨W4,fun y hy=>by
 rcases List.mem_cons.mp hy with rfl | hy
 ·exact J3.at
 ·rcases List.mem_cons.mp hy with rfl | hy
  ·exact eX h hf
  ·rcases List.mem_cons.mp hy with rfl | hy
   ·exact J3.at
   ·rw [List.mem_singleton.mp hy];exact J3.at⟩
theorem Am6 {row:List Nat}{k:Nat}(h:nx row k=[40]):k+2<=row.length:=by
 have:=congrArg List.length h
 unfold nx at this
 rw [List.length_take,List.length_drop,List.length_singleton] at this
 have h1:1<=row.length - (k+1):=A3 (Nat.le_of_eq this.symm) (Nat.min_le_right _ _)
 exact Nat.add_comm (k+1) 1▸Nat.add_le_of_le_sub (B5 (Nat.lt_of_sub_pos h1)) h1
theorem By2 {n m deep k:Nat}{row:List Nat}{Q:C2}{H:Heap}(hr:row.length<=900000) (ih:LS row m (deep+1) (n+1)) (hg:row[k]? = some 91) (hd:deep<12) (h:Mk row (m+1) deep k H Q) :
  callN P (n+2) "_law_link" [.str row,.int (k:Nat),.int (deep:Nat)] Q H:=by
 have hk:k<row.length:=(List.getElem?_eq_some_iff.mp hg).1
 refine Ah8 (M8 (vs:=[.str row,.int ((k+1:Nat):Int),.str [93],.int ((deep+1:Nat):Int)]) (fun zz h=>h) (ih [93] (k+1) H _ (B3 (B5 hk)) fun a l G us o e g ha hlo hrp hl=>C9 (fun zz h=>h) ?_))
 have rep:∀ gg b,I1 G (enc (.link us gg b)) H.length G.length (J6 a gg b):=fun gg b=>dP (Av2 ha hlo) ha hrp
 have hW:us.length<=W:=A3 hl.len (A3 hl.le (A3 (B3 hr) (by decide)))
 have ft:∀ gg b,J3 W (2 * (m+1)+1) (enc (.link us gg b)):=fun gg b=>bA (m:=2 * m+1) hW hl.fit
 cases o with
 | false =>
  obtain ⟨h1,h2⟩:=hl.opn rfl
  refine C5 (K3 (b:=true) (b2:=true) (fun zz h=>h) fun q=>nomatch q) (E0 (fun zz h=>h) (h (J6 a none false) e (.link us none false) G g (rep _ _) (A8 hk h1) hl.le (fun s q=>nomatch q) (ft _ _) fun ctx cur r hc hp=>?_))
  rw [hp.past h1]
  exact .label hg (hc▸hd) (h2 ((none,cur)::ctx) (congrArg (· + 1) hc) rfl)
 | true =>
  obtain ⟨j,c,rfl,hkj,hj,hcl,h2⟩:=hl.shut rfl
  cases hcl
  have hjl:j<row.length:=(List.getElem?_eq_some_iff.mp hj).1
  have up:∀ {k':Nat}{t:T},(M5 row j us).1=t->((M5 row j us).2=k'∨(row.length<=(M5 row j us).2/\row.length<=k'))->∀ (ctx:T4) (cur r:List T),ctx.length=deep->J4 row k' (cur++[t]) ctx r->J4 row k cur ctx r:=fun {k' t} ht hq ctx cur r hc hp =>
   .label hg (hc▸hd) (h2 ((none,cur)::ctx) r (congrArg (· + 1) hc) rfl (.shutL hj (by rw [ht];exact hp.move hq)))
  have e2:slice row (some ((j+1:Nat):Int)) (some (((j+1:Nat):Int)+1))=nx row j:=kU row j
  by_cases hn:nx row j=[40]
  ·have hn2:=Am6 hn
   refine C1 (K3 (b:=false) (b2:=false) (fun zz h=>h) fun zz=>S6 (G6 (fun zz h=>h) (by rw [e2,hn];rfl))) (M8 (vs:=[.str row,.int ((j+2:Nat):Int),.str [41]]) (fun zz h=>h) (Ad1 hn2 ?_))
   rcases Ae7 (c:=41) hn2 with ⟨c1,c2,c3⟩ | ⟨i,c1,c2,c4,c3⟩
   ·have el:M5 row j us=(.link us (some (row.drop (j+2))) false,row.length):=by unfold M5;rw [if_pos hn,c1]
    rw [c2]
    exact E0 (T6 (C4 (T6 (C4 (fun zz h=>h) (C4 (fun zz h=>h) (C4 (iB (fun zz h=>h) (congrArg V.str c3)) (C4 (G6 (D9 (fun zz h=>h) (fun zz h=>h) T5) (decide_eq_false (Int.lt_irrefl _))) J5))))) (C4 (fun zz h=>h) J5))) (h (J6 a (some (row.drop (j+2))) false) (row.length+1) (.link us (some (row.drop (j+2))) false) G g (rep _ _) (Nat.lt_succ_of_lt hk) (A4 _) (fun s q=>nomatch q) (ft _ _) (up (by rw [el]) (Or.inr ⟨by rw [el];exact A4 _,B8 _⟩)))
   ·have el:M5 row j us=(.link us (some ((row.drop (j+2)).take i)) true,j+2+i+1):=by unfold M5;rw [if_pos hn,c1]
    rw [c2]
    exact E0 (T6 (C4 (T6 (C4 (fun zz h=>h) (C4 (fun zz h=>h) (C4 (iB (fun zz h=>h) (congrArg V.str c3)) (C4 (G6 (D9 (fun zz h=>h) (fun zz h=>h) T5) (decide_eq_true (Int.ofNat_lt.mpr c4))) J5))))) (C4 (fun zz h=>h) J5))) (h (J6 a (some ((row.drop (j+2)).take i)) true) (j+2+i+1) (.link us (some ((row.drop (j+2)).take i)) true) G g (rep _ _) (by exact G9 hkj) (by exact G9 c4) (fun s q=>nomatch q) (ft _ _) (up (by rw [el]) (Or.inl (by rw [el]))))
  ·have el:M5 row j us=(.link us none true,j+1):=by unfold M5;rw [if_neg hn]
   exact C5 (K3 (b:=false) (b2:=true) (fun zz h=>h) fun zz=>S6 (G6 (fun zz h=>h) (by rw [e2];simpa using hn))) (E0 (fun zz h=>h) (h (J6 a none true) (j+1) (.link us none true) G g (rep _ _) (Nat.lt_succ_of_lt hkj) hl.le (fun s q=>nomatch q) (ft _ _) (up (by rw [el]) (Or.inl (by rw [el])))))
theorem Ci6 {n m deep k c:Nat}{row:List Nat}{Q:C2}{H:Heap}(hr:row.length<=900000) (hm:deep+m=12) (ih:∀ m',m=m'+1->LS row m' (deep+1) (n+1)) (ih2:∀ m',m=m'+1->LS row m' (deep+1) (n+2)) (hrow:∀ x∈row,x<1114112) (hg:row[k]? = some c) (h:Mk row m deep k H Q)
  (h0:c≠92->c≠96->(deep<12->sT row k c=false)->Q .none H):callN P (n+3) "_law_mark" [.str row,.int (k:Nat),.int (deep:Nat)] Q H:=by
 have hk:k<row.length:=(List.getElem?_eq_some_iff.mp hg).1
 have ec:∀ {C:Calls}{x y z:Option V}{d:Nat},Ev C [some (.str row),some (.int (k:Nat)),x,y,z] H (.cmp .eq (.idx (.var 0) (.var 1)) (.str [d])) (.bool ([c]==[d])):=D9 (F9 (fun zz h=>h) (fun zz h=>h) (cI hg)) (fun zz h=>h) S7
 have ne:∀ {d:Nat},c≠d->([c]==[d])=false:=fun q=>by simpa using q
 refine Ah6 ?_
 by_cases h92:c=92
 ·subst h92
  exact C5 ec (E0 (iB (fun zz h=>h) (congrArg (fun s=>V.tup [V.tup [V.str [107,101,112,116],V.str s],V.int (k+2)]) (kU row k))) (h (Z7 (nx row k)) (k+2) (.kept (nx row k)) H .refl (aX (A4 _)) (by exact fG) (by exact G9 hk) (fun s q=>nomatch q) bB fun ctx cur r zz hp=>.kept hg hp))
 refine C1 (G6 ec (ne h92)) ?_
 by_cases h96:c=96
 ·subst h96
  refine C5 ec (M8 (vs:=[.str row,.int ((k+1:Nat):Int),.str [96]]) (fun zz h=>h) (Ad1 hk ?_))
  rcases Ae7 (c:=96) (row:=row) (k:=k+1) hk with ⟨c1,c2,c3⟩ | ⟨i,c1,c2,c4,c3⟩
  ·have el:R3 row k=(.code (row.drop (k+1)) false,row.length):=by unfold R3;rw [c1]
   rw [c2]
   exact E0 (T6 (C4 (T6 (C4 (fun zz h=>h) (C4 (iB (fun zz h=>h) (congrArg V.str c3)) (C4 (G6 (D9 (fun zz h=>h) (fun zz h=>h) T5) (decide_eq_false (Int.lt_irrefl _))) J5)))) (C4 (fun zz h=>h) J5))) (h (cQ (row.drop (k+1)) false) (row.length+1) (.code (row.drop (k+1)) false) H .refl (aY (A4 _)) (Nat.lt_succ_of_lt hk) (A4 _) (fun s q=>nomatch q) dT fun ctx cur r zz hp=>.code hg (by rw [el];exact hp.move (Or.inr ⟨A4 _,B8 _⟩)))
  ·have el:R3 row k=(.code ((row.drop (k+1)).take i) true,k+1+i+1):=by unfold R3;rw [c1]
   rw [c2]
   exact E0 (T6 (C4 (T6 (C4 (fun zz h=>h) (C4 (iB (fun zz h=>h) (congrArg V.str c3)) (C4 (G6 (D9 (fun zz h=>h) (fun zz h=>h) T5) (decide_eq_true (Int.ofNat_lt.mpr c4))) J5)))) (C4 (fun zz h=>h) J5))) (h (cQ ((row.drop (k+1)).take i) true) (k+1+i+1) (.code ((row.drop (k+1)).take i) true) H .refl (aY (A4 _)) (by exact fG) (by exact G9 c4) (fun s q=>nomatch q) dT fun ctx cur r zz hp=>.code hg (by rw [el];exact hp))
 refine C1 (G6 ec (ne h96)) ?_
 have ed:∀ {C:Calls}{y z:Option V},Ev C [some (.str row),some (.int (k:Nat)),some (.int (deep:Nat)),y,z] H (.cmp .lt (.var 2) (.int 12)) (.bool (decide (((deep:Nat):Int)<12))):=fun zz h=>h
 by_cases hd:deep<12
 ·have hdt:decide (((deep:Nat):Int)<12)=true:=decide_eq_true (by exact Int.ofNat_lt.mpr (G9 hd))
  rw [hdt] at ed
  obtain ⟨m',rfl⟩:∃ m',m=m'+1:=⟨m - 1,by exact (Nat.sub_add_cancel (G9 (I6 (Nat.le_of_eq hm.symm) hd))).symm⟩
  by_cases h91:c=91
  ·subst h91
   exact C5 (D1 (b:=true) (b2:=true) ed fun zz=>H8 ec) (tO (fun zz h=>h) (By2 hr (ih m' rfl) hg hd h))
  refine C1 (D1 (b:=true) (b2:=false) ed fun zz=>H8 (G6 ec (ne h91))) ?_
  have em:∀ {C:Calls}{y z:Option V},Ev C [some (.str row),some (.int (k:Nat)),some (.int (deep:Nat)),y,z] H (.and [.cmp .lt (.var 2) (.int 12),.cmp .isin (.slc (.var 0) (.var 1) (.bin .add (.var 1) (.int 2))) (.tup [.str [42,40],.str [95,40],.str [126,40]])]) (.bool (true&&([42,95,126].contains c&&nx row k==[40]))):=D1 ed fun zz=>H8 (D9 (iB (fun zz h=>h) (congrArg V.str (Bg1 hg))) (fun zz h=>h) (by
   rw [By8,By0]
   refine List.all_eq_true.mpr fun x hx=>decide_eq_true (hrow x ?_)
   rcases List.mem_cons.mp hx with rfl | hx
   ·exact B9 hg
   ·exact List.mem_of_mem_drop (List.mem_of_mem_take hx)))
  rw [Bool.true_and] at em
  by_cases hop:([42,95,126].contains c&&nx row k==[40])=true
  ·rw [hop] at em
   obtain ⟨h1,h2⟩:=Bool.and_eq_true_iff.mp hop
   have hn:nx row k=[40]:=by simpa using h2
   have hn2:=Am6 hn
   refine C5 em (M8 (vs:=[.str row,.int ((k+2:Nat):Int),.str [41],.int ((deep+1:Nat):Int)]) (fun zz h=>h) (ih2 m' rfl [41] (k+2) H _ (Nat.le_succ_of_le hn2) fun a l G us o e g ha hlo hrp hl=>E0 (T6 (C4 (T6 (C4 (fun zz h=>h) (C4 (F9 (fun zz h=>h) (fun zz h=>h) (cI hg)) (C4 (fun zz h=>h) (C4 (fun zz h=>h) J5))))) (C4 (fun zz h=>h) J5))) ?_))
   have hW:us.length<=W:=A3 hl.len (A3 hl.le (A3 (B3 hr) (by decide)))
   have rep:I1 G (enc (.span c us o)) H.length G.length (V1 c a o):=jH (Av2 ha hlo) ha hrp
   have ft:J3 W (2 * (m'+1)+1) (enc (.span c us o)):=dS (m:=2 * m'+1) hW hl.fit
   cases o with
   | false =>
    obtain ⟨g1,g2⟩:=hl.opn rfl
    refine h _ e (.span c us false) G g rep (A8 hk g1) hl.le (fun s q=>nomatch q) ft fun ctx cur r hc hp=>?_
    rw [hp.past g1]
    exact .span hg h1 hn (hc▸hd) (g2 ((some c,cur)::ctx) (congrArg (· + 1) hc) rfl)
   | true =>
    obtain ⟨j,d,rfl,hkj,hj,hcl,g2⟩:=hl.shut rfl
    cases hcl
    exact h _ (j+1) (.span c us true) G g rep (by exact G9 hkj) hl.le (fun s q=>nomatch q) ft fun ctx cur r hc hp=>.span hg h1 hn (hc▸hd) (g2 ((some c,cur)::ctx) r (congrArg (· + 1) hc) rfl (.shutS hj hp))
  ·rw [Bool.not_eq_true] at hop
   rw [hop] at em
   refine C1 em (E0 (fun zz h=>h) (h0 h92 h96 fun zz=>?_))
   unfold sT
   rw [show (c==91)=false by simpa using h91,hop];rfl
 ·have hdt:decide (((deep:Nat):Int)<12)=false:=decide_eq_false (by exact Int.not_lt.mpr (Int.ofNat_le.mpr (G9 (Nat.le_of_not_lt hd))))
  rw [hdt] at ed
  exact C1 (D1 (b:=false) (b2:=true) ed fun q=>nomatch q) (C1 (D1 (b:=false) (b2:=true) ed fun q=>nomatch q) (E0 (fun zz h=>h) (h0 h92 h96 fun q=>absurd q hd)))
structure LSt where
 k:Nat
 p:Nat
 ts:List T
 w:List Nat
 l:List V
 x:Option V
structure Df2 (row:List Nat) (w:List Nat) (m deep k0:Nat) (H:Heap) (s:LSt) (G:Heap):Prop where
 le:s.k<=row.length+1
 ge:k0<=s.k
 grow:D0 H G
 lo:H.length<=s.p
 get:G[s.p]? = some s.l
 rep:E8 G (encs s.ts) H.length s.p s.l
 no:Co4 s.ts
 len:s.ts.length+s.w.length<=s.k
 fit:∀ t∈s.ts,J3 W (2 * m+1) (enc t)
 back:∀ (ctx:T4) (r:List T),ctx.length=deep->Cq0 ctx=w->J4 row s.k (part s.ts s.w) ctx r->J4 row k0 [] ctx r
theorem uQ {n m deep:Nat}{row:List Nat}(hr:row.length<=900000) (hrow:∀ x∈row,x<1114112) (hm:deep+m=12) (ih:∀ m',m=m'+1->LS row m' (deep+1) (n+1)) (ih2:∀ m',m=m'+1->LS row m' (deep+1) (n+2)):LS row m deep (n+4):=by
 have hlim:I3=16777216:=rfl
 intro w k0 H Q hk0 hQ
 refine Ah7 (I0 (H1:=H++[[]]) (fun zz h=>h) (C9 (fun zz h=>h) (H5 (mD (σ:=LSt) (fun s=>[some (.str row),some (.int (s.k:Nat)),some (.str w),some (.int (deep:Nat)),some (.ref s.p),some (.str s.w),s.x]) (Df2 row w m deep k0 H) (fun s=>row.length+1 - s.k) (fun s G hI K hK=>?_) ⟨k0,H.length,[],[],[],none⟩
  ⟨hk0,A4 _,.one,A4 _,D3,.nil (A4 _),fun us s q=>absurd q (by simp),B0 _,(fun t q=>nomatch q),fun ctx r zz zz hp=>by rw [jI] at hp;exact hp⟩))))
 have hfl:∀ {n':Nat}{Q:C2}{G':Heap},D0 G G'->(∀ p' l' G2,D0 G' G2->G2[p']? = some l'->s.p<=p'->E8 G2 (encs (part s.ts s.w)) H.length s.p l'->Q (.ref p') G2)->callN P (n'+1) "_law_flush" [.ref s.p,.str s.w] Q G':=fun {n' Q G'} g h=>Bz2 (g.get hI.get) (hI.rep.grow g (B5 (D2 hI.get))) (by have:=hI.len;have:=hI.le;lia) h
 have pfit:∀ t∈part s.ts s.w,J3 W (2 * m+1) (enc t):=fun t ht=>by
  rcases Bx7 ht with q | rfl
  ·exact hI.fit t q
  ·exact U2
 have plen:(part s.ts s.w).length<=s.k:=A3 Bx8 hI.len
 by_cases hkl:s.k<row.length
 ·have hg:row[s.k]? = some row[s.k]:=List.getElem?_eq_getElem hkl
  generalize row[s.k]=c at hg
  refine .go (G6 (D9 (fun zz h=>h) (fun zz h=>h) T5) (decide_eq_true (Int.ofNat_lt.mpr hkl))) (M8 (fun zz h=>h) (Ci6 hr hm ih ih2 hrow hg ?_ ?_))
  ·intro v k' t G' g' hw hkk hkb htx hft hD
   refine C5 (fun zz h=>h) (P2 (iJ (K8 (hfl g' fun p' l' G2 g2 hp' hpp hrep'=>?_))))
   have hpl:=D2 hp'
   have hgl:=B5 (D2 hI.get)
   refine dD (Q:=fun v H₁=>C6 _ _ _ _ H₁) (R6 hp') (D3 (x:=[v])) (by rw [hrep'.len,Q6];exact A3 (B3 (A3 plen hI.le)) (by exact G9 (I6 hr (Nat.le_of_eq hlim.symm)))) ?_
   have g3:D0 G2 (G2++[[v]]++[l'++[v]]):=D0.one.trans D0.one
   have hp3:(G2++[[v]]++[l'++[v]])[(G2++[[v]]:Heap).length]? = some (l'++[v]):=D3
   have hb:G'.length<=(G2++[[v]]:Heap).length:=by rw [aL];exact Nat.le_succ_of_le g2.len
   refine hK ⟨k',(G2++[[v]]:Heap).length,part s.ts s.w++[t],[],l'++[v],_⟩ _ (by show row.length+1 - k'<row.length+1 - s.k;exact Nat.sub_lt_sub_left (G9 hkl) (G9 hkk)) ⟨hkb,A3 hI.ge (B5 hkk),hI.grow.trans (g'.trans (g2.trans g3)),?_,hp3,?_,?_,?_,?_,?_⟩
   ·exact A3 (A3 hI.grow.len g'.len) hb
   ·exact (hrep'.grow g3 (A3 hgl (A3 g'.len g2.len))).addT (A3 (A3 hgl g'.len) hb) ((hw.grow (g2.trans g3) (A4 _)).wide hgl hb)
   ·intro us x q
    exact htx x (List.cons.inj (List.append_inj' q rfl).2).1
   ·show (part s.ts s.w++[t]).length+0<=k'
    rw [A6];exact A3 (B3 plen) hkk
   ·intro x hx
    rcases List.mem_append.mp hx with q | q
    ·exact pfit x q
    ·rw [List.mem_singleton.mp q];exact hft
   ·intro ctx r h1 h2 hp
    refine hI.back ctx r h1 h2 (hD ctx _ r h1 ?_)
    rw [jI] at hp;exact hp
  ·intro h92 h96 hop
   by_cases hc:[c]=w
   ·refine D6 (fun zz h=>h) (C5 (G6 (D9 (F9 (fun zz h=>h) (fun zz h=>h) (cI hg)) (fun zz h=>h) S7) (by rw [hc];simp)) (N9 (W8 (J1 (K8 (hfl .refl fun p' l' G2 g2 hp' hpp hrep'=>?_))))))
    exact hQ p' l' G2 (part s.ts s.w) true (s.k+1) (hI.grow.trans g2) hp' (A3 hI.lo hpp) (hrep'.wide (A4 _) hpp) ⟨B3 (B5 hkl),Nat.le_succ_of_le plen,pfit,(fun q=>nomatch q),fun zz=>⟨s.k,c,rfl,hI.ge,hg,hc.symm,hI.back⟩⟩
   ·refine D6 (fun zz h=>h) (D6 (G6 (D9 (F9 (fun zz h=>h) (fun zz h=>h) (cI hg)) (fun zz h=>h) S7) (by simpa using hc)) (C9 (I5 (fun zz h=>h) (F9 (fun zz h=>h) (fun zz h=>h) (cI hg)) (Y1 (by have:=hI.len;simp only [List.length_singleton];exact G9 (I6 this (I6 hkl (I6 hr (Nat.le_of_eq hlim.symm))))))) ?_))
    refine hK ⟨s.k+1,s.p,s.ts,s.w++[c],s.l,_⟩ _ (by show row.length+1 - (s.k+1)<row.length+1 - s.k;exact Nat.sub_lt_sub_left (G9 hkl) (fG)) ⟨B3 (B5 hkl),Nat.le_succ_of_le hI.ge,hI.grow,hI.lo,hI.get,hI.rep,hI.no,?_,hI.fit,fun ctx r h1 h2 hp=>hI.back ctx r h1 h2 (.plain hg h92 h96 (h1▸hop) ?_ ?_ (by rw [Bx3 hI.no];exact hp))⟩
    ·show s.ts.length+(s.w++[c]).length<=s.k+1
     rw [A6];exact B3 hI.len
    ·intro e
     subst e
     match ctx,h2 with
     | [],_=>rfl
     | (some _,_)::_,h2=>exact absurd h2 hc
     | (none,_)::_,_=>rfl
    ·intro e
     subst e
     match ctx,h2 with
     | [],_=>rfl
     | (some _,_)::_,_=>rfl
     | (none,_)::_,h2=>exact absurd h2 hc
 ·have hkl:=Nat.not_lt.mp hkl
  refine .stop (G6 (D9 (fun zz h=>h) (fun zz h=>h) T5) (decide_eq_false fun q=>Nat.not_lt.mpr hkl (Int.ofNat_lt.mp q))) (N9 (W8 (J1 (K8 (hfl .refl fun p' l' G2 g2 hp' hpp hrep'=>?_)))))
  exact hQ p' l' G2 (part s.ts s.w) false s.k (hI.grow.trans g2) hp' (A3 hI.lo hpp) (hrep'.wide (A4 _) hpp) ⟨hI.le,plen,pfit,fun zz=>⟨hkl,fun ctx h1 h2=>hI.back ctx _ h1 h2 (.done hkl)⟩,fun q=>nomatch q⟩
theorem xM {row:List Nat}(hr:row.length<=900000) (hrow:∀ x∈row,x<1114112):∀ (m deep n:Nat),deep+m=12->LS row m deep (n+3 * m+4)
 | 0,deep,n,h=>uQ hr hrow h (fun m' q=>nomatch q) (fun m' q=>nomatch q)
 | m+1,deep,n,h=>uQ (n:=n+3 * m+3) hr hrow h (fun m' q=>by cases q;exact xM hr hrow m (deep+1) n (by exact Nat.le_antisymm (G9 (Nat.le_of_eq h)) (G9 (Nat.le_of_eq h.symm)))) (fun m' q=>by
   cases q
   have:=xM hr hrow m (deep+1) (n+1) (by exact Nat.le_antisymm (G9 (Nat.le_of_eq h)) (G9 (Nat.le_of_eq h.symm)))
   rw [show n+1+3 * m+4=n+3 * m+3+2 by exact Nat.le_antisymm (fG) (fG)] at this
   exact this)
theorem lT {n:Nat}{row:List Nat}{Q:C2}{H:Heap}(hr:row.length<=900000) (hrow:∀ x∈row,x<1114112)
  (h:∀ a l G us,D0 H G->G[a]? = some l->H.length<=a->E8 G (encs us) H.length a l->us.length<=row.length+1->(∀ t∈us,J3 W 25 (enc t))->J4 row 0 [] [] us->Q (.ref a) G):callN P (n+41) "_law_parts" [.str row] Q H:=by
 refine yG (N9 (mG (K8 (xM hr hrow 12 0 n rfl [] 0 H _ (B0 _) fun a l G us o e g ha hlo hrep hl=>?_))))
 cases o with
 | false=>exact h a l G us g ha hlo hrep (A3 hl.len hl.le) hl.fit ((hl.opn rfl).2 [] rfl rfl)
 | true =>
  obtain ⟨_,_,_,_,_,q,_⟩:=hl.shut rfl
  cases q
theorem Bx9 {row:List Nat}{k c:Nat}(h:[42,95,126].contains c=true) (hn:nx row k=[40]):sT row k c=true:=by unfold sT;rw [h,hn];simp
theorem J4.total {row:List Nat}:∀ (n k:Nat) (cur:List T) (ctx:T4),row.length<=k+n->∃ r,J4 row k cur ctx r
 | 0,k,cur,ctx,h=>⟨_,.done h⟩
 | n+1,k,cur,ctx,h=>by
  by_cases hk:row.length<=k
  ·exact ⟨_,.done hk⟩
  have hk':k<row.length:=Nat.not_le.mp hk
  have up:∀ {k':Nat}(cur':List T) (ctx':T4),k<k'->∃ r,J4 row k' cur' ctx' r:=fun {k'} cur' ctx' q=>J4.total (row:=row) n k' cur' ctx' (by exact G9 (I6 h q))
  have hg:row[k]? = some row[k]:=List.getElem?_eq_getElem hk'
  generalize row[k]=c at hg
  by_cases h92:c=92
  ·exact (up _ ctx (Nat.lt_add_of_pos_right (by decide))).imp fun r hr=>.kept (by rw [hg,h92]) hr
  by_cases h96:c=96
  ·exact (up _ ctx (jL hk')).imp fun r hr=>.code (by rw [hg,h96]) hr
  by_cases hop:ctx.length<12/\sT row k c=true
  ·obtain ⟨h12,hop⟩:=hop
   by_cases h91:c=91
   ·exact (up [] ((none,cur)::ctx) (B1 _)).imp fun r hr=>.label (by rw [hg,h91]) h12 hr
   ·unfold sT at hop
    rw [show (c==91)=false by simpa using h91,Bool.false_or] at hop
    obtain ⟨h1,h2⟩:=Bool.and_eq_true_iff.mp hop
    exact (up [] ((some c,cur)::ctx) (Nat.lt_add_of_pos_right (by decide))).imp fun r hr=>.span hg h1 (by simpa using h2) h12 hr
  have hno:ctx.length<12->sT row k c=false:=fun h12=>by
   cases e:sT row k c with
   | false=>rfl
   | true=>exact absurd ⟨h12,e⟩ hop
  have plain:(c=41->wN ctx=false)->(c=93->oS ctx=false)->∃ r,J4 row k cur ctx r:=fun h1 h2=>(up (M4 cur c) ctx (B1 _)).imp fun r hr=>.plain hg h92 h96 hno h1 h2 hr
  match ctx,plain with
  | [],plain=>exact plain (fun zz=>rfl) fun zz=>rfl
  | (some x,p)::ctx,plain =>
   by_cases h41:c=41
   ·exact (up (p++[.span x cur true]) ctx (B1 _)).imp fun r hr=>.shutS (by rw [hg,h41]) hr
   ·exact plain (fun q=>absurd q h41) fun zz=>rfl
  | (none,p)::ctx,plain =>
   by_cases h93:c=93
   ·exact (up (p++[(M5 row k cur).1]) ctx (jJ hk')).imp fun r hr=>.shutL (by rw [hg,h93]) hr
   ·exact plain (fun zz=>rfl) fun q=>absurd q h93
noncomputable def Cn0 (row:List Nat) (k:Nat) (cur:List T):T4->Nat×List T×T4
 | []=>(k+1,cur,[])
 | (some d,p)::ctx=>(k+1,p++[.span d cur true],ctx)
 | (none,p)::ctx=>((M5 row k cur).2,p++[(M5 row k cur).1],ctx)
noncomputable def nxt (row:List Nat) (k c:Nat) (cur:List T) (ctx:T4):Nat×List T×T4 :=
 if c=92 then (k+2,cur++[.kept (nx row k)],ctx) else if c=96 then ((R3 row k).2,cur++[(R3 row k).1],ctx) else
 if ctx.length<12/\sT row k c=true then (if c=91 then (k+1,[],(none,cur)::ctx) else (k+2,[],(some c,cur)::ctx)) else
 if c=41/\wN ctx=true then Cn0 row k cur ctx else if c=93/\oS ctx=true then Cn0 row k cur ctx else (k+1,M4 cur c,ctx)
theorem J4.step {row:List Nat}{k:Nat}{cur r:List T}{ctx:T4}(h:J4 row k cur ctx r):(row.length<=k/\r=M0 cur ctx)∨∃ c,row[k]? = some c/\k<(nxt row k c cur ctx).1/\J4 row (nxt row k c cur ctx).1 (nxt row k c cur ctx).2.1 (nxt row k c cur ctx).2.2 r:=by
 have mk:∀ {c:Nat}{s:Nat×List T×T4},row[k]? = some c->nxt row k c cur ctx=s->k<s.1->J4 row s.1 s.2.1 s.2.2 r->(row.length<=k/\r=M0 cur ctx)∨∃ c,row[k]? = some c/\k<(nxt row k c cur ctx).1/\J4 row (nxt row k c cur ctx).1 (nxt row k c cur ctx).2.1 (nxt row k c cur ctx).2.2 r:=fun {c s} h1 h2 h3 h4=>Or.inr ⟨c,h1,by rw [h2];exact ⟨h3,h4⟩⟩
 cases h with
 | done hk=>exact Or.inl ⟨hk,rfl⟩
 | kept hc h=>exact mk hc rfl (Nat.lt_add_of_pos_right (by decide)) h
 | code hc h=>exact mk hc rfl (jL (List.getElem?_eq_some_iff.mp hc).1) h
 | @label _ cur _ ctx hc h12 h=>exact mk (s:=(k+1,[],(none,cur)::ctx)) hc (by unfold nxt;rw [if_neg (by decide),if_neg (by decide),if_pos ⟨h12,rfl⟩];rfl) (B1 _) h
 | @span _ c cur _ ctx hc hcc hn h12 h =>
  exact mk (s:=(k+2,[],(some c,cur)::ctx)) hc (by unfold nxt;rw [if_neg (fun e=>by subst e;cases hcc),if_neg (fun e=>by subst e;cases hcc),if_pos ⟨h12,Bx9 hcc hn⟩,if_neg (fun e=>by subst e;cases hcc)]) (Nat.lt_add_of_pos_right (by decide)) h
 | @shutS _ c cur p _ ctx hc h =>
  have e:sT row k 41=false:=by unfold sT;simp
  exact mk (s:=(k+1,p++[.span c cur true],ctx)) hc (by unfold nxt;rw [if_neg (by decide),if_neg (by decide),if_neg (fun q=>by rw [e] at q;cases q.2)];rfl) (B1 _) h
 | @shutL _ cur p _ ctx hc h =>
  have e:sT row k 93=false:=by unfold sT;simp
  exact mk (s:=((M5 row k cur).2,p++[(M5 row k cur).1],ctx)) hc (by unfold nxt;rw [if_neg (by decide),if_neg (by decide),if_neg (fun q=>by rw [e] at q;cases q.2),if_neg (fun q=>by cases q.1)];rfl) (jJ (List.getElem?_eq_some_iff.mp hc).1) h
 | @plain _ c cur _ ctx hc h92 h96 hop h41 h93 h =>
  exact mk (s:=(k+1,M4 cur c,ctx)) hc (by unfold nxt;rw [if_neg h92,if_neg h96,if_neg (fun q=>by rw [hop q.1] at q;cases q.2),if_neg (fun q=>by rw [h41 q.1] at q;cases q.2),if_neg (fun q=>by rw [h93 q.1] at q;cases q.2)]) (B1 _) h
theorem J4.det {row:List Nat}:∀ (n k:Nat) (cur:List T) (ctx:T4) (r r':List T),row.length<=k+n->J4 row k cur ctx r->J4 row k cur ctx r'->r=r'
 | 0,k,cur,ctx,r,r',hn,h,h'=>(h.past hn).trans (h'.past hn).symm
 | n+1,k,cur,ctx,r,r',hn,h,h'=>by
  rcases h.step with ⟨q,e⟩ | ⟨c,hc,hk,g⟩
  ·rw [e,h'.past q]
  ·rcases h'.step with ⟨q,e⟩ | ⟨c',hc',_,g'⟩
   ·rw [e,h.past q]
   ·cases hc.symm.trans hc'
    exact J4.det n _ _ _ r r' (by exact G9 (I6 hn hk)) g g'
noncomputable def yV (row:List Nat):List T:=Classical.choose (J4.total (row:=row) row.length 0 [] [] (Nat.le_of_eq (Nat.zero_add _).symm))
theorem pS (row:List Nat):J4 row 0 [] [] (yV row):=Classical.choose_spec (J4.total (row:=row) row.length 0 [] [] (Nat.le_of_eq (Nat.zero_add _).symm))
theorem Am5 {row:List Nat}{us:List T}(h:J4 row 0 [] [] us):us=yV row:=J4.det row.length 0 [] [] _ _ (Nat.le_of_eq (Nat.zero_add _).symm) h (pS row)
noncomputable def runL (c:Nat):List Nat->Nat
 | []=>0
 | x::r=>if x=c then runL c r+1 else 0
theorem Ac2 (row:List Nat) (k:Nat):slice row (some (k:Int)) (some ((k:Int)+1))=(row.drop k).take 1:=by
 rw [V4 (Int.natCast_nonneg _) (Int.le_add_one (Int.natCast_nonneg _))]
 show (row.drop k).take (k+1 - k)=_
 rw [Nat.add_sub_cancel_left]
theorem Bo4 {C:Calls}{row:List Nat}{c:Nat}{H:Heap}{R:E6}(h:R .next [some (.str row),some (.str [c]),some (.int (runL c row:Nat))] H) :
  iC C (.whl (.cmp .eq (.slc (.var 0) (.var 2) (.bin .add (.var 2) (.int 1))) (.var 1)) [.assign 2 (.bin .add (.var 2) (.int 1))]) [some (.str row),some (.str [c]),some (.int 0)] R H:=by
 refine mD (σ:=Nat) (fun i=>[some (.str row),some (.str [c]),some (.int (i:Nat))]) (fun i G=>G=H/\runL c row=i+runL c (row.drop i)) (fun i=>runL c (row.drop i)) (fun i G hI K hK=>?_) 0 ⟨rfl,(Nat.zero_add _).symm⟩
 obtain ⟨rfl,he⟩:=hI
 have et:Ev C [some (.str row),some (.str [c]),some (.int (i:Nat))] G (.cmp .eq (.slc (.var 0) (.var 2) (.bin .add (.var 2) (.int 1))) (.var 1)) (.bool ((row.drop i).take 1==[c])):=G6 (fun zz h=>h) (congrArg (· == [c]) (Ac2 row i))
 have e1:row.drop (i+1)=(row.drop i).tail:=(List.tail_drop).symm
 cases hd:row.drop i with
 | nil =>
  rw [hd] at et he
  rw [show runL c row=i from he] at h
  exact .stop et h
 | cons x r =>
  rw [hd] at et he e1
  by_cases hx:x=c
  ·subst hx
   have e2:runL x (x::r)=runL x r+1:=if_pos rfl
   refine .go (G6 et (by show ([x]==[x])=true;simp)) (hK (i+1) _ ?_ ⟨rfl,?_⟩)
   ·show runL x (row.drop (i+1))<runL x (row.drop i)
    rw [e1,hd,e2];exact B1 _
   ·rw [e1,he,e2];exact (Nat.add_right_comm i _ 1)
  ·have e2:runL c (x::r)=0:=if_neg hx
   rw [e2] at he
   rw [show runL c row=i from he] at h
   exact .stop (G6 et (by show ([x]==[c])=false;simpa using hx)) h
theorem bG {n:Nat}{row:List Nat}{c:Nat}{H:Heap}(Q:C2) (h:Q (.int (runL c row:Nat)) H):callN P (n+1) "run_of" [.str row,.str [c]] Q H:=Bg8 (C9 (fun zz h=>h) (H5 (Bo4 h)))
theorem bC {n:Nat}{row:List Nat}{c:Nat}{H:Heap}(Q:C2) (h:Q (.int (runL c row:Nat)) H):callN P (n+1) "_law_count" [.str row,.str [c]] Q H:=yJ (C9 (fun zz h=>h) (H5 (Bo4 h)))
structure Sh where
 k:Nat
 n:Nat
 r:List Nat
noncomputable def isRun (c m:Nat) (row:List Nat):Bool:=decide (1<=runL c row)&&(decide (runL c row<=m)&&((row.drop (runL c row)).take 1==[32]))
noncomputable def isQ (deep:Nat) (row:List Nat):Bool:=decide (deep<9)&&(row.take 2==[62,32])
noncomputable def shpN (deep:Nat) (row:List Nat):Sh:=bif isQ deep row then ⟨1,0,row.drop 2⟩ else bif isRun 35 6 row then ⟨2,runL 35 row,row.drop (runL 35 row+1)⟩ else bif isRun 45 9 row then ⟨3,runL 45 row,row.drop (runL 45 row+1)⟩ else ⟨4,0,row⟩
noncomputable def shp (deep:Nat) (row:List Nat):Sh:=match row with
 | []=>⟨0,0,[]⟩
 | x::r=>shpN deep (x::r)
noncomputable def nmS:Nat->List Nat
 | 0=>[103,97,112]
 | 1=>[113,117,111,116,101]
 | 2=>[104,101,97,100,105,110,103]
 | 3=>[105,116,101,109]
 | _=>[112,108,97,105,110]
noncomputable def nmC:Nat->List Nat
 | 0=>[103,97,112]
 | 1=>[113,117,111,116,101]
 | 2=>[104,101,97,100,105,110,103]
 | 3=>[108,105,115,116]
 | _=>[112,97,114,97]
noncomputable def shV (s:Sh):V:=.tup [.str (nmS s.k),.int (s.n:Nat),.str s.r]
noncomputable def yS (s:Sh):V:=.tup [.str (nmC s.k),.int (s.n:Nat),.str s.r]
theorem Cj2 (row:List Nat) (k:Nat):slice row (some ((k:Int)+1)) none=row.drop (k+1):=V6 (Int.le_add_one (Int.natCast_nonneg k))
theorem P3 (deep:Nat) (row:List Nat):(row=[]/\shp deep row=⟨0,0,[]⟩)∨((row==[])=false/\((isQ deep row=true/\shp deep row=⟨1,0,row.drop 2⟩)∨(isQ deep row=false/\((isRun 35 6 row=true/\shp deep row=⟨2,runL 35 row,row.drop (runL 35 row+1)⟩)∨(isRun 35 6 row=false /\
  ((isRun 45 9 row=true/\shp deep row=⟨3,runL 45 row,row.drop (runL 45 row+1)⟩)∨(isRun 45 9 row=false/\shp deep row=⟨4,0,row⟩))))))):=by
 match row with
 | []=>exact Or.inl ⟨rfl,rfl⟩
 | x::r =>
  refine Or.inr ⟨rfl,?_⟩
  show (_/\shpN deep (x::r)=_)∨(_/\((_/\shpN deep (x::r)=_)∨(_/\((_/\shpN deep (x::r)=_)∨(_/\shpN deep (x::r)=_)))))
  generalize x::r=row
  unfold shpN
  cases isQ deep row with
  | true=>exact Or.inl ⟨rfl,rfl⟩
  | false =>
   refine Or.inr ⟨rfl,?_⟩
   cases isRun 35 6 row with
   | true=>exact Or.inl ⟨rfl,rfl⟩
   | false =>
    refine Or.inr ⟨rfl,?_⟩
    cases isRun 45 9 row with
    | true=>exact Or.inl ⟨rfl,rfl⟩
    | false=>exact Or.inr ⟨rfl,rfl⟩
section
variable {n deep:Nat}{row:List Nat}{H:Heap}
theorem lt9 {k m:Nat}:decide ((k:Int)<(m:Nat))=decide (k<m):=decide_eq_decide.mpr Int.ofNat_lt
theorem le9 {k m:Nat}:decide ((k:Int)<=(m:Nat))=decide (k<=m):=decide_eq_decide.mpr Int.ofNat_le
theorem Cb8 {C:Calls}{ρ:D7}{k x:Nat}(h0:ρ[0]? = some (some (.str row))) (hx:ρ[x]? = some (some (.int (k:Nat)))):Ev C ρ H (.cmp .eq (.slc (.var 0) (.var x) (.bin .add (.var x) (.int 1))) (.str [32])) (.bool ((row.drop k).take 1==[32])):=D9 (Cx9 (R1 h0) (R1 hx) (I5 (R1 hx) Cl7 Q3) Bn1) P0 (by rw [Ac2];rfl)
theorem wP {C:Calls}{ρ:D7}{k x:Nat}{w:List Nat}(h0:ρ[0]? = some (some (.str row))) (hx:ρ[x]? = some (some (.int (k:Nat)))):Ev C ρ H (.tup [.str w,.var x,.slcL (.var 0) (.bin .add (.var x) (.int 1))]) (.tup [.str w,.int (k:Nat),.str (row.drop (k+1))]):=T6 (C4 P0 (C4 (R1 hx) (C4 (Cq9 (R1 h0) (I5 (R1 hx) Cl7 Q3) (by rw [Bn1,Cj2])) J5)))
theorem Bw9 (Q:C2) (h:Q (shV (shp deep row)) H):callN P (n+2) "shape" [.str row,.int (deep:Nat)] Q H:=by
 refine By6 ?_
 have eq1:∀ {C:Calls}{y z:Option V},Ev C [some (.str row),some (.int (deep:Nat)),y,z] H (.and [.cmp .lt (.var 1) (.glob "MOST_QUOTES" 9),.cmp .eq (.slcH (.var 0) (.int 2)) (.str [62,32])]) (.bool (isQ deep row)):=D1 (G6 (D9 (fun zz h=>h) (fun zz h=>h) T5) lt9) fun zz=>H8 (G6 (fun zz h=>h) (congrArg (· == [62,32]) (Ab0 (by decide))))
 have e2:∀ {C:Calls}{a z:Option V},Ev C [some (.str row),a,some (.int (runL 35 row:Nat)),z] H (.and [.cmp .le (.int 1) (.var 2),.cmp .le (.var 2) (.glob "MOST_SHARPS" 6),.cmp .eq (.slc (.var 0) (.var 2) (.bin .add (.var 2) (.int 1))) (.str [32])]) (.bool (isRun 35 6 row)):=D1 (G6 (D9 (fun zz h=>h) (fun zz h=>h) yY) le9) fun zz=>D1 (G6 (D9 (fun zz h=>h) (fun zz h=>h) yY) le9) fun zz=>H8 (Cb8 rfl rfl)
 have e3:∀ {C:Calls}{a z:Option V},Ev C [some (.str row),a,z,some (.int (runL 45 row:Nat))] H (.and [.cmp .le (.int 1) (.var 3),.cmp .le (.var 3) (.glob "MOST_DASHES" 9),.cmp .eq (.slc (.var 0) (.var 3) (.bin .add (.var 3) (.int 1))) (.str [32])]) (.bool (isRun 45 9 row)):=D1 (G6 (D9 (fun zz h=>h) (fun zz h=>h) yY) le9) fun zz=>D1 (G6 (D9 (fun zz h=>h) (fun zz h=>h) yY) le9) fun zz=>H8 (Cb8 rfl rfl)
 rcases P3 deep row with ⟨rfl,e⟩ | ⟨h0,⟨hq,e⟩ | ⟨hq,⟨h35,e⟩ | ⟨h35,⟨h45,e⟩ | ⟨h45,e⟩⟩⟩⟩
 ·rw [e] at h
  exact C5 (fun zz h=>h) h
 ·rw [e] at h
  exact C1 (G6 (fun zz h=>h) h0) (C5 (G6 eq1 hq) (E0 (iB (fun zz h=>h) (congrArg (fun s=>V.tup [V.str [113,117,111,116,101],V.int 0,V.str s]) (V6 (by decide)))) h))
 ·rw [e] at h
  exact C1 (G6 (fun zz h=>h) h0) (C1 (G6 eq1 hq) (C9 (C8 (fun zz h=>h) bG) (C5 (G6 e2 h35) (E0 (wP rfl rfl) h))))
 ·rw [e] at h
  exact C1 (G6 (fun zz h=>h) h0) (C1 (G6 eq1 hq) (C9 (C8 (fun zz h=>h) bG) (C1 (G6 e2 h35) (C9 (C8 (fun zz h=>h) bG) (C5 (G6 e3 h45) (E0 (wP rfl rfl) h))))))
 ·rw [e] at h
  exact C1 (G6 (fun zz h=>h) h0) (C1 (G6 eq1 hq) (C9 (C8 (fun zz h=>h) bG) (C1 (G6 e2 h35) (C9 (C8 (fun zz h=>h) bG) (C1 (G6 e3 h45) h)))))
theorem Bp8 (Q:C2) (h:Q (yS (shp deep row)) H):callN P (n+2) "_law_cut" [.str row,.int (deep:Nat)] Q H:=by
 refine Ar8 ?_
 have eq1:∀ {C:Calls}{y z:Option V},Ev C [some (.str row),some (.int (deep:Nat)),y,z] H (.and [.cmp .eq (.slcH (.var 0) (.int 2)) (.str [62,32]),.cmp .lt (.var 1) (.int 9)]) (.bool (isQ deep row)):=G6 (D1 (G6 (fun zz h=>h) (congrArg (· == [62,32]) (Ab0 (by decide)))) fun zz=>H8 (G6 (D9 (fun zz h=>h) (fun zz h=>h) T5) lt9)) (Bool.and_comm _ _)
 have lt1:∀ {k:Nat},decide ((0:Int)<(k:Nat))=decide (1<=k):=decide_eq_decide.mpr (by lia)
 have lt7:∀ {k:Nat},decide (((k:Nat):Int)<7)=decide (k<=6):=decide_eq_decide.mpr (by lia)
 have lt10:∀ {k:Nat},decide (((k:Nat):Int)<10)=decide (k<=9):=decide_eq_decide.mpr (by lia)
 have e2:∀ {C:Calls}{a z:Option V},Ev C [some (.str row),a,some (.int (runL 35 row:Nat)),z] H (.and [.cmp2 .lt .lt (.int 0) (.var 2) (.int 7),.cmp .eq (.slc (.var 0) (.var 2) (.bin .add (.var 2) (.int 1))) (.str [32])]) (.bool (isRun 35 6 row)):=G6 (D1 (Bl7 (fun zz h=>h) (fun zz h=>h) (fun zz h=>h) T5 T5) fun zz=>H8 (Cb8 rfl rfl)) (by unfold isRun;rw [lt1,lt7,Bool.and_assoc])
 have e3:∀ {C:Calls}{a z:Option V},Ev C [some (.str row),a,z,some (.int (runL 45 row:Nat))] H (.and [.cmp2 .lt .lt (.int 0) (.var 3) (.int 10),.cmp .eq (.slc (.var 0) (.var 3) (.bin .add (.var 3) (.int 1))) (.str [32])]) (.bool (isRun 45 9 row)):=G6 (D1 (Bl7 (fun zz h=>h) (fun zz h=>h) (fun zz h=>h) T5 T5) fun zz=>H8 (Cb8 rfl rfl)) (by unfold isRun;rw [lt1,lt10,Bool.and_assoc])
 rcases P3 deep row with ⟨rfl,e⟩ | ⟨h0,⟨hq,e⟩ | ⟨hq,⟨h35,e⟩ | ⟨h35,⟨h45,e⟩ | ⟨h45,e⟩⟩⟩⟩
 ·rw [e] at h
  exact C5 (fun zz h=>h) h
 ·rw [e] at h
  exact C1 (G6 (fun zz h=>h) h0) (C5 (G6 eq1 hq) (E0 (iB (fun zz h=>h) (congrArg (fun s=>V.tup [V.str [113,117,111,116,101],V.int 0,V.str s]) (V6 (by decide)))) h))
 ·rw [e] at h
  exact C1 (G6 (fun zz h=>h) h0) (C1 (G6 eq1 hq) (C9 (C8 (fun zz h=>h) bC) (C9 (C8 (fun zz h=>h) bC) (C5 (G6 e2 h35) (E0 (wP rfl rfl) h)))))
 ·rw [e] at h
  exact C1 (G6 (fun zz h=>h) h0) (C1 (G6 eq1 hq) (C9 (C8 (fun zz h=>h) bC) (C9 (C8 (fun zz h=>h) bC) (C1 (G6 e2 h35) (C5 (G6 e3 h45) (E0 (wP rfl rfl) h))))))
 ·rw [e] at h
  exact C1 (G6 (fun zz h=>h) h0) (C1 (G6 eq1 hq) (C9 (C8 (fun zz h=>h) bC) (C9 (C8 (fun zz h=>h) bC) (C1 (G6 e2 h35) (C1 (G6 e3 h45) h)))))
end
inductive It where
 | it (n:Nat) (ts:List T) (sub:List It)
mutual
noncomputable def itE:It->X
 | .it n ts sub=>.tup [.at (.i (n:Nat)),.lst (encs ts),.lst (U9 sub)]
noncomputable def U9:List It->List X
 | []=>[]
 | i::is=>itE i::U9 is
end
theorem dR:∀ is:List It,U9 is=is.map itE
 | []=>rfl
 | i::is=>congrArg (itE i::·) (dR is)
mutual
noncomputable def RI (H:Heap):It->Nat->Nat->V->Prop
 | .it n ts sub,lo,hi,v=>∃ a b p q lp ls,v=.tup [.int (n:Nat),.ref a,.ref b]/\Bd lo b a p q/\H[a]? = some lp/\E8 H (encs ts) p q lp/\H[b]? = some ls/\X7 H sub (b+1) hi ls
noncomputable def X7 (H:Heap):List It->Nat->Nat->List V->Prop
 | [],lo,hi,l=>lo<=hi/\l=[]
 | i::is,lo,hi,l=>∃ v r m,l=v::r/\RI H i lo m v/\X7 H is m hi r
end
mutual
theorem RI.le {H:Heap}:∀ {i:It}{lo hi:Nat}{v:V},RI H i lo hi v->lo<hi
 | .it n ts sub,lo,hi,v,h=>by
  obtain ⟨a,b,p,q,lp,ls,_,hb,_,_,_,h⟩:=h
  exact A9 hb.le (X7.le (is:=sub) h)
theorem X7.le {H:Heap}:∀ {is:List It}{lo hi:Nat}{l:List V},X7 H is lo hi l->lo<=hi
 | [],_,_,_,h=>h.1
 | i::is,_,_,_,h=>by
  obtain ⟨v,r,m,_,h1,h2⟩:=h
  exact A3 (B5 (RI.le (i:=i) h1)) (X7.le (is:=is) h2)
end
mutual
theorem RI.mono {H G:Heap}:∀ {i:It}{lo hi lo' hi':Nat}{v:V},RI H i lo hi v->T3 H G lo hi->lo'<=lo->hi<=hi'->RI G i lo' hi' v
 | .it n ts sub,lo,hi,lo',hi',v,h,k,q1,q2=>by
  obtain ⟨a,b,p,q,lp,ls,e,hb,h1,h2,h3,h4⟩:=h
  have hle:=X7.le h4
  exact ⟨a,b,p,q,lp,ls,e,hb.mono q1 (A4 _),(k a hb.la (Nat.lt_trans hb.ah hle)).trans h1,h2.to (k.sub hb.lp (A3 hb.qh (B5 hle))),(k b hb.le hle).trans h3,X7.mono (is:=sub) h4 (k.sub (Nat.le_succ_of_le hb.le) (A4 _)) (A4 _) q2⟩
theorem X7.mono {H G:Heap}:∀ {is:List It}{lo hi lo' hi':Nat}{l:List V},X7 H is lo hi l->T3 H G lo hi->lo'<=lo->hi<=hi'->X7 G is lo' hi' l
 | [],_,_,_,_,_,h,_,q1,q2=>⟨A3 q1 (A3 h.1 q2),h.2⟩
 | i::is,_,_,_,_,_,h,k,q1,q2=>by
  obtain ⟨v,r,m,e,h1,h2⟩:=h
  exact ⟨v,r,m,e,RI.mono (i:=i) h1 (k.sub (A4 _) (X7.le h2)) q1 (A4 _),X7.mono (is:=is) h2 (k.sub (B5 (RI.le h1)) (A4 _)) (A4 _) q2⟩
end
theorem X7.to {H G:Heap}{is:List It}{lo hi:Nat}{l:List V}(h:X7 H is lo hi l) (k:T3 H G lo hi):X7 G is lo hi l:=X7.mono h k (A4 _) (A4 _)
theorem X7.app {H:Heap}{js:List It}{mid hi:Nat}{m:List V}(hm:X7 H js mid hi m):∀ {is:List It}{lo:Nat}{l:List V},X7 H is lo mid l->X7 H (is++js) lo hi (l++m)
 | [],lo,l,h=>by
  obtain ⟨h1,rfl⟩:=h
  exact X7.mono hm .refl h1 (A4 _)
 | i::is,lo,l,h=>by
  obtain ⟨v,r,k,rfl,h1,h2⟩:=h
  exact ⟨v,r++m,k,rfl,h1,X7.app hm h2⟩
theorem X7.one {H:Heap}{i:It}{lo hi:Nat}{v:V}(h:RI H i lo hi v):X7 H [i] lo hi [v]:=⟨v,[],hi,rfl,h,A4 _,rfl⟩
theorem X7.last {H:Heap}{hi:Nat}{v:V}:∀ {is:List It}{lo:Nat}{l:List V},X7 H is lo hi (l++[v])->∃ is' i m,is=is'++[i]/\X7 H is' lo m l/\RI H i m hi v
 | [],lo,l,h=>absurd h.2 (by simp)
 | i::is,lo,l,h=>by
  obtain ⟨w,r,m,e,h1,h2⟩:=h
  cases l with
  | nil =>
   cases e
   match is,h2 with
   | [],h2=>exact ⟨[],i,lo,rfl,⟨A4 _,rfl⟩,RI.mono h1 .refl (A4 _) h2.1⟩
   | j::js,h2=>obtain ⟨_,_,_,e,_⟩:=h2;cases e
  | cons y l =>
   cases e
   obtain ⟨is',j,k,rfl,h3,h4⟩:=X7.last h2
   exact ⟨i::is',j,k,rfl,⟨w,l,m,rfl,h1,h3⟩,h4⟩
theorem X7.len {H:Heap}:∀ {is:List It}{lo hi:Nat}{l:List V},X7 H is lo hi l->l.length=is.length
 | [],_,_,_,h=>by rw [h.2];rfl
 | _::is,_,_,_,h=>by
  obtain ⟨v,r,m,rfl,_,h2⟩:=h
  exact congrArg (· + 1) (X7.len h2)
mutual
theorem RI.rep {H:Heap}:∀ {i:It}{lo hi:Nat}{v:V},RI H i lo hi v->I1 H (itE i) lo hi v
 | .it n ts sub,lo,hi,v,h=>by
  obtain ⟨a,b,p,q,lp,ls,rfl,hb,h1,h2,h3,h4⟩:=h
  have hle:=X7.le h4
  exact ⟨_,rfl,.atom (a:=.i _) (.cons hb.le (J7 hb h1 h2) (.cons (B5 hle) (J7 ⟨A4 _,hle,B8 _,A4 _⟩ h3 (X7.rep h4)) (.nil (A4 _))))⟩
theorem X7.rep {H:Heap}:∀ {is:List It}{lo hi:Nat}{l:List V},X7 H is lo hi l->E8 H (U9 is) lo hi l
 | [],_,_,_,h=>h
 | i::is,_,_,_,h=>by
  obtain ⟨v,r,m,e,h1,h2⟩:=h
  rw [e]
  exact E8.cons (B5 (RI.le h1)) (RI.rep h1) (X7.rep h2)
end
abbrev Cn:=Nat×Nat×Nat
noncomputable def cV (c:Cn):V:=.tup [.int (c.1:Nat),.ref c.2.1,.ref c.2.2]
inductive Ch (H:Heap):List V->List Cn->Prop
 | nil:Ch H [] []
 | cons {l lb:List V}{c:Cn}{cs:List Cn}:H[c.2.2]? = some lb->Ch H lb cs->Ch H (l++[cV c]) (c::cs)
theorem Bp9 {c:Cn}{n a b:Nat}(h:cV c=.tup [.int (n:Nat),.ref a,.ref b]):c=(n,a,b):=by
 obtain ⟨c1,c2,c3⟩:=c
 unfold cV at h
 cases h;rfl
mutual
noncomputable def cnt:It->Nat
 | .it _ _ sub=>cnts sub+1
noncomputable def cnts:List It->Nat
 | []=>0
 | i::is=>cnt i+cnts is
end
theorem dW:∀ is js:List It,cnts (is++js)=cnts is+cnts js
 | [],js=>(Nat.zero_add _).symm
 | i::is,js=>by show cnt i+cnts (is++js)=cnt i+cnts is+cnts js;rw [dW is js,Nat.add_assoc]
theorem Ad5:∀ is:List It,is.length<=cnts is
 | []=>A4 _
 | .it n ts sub::is=>by
  show is.length+1<=(cnts sub+1)+cnts is
  rw [Nat.add_comm]
  exact Nat.add_le_add (Nat.le_add_left _ _) (Ad5 is)
noncomputable def insAt:Nat->List It->It->List It
 | 0,is,x=>is++[x]
 | j+1,is,x=>match is.getLast? with
  | some (.it m ts sub)=>is.dropLast++[.it m ts (insAt j sub x)]
  | none=>is++[x]
theorem Ar3 {j m:Nat}{ts:List T}{sub is:List It}{x:It}(h:is.getLast? = some (It.it m ts sub)):insAt (j+1) is x=is.dropLast++[It.it m ts (insAt j sub x)]:=by
 show (match is.getLast? with
  | some (It.it m ts sub)=>is.dropLast++[It.it m ts (insAt j sub x)]
  | none=>is++[x])=_
 rw [h]
theorem S5 {j m:Nat}{ts:List T}{sub is:List It}{x:It}:insAt (j+1) (is++[It.it m ts sub]) x=is++[It.it m ts (insAt j sub x)]:=by
 rw [Ar3 List.getLast?_concat,List.dropLast_concat]
noncomputable def tgt (a:Nat) (cs:List Cn):Nat->Nat
 | 0=>a
 | j+1=>match cs[j]? with
  | some c=>c.2.2
  | none=>a
structure Ins (H:Heap) (a lo hi hi':Nat) (is:List It) (x:It) (v:V) (cs:List Cn) (c:Cn) (j bt:Nat) (lt:List V):Prop where
 get:H[bt]? = some lt
 len:lt.length<=cnts is
 loc:bt=a∨(lo<=bt/\bt<hi)
 new:∃ l',(H.set bt (lt++[v]))[a]? = some l'/\X7 (H.set bt (lt++[v])) (insAt j is x) lo hi' l'/\Ch (H.set bt (lt++[v])) l' (cs.take j++[c])
theorem Cu1 {H:Heap}{n:Nat}{ts:List T}{hi hi':Nat}{c:Cn}(hx:RI H (.it n ts []) hi hi' (cV c)):∀ (j:Nat) (is:List It) (lo:Nat) (l:List V) (cs:List Cn) (a:Nat),X7 H is lo hi l->Ch H l cs->j<=cs.length->H[a]? = some l->(a<lo∨hi'<=a) ->
  ∃ lt,Ins H a lo hi hi' is (.it n ts []) (cV c) cs c j (tgt a cs j) lt:=by
 intro j
 induction j with
 | zero =>
  intro is lo l cs a hr hc hj ha hlo
  have hxx:=hx
  obtain ⟨a',b',p',q',lp,ls,e,hb,h1,h2,h3,h4⟩:=hx
  have hle:=hr.le
  have ec:=Bp9 e
  have ev:T3 H (H.set a (l++[cV c])) hi hi':=T3.set (hlo.imp (fun q=>A8 q hle) id)
  refine ⟨l,ha,by rw [hr.len];exact Ad5 is,Or.inl rfl,l++[cV c],tP ha,X7.app (.one (RI.mono hxx ev (A4 _) (A4 _))) (hr.to (T3.set (hlo.imp id (fun q=>A3 (B5 (RI.le hxx)) q)))),?_⟩
  rw [List.take_zero]
  refine .cons (lb:=[]) ?_ .nil
  subst ec
  exact (ev b' hb.le h4.1).trans (by rw [h3,h4.2])
 | succ j ih =>
  intro is lo l cs a hr hc hj ha hlo
  cases hc with
  | nil=>cases hj
  | @cons l0 lb d cs' hd2 hc' =>
   obtain ⟨is',⟨mm,ts',sub⟩,m,rfl,h1,h2⟩:=X7.last hr
   obtain ⟨a',b',p',q',lp,ls,e,hb,g1,g2,g3,g4⟩:=h2
   have ed:=Bp9 e
   subst ed
   cases hd2.symm.trans g3
   have hlm:=h1.le
   have hmb:=hb.le
   obtain ⟨lt,hi1,hi2,hi3,lb',hi4,hi5,hi6⟩:=ih sub (b'+1) lb cs' b' g4 hc' (Nat.le_of_succ_le_succ hj) g3 (Or.inl (B1 _))
   have et:tgt a ((mm,a',b')::cs') (j+1)=tgt b' cs' j:=by
    cases j with
    | zero=>rfl
    | succ j =>
     show (match cs'[j]? with | some c=>c.2.2 | none=>a)=(match cs'[j]? with | some c=>c.2.2 | none=>b')
     rw [List.getElem?_eq_getElem (Nat.le_of_succ_le_succ hj)]
   rw [et]
   have hbt:b'<=tgt b' cs' j:=by
    rcases hi3 with q | q
    ·exact Nat.le_of_eq q.symm
    ·exact Nat.le_of_succ_le q.1
   have hbh:tgt b' cs' j<hi:=by
    rcases hi3 with q | q
    ·rw [q];exact g4.le
    ·exact q.2
   have hne:tgt b' cs' j≠a:=fun q=>by
    rcases hlo with p | p
    ·exact Nat.lt_irrefl _ (A8 p (A3 hlm (A3 hmb (q▸hbt))))
    ·exact Nat.lt_irrefl _ (A8 (q▸hbh) (A3 (B5 (RI.le hx)) p))
   refine ⟨lt,hi1,?_,Or.inr ⟨A3 hlm (A3 hmb hbt),hbh⟩,l0++[cV (mm,a',b')],?_,?_,?_⟩
   ·rw [dW]
    exact A3 hi2 (A3 (Nat.le_succ_of_le (A4 _)) (Nat.le_add_left _ _))
   ·rw [List.getElem?_set_ne hne];exact ha
   ·rw [S5]
    have hri:RI (H.set (tgt b' cs' j) (lt++[cV c])) (.it mm ts' (insAt j sub (.it n ts []))) m hi' (cV (mm,a',b')):=⟨a',b',p',q',lp,lb',rfl,hb,(List.getElem?_set_ne (Nat.ne_of_gt (A8 hb.ah hbt))).trans g1,g2.to (T3.set (Or.inr (A3 hb.qh hbt))),hi4,hi5⟩
    exact X7.app (.one hri) (h1.to (T3.set (Or.inr (A3 hmb hbt))))
   ·exact .cons hi4 hi6
noncomputable def jO (ds:List Nat) (n:Nat):Nat:=(ds.reverse.dropWhile fun m=>decide (n<=m)).length
theorem eV {ds:List Nat}{m n:Nat}:jO (ds++[m]) n=if n<=m then jO ds n else ds.length+1:=by
 unfold jO
 rw [List.reverse_append]
 show ((m::ds.reverse).dropWhile _).length=_
 rw [List.dropWhile_cons]
 by_cases h:n<=m
 ·rw [if_pos (decide_eq_true h),if_pos h]
 ·rw [if_neg (fun q=>h (of_decide_eq_true q)),if_neg h,List.length_cons,List.length_reverse]
theorem Av0 {ds:List Nat}{n:Nat}:jO ds n<=ds.length:=by
 unfold jO
 rw [<- List.length_reverse (as:=ds)]
 exact (List.dropWhile_sublist _).length_le
noncomputable def fR (s:List It×List Nat) (r:Nat×List T):List It×List Nat:=(insAt (jO s.2 r.1) s.1 (.it r.1 r.2 []),s.2.take (jO s.2 r.1)++[r.1])
noncomputable def oG (rs:List (Nat×List T)):List It×List Nat:=rs.foldl fR ([],[])
theorem jK {rs:List (Nat×List T)}{r:Nat×List T}:oG (rs++[r])=fR (oG rs) r:=by
 unfold oG;rw [List.foldl_append];rfl
noncomputable def itF (rs:List (Nat×List T)):List It:=(oG rs).1
theorem qR:∀ (j:Nat) (is:List It) (x:It),cnts (insAt j is x)=cnts is+cnt x
 | 0,is,x=>by show cnts (is++[x])=_;rw [dW];rfl
 | j+1,is,x=>by
  rcases List.eq_nil_or_concat is with rfl | ⟨is',i,rfl⟩
  ·show cnts [x]=_;show cnt x+0=0+cnt x;rw [Nat.zero_add];rfl
  ·rw [List.concat_eq_append]
   obtain ⟨m,ts,sub⟩:=i
   rw [S5,dW,dW]
   show cnts is'+((cnts (insAt j sub x)+1)+0)=cnts is'+((cnts sub+1)+0)+cnt x
   rw [qR j sub x]
   lia
noncomputable def fJ (s:Sh):Nat×List T:=(s.n,yV s.r)
inductive Bk where
 | gap (n:Nat)
 | head (n:Nat) (ts:List T)
 | bad
 | list (is:List It)
 | para (rs:List (List T))
 | quote (bs:List Bk)
noncomputable def yW:List (List T)->List X
 | []=>[]
 | ts::r=>.lst (encs ts)::yW r
mutual
noncomputable def bkE:Bk->X
 | .gap n=>.tup [.at (.s [103,97,112]),.at (.i (n:Nat))]
 | .head n ts=>.tup [.at (.s [104,101,97,100,105,110,103]),.at (.i (n:Nat)),.lst (encs ts)]
 | .bad=>.tup [.at (.s [104,101,97,100,105,110,103]),.at (.i (-1)),.lst []]
 | .list is=>.tup [.at (.s [108,105,115,116]),.lst (U9 is)]
 | .para rs=>.tup [.at (.s [112,97,114,97]),.lst (yW rs)]
 | .quote bs=>.tup [.at (.s [113,117,111,116,101]),.lst (bkEs bs)]
noncomputable def bkEs:List Bk->List X
 | []=>[]
 | b::bs=>bkE b::bkEs bs
end
theorem U5:∀ bs:List Bk,bkEs bs=bs.map bkE
 | []=>rfl
 | b::bs=>congrArg (bkE b::·) (U5 bs)
theorem Bz9 (as bs:List Bk):bkEs (as++bs)=bkEs as++bkEs bs:=Am7 U5 as bs
theorem R8 (bs:List Bk):(bkEs bs).length=bs.length:=wM (U5 bs)
theorem iS:∀ rs:List (List T),yW rs=rs.map fun ts=>.lst (encs ts)
 | []=>rfl
 | ts::rs=>congrArg (X.lst (encs ts)::·) (iS rs)
theorem Az6 (as bs:List (List T)):yW (as++bs)=yW as++yW bs:=Am7 iS as bs
noncomputable def joins (s:Sh) (g:List Sh):Bool:=match g with
 | t::_=>t.k==s.k&&s.k != 2
 | []=>false
noncomputable def grpF:List Sh->List (List Sh)
 | []=>[]
 | s::r=>match grpF r with
  | []=>[[s]]
  | g::gs=>bif joins s g then (s::g)::gs else [s]::g::gs
theorem Bz0 (s:Sh) (r:List Sh):∃ m gs,grpF (s::r)=(s::m)::gs:=by
 show ∃ m gs,(match grpF r with
  | []=>[[s]]
  | g::gs=>bif joins s g then (s::g)::gs else [s]::g::gs)=(s::m)::gs
 cases grpF r with
 | nil=>exact ⟨[],[],rfl⟩
 | cons g gs =>
  show ∃ m gs',(bif joins s g then (s::g)::gs else [s]::g::gs)=(s::m)::gs'
  cases joins s g with
  | true=>exact ⟨g,gs,rfl⟩
  | false=>exact ⟨[],g::gs,rfl⟩
structure Uni (s:Sh) (m:List Sh):Prop where
 same:∀ t∈m,t.k=s.k
 one:s.k=2->m=[]
noncomputable def Stp (s:Sh):List Sh->Prop
 | []=>True
 | x::_=>x.k≠s.k∨s.k=2
theorem oW:∀ {s:Sh}{m r:List Sh},Uni s m->Stp s r->grpF (s::(m++r))=(s::m)::grpF r
 | s,[],[],_,_=>rfl
 | s,[],x::r,_,h=>by
  obtain ⟨m,gs,e⟩:=Bz0 x r
  show (match grpF (x::r) with
   | []=>[[s]]
   | g::gs=>bif joins s g then (s::g)::gs else [s]::g::gs)=[s]::grpF (x::r)
  rw [e]
  have q:joins s (x::m)=false:=by
   show (x.k==s.k&&s.k != 2)=false
   rcases h with h | h
   ·rw [show (x.k==s.k)=false by simpa using h];rfl
   ·rw [h,Bool.and_comm];rfl
  show (bif joins s (x::m) then _ else _)=_
  rw [q];rfl
 | s,t::m,r,hu,h=>by
  have et:t.k=s.k:=hu.same t (.head _)
  have e2:s.k≠2:=fun q=>nomatch hu.one q
  have ih:=oW (s:=t) (m:=m) (r:=r) ⟨fun x hx=>(hu.same x (.tail _ hx)).trans et.symm,fun q=>absurd (et.symm.trans q) e2⟩ (by
   match r,h with
   | [],_=>exact trivial
   | x::r,h=>exact h.imp (fun q=>by rw [et];exact q) (fun q=>absurd q e2))
  show (match grpF (t::(m++r)) with
   | []=>[[s]]
   | g::gs=>bif joins s g then (s::g)::gs else [s]::g::gs)=_
  rw [ih]
  have q:joins s (t::m)=true:=by
   show (t.k==s.k&&s.k != 2)=true
   rw [et];simpa using e2
  show (bif joins s (t::m) then _ else _)=_
  rw [q];rfl
noncomputable def cT (rec:List (List Nat)->List Bk) (g:List Sh):Bk:=match g with
 | []=>.gap 0
 | s::_=>match s.k with
  | 0=>.gap g.length
  | 1=>.quote (rec (g.map (·.r)))
  | 2=>.head s.n (yV s.r)
  | 3=>.list (itF (g.map fJ))
  | _=>.para (g.map fun s=>yV s.r)
noncomputable def rdF:Nat->List (List Nat)->List Bk
 | 0,rows=>(grpF (rows.map (shp 9))).map (cT fun zz=>[])
 | d+1,rows=>(grpF (rows.map (shp (8 - d)))).map (cT (rdF d))
theorem Au5 (deep:Nat) (row:List Nat):(shp deep row).k<=4/\((shp deep row).k=1->deep<9)/\(shp deep row).r.length<=row.length:=by
 rcases P3 deep row with ⟨rfl,e⟩ | ⟨h0,⟨hq,e⟩ | ⟨hq,⟨h35,e⟩ | ⟨h35,⟨h45,e⟩ | ⟨h45,e⟩⟩⟩⟩
 ·rw [e];exact ⟨by decide,(fun q=>nomatch q),A4 _⟩
 ·rw [e];exact ⟨(by decide:(1:Nat)<=4),(fun zz=>of_decide_eq_true (Bool.and_eq_true_iff.mp hq).1),by show (row.drop 2).length<=_;rw [List.length_drop];exact Nat.sub_le _ _⟩
 ·rw [e];exact ⟨(by decide:(2:Nat)<=4),(fun q=>nomatch q),by show (row.drop _).length<=_;rw [List.length_drop];exact Nat.sub_le _ _⟩
 ·rw [e];exact ⟨(by decide:(3:Nat)<=4),(fun q=>nomatch q),by show (row.drop _).length<=_;rw [List.length_drop];exact Nat.sub_le _ _⟩
 ·rw [e];exact ⟨A4 _,(fun q=>nomatch q),A4 _⟩
theorem Cb7 {k:Nat}(h:k<=4):k=0∨k=1∨k=2∨k=3∨k=4:=(by decide:∀ k<5,k=0∨k=1∨k=2∨k=3∨k=4) k (Nat.lt_succ_of_le h)
theorem Ct6:∀ a<5,∀ b<5,(nmS a==nmS b)=(a==b):=by decide
theorem Bo7:∀ a<5,∀ b<5,(nmC a==nmC b)=(a==b):=by decide
theorem kX {G:Heap}{xs:List X}{a k:Nat}{l:List V}(h:G[a]? = some l) (hr:E8 G xs (a+k+1) G.length l):I1 G (.lst xs) a G.length (.ref a):=by
 have hle:=hr.le
 exact J7 ⟨A4 _,D2 h,Nat.le_succ_of_le (B4 _ _),A4 _⟩ h hr
theorem Cj1 {H G:Heap}{xs:List X}{k:Nat}{l:List V}(hr:E8 G xs (H.length+k) G.length l) (e:T3 H G 0 H.length):D0 H G:=⟨A3 (B4 _ _) hr.le,e⟩
noncomputable def BQ (H:Heap) (x:X) (Q:C2):Prop:=∀ v G,D0 H G->I1 G x H.length G.length v->Q v G
theorem W2 {G:Heap}{x:X}{lo hi:Nat}{v:V}{w:List Nat}(hh:lo<=hi) (h:I1 G x lo hi v):I1 G (.tup [.at (.s w),x]) lo hi (.tup [.str w,v]):=⟨_,rfl,.atom (a:=.s w) (.one hh h)⟩
noncomputable def Bj3:Nat->List (List Nat)->List Bk
 | 0=>fun zz=>[]
 | d+1=>rdF d
theorem kW {d deep:Nat}(h:deep+d=9) (rows:List (List Nat)):rdF d rows=(grpF (rows.map (shp deep))).map (cT (Bj3 d)):=by
 cases d with
 | zero=>obtain rfl:deep=9:=h;rfl
 | succ d =>
  obtain rfl:deep=8 - d:=(Nat.sub_eq_of_eq_add (Nat.succ.inj h).symm).symm
  rfl
noncomputable def gN (deep:Nat) (ts:List T):Prop:=∀ t∈ts,J3 W (2 * (12 - deep)+1) (enc t)
theorem gN.nil {deep:Nat}:gN deep []:=fun zz q=>nomatch q
theorem gN.add {deep:Nat}{ts:List T}{t:T}(h:gN deep ts) (k:J3 W (2 * (12 - deep)+1) (enc t)):gN deep (ts++[t]):=fun x hx=>by
 rcases List.mem_append.mp hx with q | q
 ·exact h x q
 ·rw [List.mem_singleton.mp q];exact k
theorem gN.put {deep c:Nat}{ts:List T}(h:gN deep ts):gN deep (M4 ts c):=by
 have hadd:=h.add (t:=.txt [c]) U2
 rcases List.eq_nil_or_concat ts with rfl | ⟨us,t,rfl⟩
 ·exact hadd
 ·rw [List.concat_eq_append] at h hadd ⊢
  cases t with
  | txt s=>rw [Y5];exact gN.add (fun x hx=>h x (List.mem_append_left _ hx)) U2
  | kept s=>unfold M4;simp only [List.getLast?_append,List.getLast?_singleton,Option.some_or];exact hadd
  | code s b=>unfold M4;simp only [List.getLast?_append,List.getLast?_singleton,Option.some_or];exact hadd
  | span c' ts b=>unfold M4;simp only [List.getLast?_append,List.getLast?_singleton,Option.some_or];exact hadd
  | link ts g b=>unfold M4;simp only [List.getLast?_append,List.getLast?_singleton,Option.some_or];exact hadd
theorem Bx4 {ts:List T}{c:Nat}:(M4 ts c).length<=ts.length+1:=by
 rcases List.eq_nil_or_concat ts with rfl | ⟨us,t,rfl⟩
 ·exact A4 _
 ·rw [List.concat_eq_append]
  cases t with
  | txt s=>rw [Y5,A6,A6];exact B8 _
  | kept s=>unfold M4;simp only [List.getLast?_append,List.getLast?_singleton,Option.some_or];rw [A6];exact A4 _
  | code s b=>unfold M4;simp only [List.getLast?_append,List.getLast?_singleton,Option.some_or];rw [A6];exact A4 _
  | span c' ts b=>unfold M4;simp only [List.getLast?_append,List.getLast?_singleton,Option.some_or];rw [A6];exact A4 _
  | link ts g b=>unfold M4;simp only [List.getLast?_append,List.getLast?_singleton,Option.some_or];rw [A6];exact A4 _
noncomputable def Ak5 (k:Nat):T4->Prop
 | []=>True
 | (_,p)::ctx=>ctx.length<12/\gN ctx.length p/\p.length<=k/\Ak5 k ctx
theorem Ak5.le {k m:Nat}(h:k<=m):∀ {ctx:T4},Ak5 k ctx->Ak5 m ctx
 | [],_=>trivial
 | _::ctx,q=>⟨q.1,q.2.1,A3 q.2.2.1 h,Ak5.le h q.2.2.2⟩
theorem An3 {deep:Nat}{us:List T}(hd:deep<12) (hl:us.length<=W) (h:gN (deep+1) us) {t:T}(ht:(∃ c b,t=.span c us b)∨∃ g b,t=.link us g b):J3 W (2 * (12 - deep)+1) (enc t):=by
 have e0:12 - deep=12 - (deep+1)+1:=(Nat.sub_add_cancel (Nat.sub_pos_of_lt hd)).symm
 have e:2 * (12 - deep)+1=2 * (12 - (deep+1))+1+2:=by rw [e0];rfl
 rw [e]
 rcases ht with ⟨c,b,rfl⟩ | ⟨g,b,rfl⟩
 ·exact dS hl h
 ·exact bA hl h
theorem jU {k:Nat}(hk:k+1<=W):∀ {ctx:T4}{cur:List T},cur.length<=k+1->gN ctx.length cur->Ak5 k ctx->gN 0 (M0 cur ctx)/\(M0 cur ctx).length<=k+1
 | [],cur,h1,h2,_=>⟨h2,h1⟩
 | (kd,p)::ctx,cur,h1,h2,h3=>by
  refine jU hk (ctx:=ctx) (by rw [A6];exact B3 h3.2.2.1) (h3.2.1.add (An3 h3.1 (A3 h1 hk) h2 ?_)) h3.2.2.2
  cases kd with
  | some c=>exact Or.inl ⟨c,false,rfl⟩
  | none=>exact Or.inr ⟨none,false,rfl⟩
theorem J4.fit {row:List Nat}{k:Nat}{cur r:List T}{ctx:T4}(h:J4 row k cur ctx r):row.length<=900000->k<=row.length+1->cur.length<=k->gN ctx.length cur->Ak5 k ctx->gN 0 r/\r.length<=row.length+2:=by
 have hW:W=1000000:=rfl
 induction h with
 | done hk =>
  intro h0 h1 h2 h3 h4
  have:=jU (k:=row.length+1) (by exact G9 (I6 h0 (Nat.le_of_eq hW.symm))) (A3 h2 (A3 h1 (B8 _))) h3 (h4.le h1)
  exact this
 | kept hc _ ih=>exact fun h0 h1 h2 h3 h4=>ih h0 (B3 (List.getElem?_eq_some_iff.mp hc).1) (by rw [A6];exact B3 (Nat.le_succ_of_le h2)) (h3.add bB) (h4.le (B4 _ _))
 | @code k cur r ctx hc _ ih =>
  intro h0 h1 h2 h3 h4
  have hk:=(List.getElem?_eq_some_iff.mp hc).1
  have hu:=jL hk
  refine ih h0 (Nat.le_succ_of_le (Ae8 hk)) (by rw [A6];exact A9 h2 hu) (h3.add ?_) (h4.le (B5 hu))
  unfold R3
  split<;>exact dT
 | label hc h12 _ ih=>exact fun h0 h1 h2 h3 h4=>ih h0 (B3 (B5 (List.getElem?_eq_some_iff.mp hc).1)) (B0 _) .nil ⟨h12,h3,Nat.le_succ_of_le h2,h4.le (B8 _)⟩
 | span hc _ hn h12 _ ih=>exact fun h0 h1 h2 h3 h4=>ih h0 (Nat.le_succ_of_le (Am6 hn)) (B0 _) .nil ⟨h12,h3,A3 h2 (B4 _ _),h4.le (B4 _ _)⟩
 | @shutS k c cur p r ctx hc _ ih =>
  intro h0 h1 h2 h3 h4
  exact ih h0 (B3 (B5 (List.getElem?_eq_some_iff.mp hc).1)) (by rw [A6];exact B3 h4.2.2.1) (h4.2.1.add (An3 h4.1 (by exact G9 (I6 h2 (I6 h1 (I6 h0 (Nat.le_of_eq hW.symm))))) h3 (Or.inl ⟨c,true,rfl⟩))) (h4.2.2.2.le (B8 _))
 | @shutL k cur p r ctx hc _ ih =>
  intro h0 h1 h2 h3 h4
  have hk:=(List.getElem?_eq_some_iff.mp hc).1
  have hu:=jJ (ts:=cur) hk
  exact ih h0 (Nat.le_succ_of_le (Ad4 hk)) (by rw [A6];exact A9 h4.2.2.1 hu) (h4.2.1.add (An3 h4.1 (by exact G9 (I6 h2 (I6 h1 (I6 h0 (Nat.le_of_eq hW.symm))))) h3 (Or.inr Ar1))) (h4.2.2.2.le (B5 hu))
 | plain hc _ _ _ _ _ _ ih=>exact fun h0 h1 h2 h3 h4=>ih h0 (B3 (B5 (List.getElem?_eq_some_iff.mp hc).1)) (A3 Bx4 (B3 h2)) h3.put (h4.le (B8 _))
theorem Ba2 {row:List Nat}(h:row.length<=900000):J3 W 26 (.lst (encs (yV row))):=by
 obtain ⟨h1,h2⟩:=(pS row).fit h (B0 _) (B0 _) .nil trivial
 exact eX (m:=25) (A3 h2 (A3 (Nat.add_le_add_right h 2) (by decide))) h1
mutual
noncomputable def dI:It->Nat
 | .it _ _ sub=>dIs sub+1
noncomputable def dIs:List It->Nat
 | []=>0
 | i::is=>max (dI i) (dIs is)
end
theorem iX:∀ as bs:List It,dIs (as++bs)=max (dIs as) (dIs bs)
 | [],bs=>(Nat.zero_max _).symm
 | a::as,bs=>by show max (dI a) (dIs (as++bs))=max (max (dI a) (dIs as)) (dIs bs);rw [iX as bs,Nat.max_assoc]
theorem Ba8 {m n:Nat}{ts:List T}:∀ {j:Nat}{is:List It},dIs is<=m->j<m->dIs (insAt j is (.it n ts []))<=m
 | 0,is,h,hj=>by show dIs (is++[_])<=m;rw [iX];exact Nat.max_le.mpr ⟨h,hj⟩
 | j+1,is,h,hj=>by
  rcases List.eq_nil_or_concat is with rfl | ⟨is',i,rfl⟩
  ·show max 1 0<=m;exact Nat.max_le.mpr ⟨A9 (B0 _) hj,B0 _⟩
  ·rw [List.concat_eq_append] at h ⊢
   obtain ⟨m',ts',sub⟩:=i
   rw [iX] at h
   rw [S5,iX]
   have h1:=Nat.max_le.mp h
   have h2:dIs sub+1<=m:=(Nat.max_le.mp h1.2).1
   obtain ⟨m0,rfl⟩:∃ m0,m=m0+1:=⟨m - 1,by exact (Nat.sub_add_cancel (G9 hj)).symm⟩
   exact Nat.max_le.mpr ⟨h1.1,Nat.max_le.mpr ⟨B3 (Ba8 (j:=j) (is:=sub) (Nat.le_of_succ_le_succ h2) (Nat.lt_of_succ_lt_succ hj)),B0 _⟩⟩
mutual
noncomputable def PI:It->Prop
 | .it _ ts sub=>J3 W 26 (.lst (encs ts))/\PIs sub
noncomputable def PIs:List It->Prop
 | []=>True
 | i::is=>PI i/\PIs is
end
theorem eY:∀ {as bs:List It},PIs (as++bs)↔PIs as/\PIs bs
 | [],bs=>⟨fun h=>⟨trivial,h⟩,fun h=>h.2⟩
 | a::as,bs=>⟨fun h=>⟨⟨h.1,(eY.mp h.2).1⟩,(eY.mp h.2).2⟩,fun h=>⟨h.1.1,eY.mpr ⟨h.1.2,h.2⟩⟩⟩
theorem Bc1 {n:Nat}{ts:List T}(ht:J3 W 26 (.lst (encs ts))):∀ {j:Nat}{is:List It},PIs is->PIs (insAt j is (.it n ts []))
 | 0,is,h=>eY.mpr ⟨h,⟨ht,trivial⟩,trivial⟩
 | j+1,is,h=>by
  rcases List.eq_nil_or_concat is with rfl | ⟨is',i,rfl⟩
  ·exact ⟨⟨ht,trivial⟩,trivial⟩
  ·rw [List.concat_eq_append] at h ⊢
   obtain ⟨m',ts',sub⟩:=i
   rw [S5]
   have h1:=eY.mp h
   exact eY.mpr ⟨h1.1,⟨h1.2.1.1,Bc1 ht h1.2.1.2⟩,trivial⟩
theorem Y7 (is:List It):(U9 is).length=is.length:=wM (dR is)
structure ItOk (s:List It×List Nat) (k:Nat):Prop where
 dep:dIs s.1<=9
 cnt:cnts s.1<=k
 par:PIs s.1
 ds:∀ i m:Nat,s.2[i]? = some m->i<m
theorem Cn9 {n:Nat}(hn:0<n):∀ (k:Nat) (ds:List Nat),ds.length=k->(∀ i m:Nat,ds[i]? = some m->i<m)->jO ds n<n
 | 0,ds,e,h=>by rw [List.length_eq_zero_iff.mp e];exact hn
 | k+1,ds,e,h=>by
  rcases List.eq_nil_or_concat ds with rfl | ⟨ds',m,rfl⟩
  ·exact hn
  ·rw [List.concat_eq_append] at h e ⊢
   rw [A6] at e
   rw [eV]
   by_cases q:n<=m
   ·rw [if_pos q]
    exact Cn9 hn k ds' (Nat.succ.inj e) fun i x hx=>h i x (by rw [List.getElem?_append_left (List.getElem?_eq_some_iff.mp hx).1];exact hx)
   ·rw [if_neg q]
    have:=h ds'.length m (by rw [List.getElem?_append_right (A4 _),Nat.sub_self];rfl)
    exact G9 (I6 this (Nat.lt_of_not_le q))
theorem ItOk.step {s:List It×List Nat}{k n:Nat}{ts:List T}(h:ItOk s k) (hn:1<=n/\n<=9) (ht:J3 W 26 (.lst (encs ts))):ItOk (fR s (n,ts)) (k+1):=by
 have hj:=Cn9 (n:=n) hn.1 _ s.2 rfl h.ds
 refine ⟨Ba8 h.dep (A8 hj hn.2),?_,Bc1 ht h.par,fun i m hm=>?_⟩
 ·show cnts (insAt _ _ _)<=_
  rw [qR];exact B3 h.cnt
 ·replace hm:(s.2.take (jO s.2 n)++[n])[i]? = some m:=hm
  have hl:(s.2.take (jO s.2 n)).length=jO s.2 n:=by rw [List.length_take];exact Nat.min_eq_left Av0
  by_cases q:i<jO s.2 n
  ·rw [List.getElem?_append_left (by rw [hl];exact q),List.getElem?_take_of_lt q] at hm
   exact h.ds i m hm
  ·have hi:=(List.getElem?_eq_some_iff.mp hm).1
   rw [A6,hl] at hi
   have ei:i=jO s.2 n:=Nat.le_antisymm (Nat.le_of_lt_succ hi) (Nat.not_lt.mp q)
   rw [ei,List.getElem?_append_right (Nat.le_of_eq hl),hl,Nat.sub_self] at hm
   cases hm
   rw [ei];exact hj
theorem Bp0:∀ (k:Nat) (rs:List (Nat×List T)),rs.length=k->(∀ r∈rs,(1<=r.1/\r.1<=9)/\J3 W 26 (.lst (encs r.2)))->ItOk (oG rs) k
 | 0,rs,e,h=>by rw [List.length_eq_zero_iff.mp e];exact ⟨B0 _,A4 _,trivial,fun i m q=>nomatch q⟩
 | k+1,rs,e,h=>by
  rcases List.eq_nil_or_concat rs with rfl | ⟨rs',r,rfl⟩
  ·cases e
  ·rw [List.concat_eq_append] at h e ⊢
   rw [A6] at e
   rw [jK]
   have hr:=h r (List.mem_append_right _ (.head _))
   exact (Bp0 k rs' (Nat.succ.inj e) fun x hx=>h x (List.mem_append_left _ hx)).step hr.1 hr.2
theorem iT (rs:List (List T)):(yW rs).length=rs.length:=wM (iS rs)
theorem oV:∀ {ss:List Sh}{g:List Sh},g∈grpF ss->∃ s m,g=s::m/\Uni s m/\(∀ x∈s::m,x∈ss)/\g.length<=ss.length
 | [],g,h=>nomatch h
 | s::r,g,h=>by
  replace h:g∈(match grpF r with
   | []=>[[s]]
   | g::gs=>bif joins s g then (s::g)::gs else [s]::g::gs):=h
  have old:g∈grpF r->∃ s' m,g=s'::m/\Uni s' m/\(∀ x∈s'::m,x∈s::r)/\g.length<=(s::r).length:=fun q=>by
   obtain ⟨s',m,e,hu,hm,hl⟩:=oV q
   exact ⟨s',m,e,hu,fun x hx=>.tail _ (hm x hx),Nat.le_succ_of_le hl⟩
  have one:g=[s]->∃ s' m,g=s'::m/\Uni s' m/\(∀ x∈s'::m,x∈s::r)/\g.length<=(s::r).length:=fun q=>⟨s,[],q,⟨fun zz q=>(nomatch q),fun zz=>rfl⟩,fun x hx=>by rw [List.mem_singleton.mp hx];exact .head _,by rw [q];exact B3 (B0 _)⟩
  cases hg:grpF r with
  | nil=>rw [hg] at h;exact one (List.mem_singleton.mp h)
  | cons g0 gs =>
   rw [hg] at h old
   replace h:g∈(bif joins s g0 then (s::g0)::gs else [s]::g0::gs):=h
   cases hj:joins s g0 with
   | false =>
    rw [hj] at h
    rcases List.mem_cons.mp h with q | q
    ·exact one q
    ·exact old q
   | true =>
    rw [hj] at h
    rcases List.mem_cons.mp h with q | q
    ·obtain ⟨t,m,rfl,hu,hm,hl⟩:=oV (ss:=r) (g:=g0) (by rw [hg];exact .head _)
     have hj':t.k=s.k/\s.k≠2:=by
      have:(t.k==s.k&&s.k != 2)=true:=hj
      simpa using this
     refine ⟨s,t::m,q,⟨fun x hx=>?_,fun q=>absurd q hj'.2⟩,fun x hx=>?_,by rw [q];exact B3 hl⟩
     ·rcases List.mem_cons.mp hx with rfl | hx
      ·exact hj'.1
      ·exact (hu.same x hx).trans hj'.1
     ·rcases List.mem_cons.mp hx with rfl | hx
      ·exact .head _
      ·exact .tail _ (hm x hx)
    ·exact old (.tail _ q)
theorem Bw6 {deep:Nat}{row:List Nat}(h:(shp deep row).k=3):1<=(shp deep row).n/\(shp deep row).n<=9:=by
 rcases P3 deep row with ⟨rfl,e⟩ | ⟨h0,⟨hq,e⟩ | ⟨hq,⟨h35,e⟩ | ⟨h35,⟨h45,e⟩ | ⟨h45,e⟩⟩⟩⟩
 ·rw [e] at h;cases h
 ·rw [e] at h;cases h
 ·rw [e] at h;cases h
 ·rw [e]
  obtain ⟨h1,h2⟩:=Bool.and_eq_true_iff.mp h45
  exact ⟨of_decide_eq_true h1,of_decide_eq_true (Bool.and_eq_true_iff.mp h2).1⟩
 ·rw [e] at h;cases h
noncomputable def Cb4 (r:Nat×List T):It:=.it r.1 r.2 []
noncomputable def cc (cs:List Cn) (i:Nat):Cn:=(cs[i]?).getD (0,0,0)
theorem kZ {cs:List Cn}{i:Nat}(h:i<cs.length):cs[i]? = some (cc cs i):=by
 unfold cc;rw [List.getElem?_eq_getElem h];rfl
structure Chn (dz:Nat->Nat) (k:Nat) (js:List Nat):Prop where
 lt:∀ j∈js,j<k
 srt:js.Pairwise (· < ·)
 gap:∀ x,x<k->x ∉ js->∃ y∈js,x<y/\dz y<=dz x
theorem Az9 {A:List Nat}{x:Nat}(hs:A.Pairwise (· < ·)) (hm:x∈A) (hl:∀ t∈A,t<x+1):∃ A',A=A'++[x]:=by
 rcases List.eq_nil_or_concat A with rfl | ⟨A',y,rfl⟩
 ·cases hm
 ·rw [List.concat_eq_append] at *
  have hy:=hl y (List.mem_append_right _ (.head _))
  rcases List.mem_append.mp hm with q | q
  ·have:=(List.pairwise_append.mp hs).2.2 x q y (.head _)
   exact fkf (I6 this hy)
  ·rw [List.mem_singleton.mp q];exact ⟨A',rfl⟩
structure NS where
 m:Nat
 A:List Nat
theorem Ck0 {n a N T0 k:Nat}{cs:List Cn}{x2:Option V}{js:List Nat}{G:Heap}{R:E6}(hN:G[N]? = some (cs.map cV)) (hk:k<cs.length) (hc:Chn (fun i=>(cc cs i).1) k js)
  (h:∀ A B,js=A++B->jO (js.map fun i=>(cc cs i).1) (cc cs k).1=A.length->(∀ y∈B,(cc cs k).1<=(cc cs y).1)->∀ z:Int,((A=[]/\z<0)∨∃ A' t,A=A'++[t]/\z=(t:Nat))->R .next [some (.ref a),some (.ref N),x2,some (.ref T0),some (.int (k:Nat)),some (.int z)] G) :
  iC (callN P n) (.whl (.and [.cmp .ge (.var 5) (.int 0),.cmp .ge (.idx (.idx (.var 1) (.var 5)) (.int 0)) (.idx (.idx (.var 1) (.var 4)) (.int 0))]) [.assign 5 (.bin .sub (.var 5) (.int 1))]) [some (.ref a),some (.ref N),x2,some (.ref T0),some (.int (k:Nat)),some (.int ((k:Int) - 1))] R G:=by
 refine mD (σ:=NS) (fun s=>[some (.ref a),some (.ref N),x2,some (.ref T0),some (.int (k:Nat)),some (.int ((s.m:Int) - 1))]) (fun s G'=>G'=G/\s.m<=k/\(∃ B,js=s.A++B)/\(∀ t∈s.A,t<s.m)/\(∀ y∈js,y ∉ s.A->(cc cs k).1<=(cc cs y).1)/\(∀ x,x<s.m->x∈js->x∈s.A)/\jO (s.A.map fun i=>(cc cs i).1) (cc cs k).1=jO (js.map fun i=>(cc cs i).1) (cc cs k).1) (fun s=>s.m) (fun s G' hI K hK=>?_) ⟨k,js⟩ ⟨rfl,A4 _,⟨[],(List.append_nil _).symm⟩,hc.lt,fun y h1 h2=>absurd h1 h2,fun zz zz q=>q,rfl⟩
 obtain ⟨m,A⟩:=s
 obtain ⟨rfl,hm,⟨B,hB⟩,hlt,hrej,hin,hjo⟩:=hI
 dsimp only at hm hB hlt hrej hin hjo hK ⊢
 have hsA:A.Pairwise (· < ·):=by have:=hc.srt;rw [hB] at this;exact (List.pairwise_append.mp this).1
 have hB':∀ y∈B,(cc cs k).1<=(cc cs y).1:=fun y hy=>hrej y (by rw [hB];exact List.mem_append_right _ hy) fun q=>by
  have:=hc.srt
  rw [hB] at this
  exact Nat.lt_irrefl _ ((List.pairwise_append.mp this).2.2 y q y hy)
 cases m with
 | zero =>
  refine .stop (D1 (b:=false) (b2:=true) (fun zz h=>h) fun q=>nomatch q) (h A B hB ?_ hB' _ (Or.inl ⟨?_,by decide⟩))
  ·rw [<- hjo]
   cases A with
   | nil=>rfl
   | cons t A=>exact absurd (hlt t (.head _)) (Nat.not_lt_zero _)
  ·cases A with
   | nil=>rfl
   | cons t A=>exact absurd (hlt t (.head _)) (Nat.not_lt_zero _)
 | succ m =>
  have em:((m+1:Nat):Int) - 1=(m:Nat):=by lia
  rw [em]
  have hgm:(cs.map cV)[m]? = some (cV (cc cs m)):=by rw [C0,kZ (Nat.lt_trans hm hk)];rfl
  have hgk:(cs.map cV)[k]? = some (cV (cc cs k)):=by rw [C0,kZ hk];rfl
  have t1:∀ {b:Bool},decide (((cc cs k).1:Int)<=((cc cs m).1:Nat))=b->Ev (callN P n) [some (.ref a),some (.ref N),x2,some (.ref T0),some (.int (k:Nat)),some (.int (m:Nat))] G' (.and [.cmp .ge (.var 5) (.int 0),.cmp .ge (.idx (.idx (.var 1) (.var 5)) (.int 0)) (.idx (.idx (.var 1) (.var 4)) (.int 0))]) (.bool b):=fun {b} e =>
   G6 (D1 (b:=true) (G6 (D9 (fun zz h=>h) (fun zz h=>h) Bj1) (decide_eq_true (Int.natCast_nonneg _))) fun zz=>H8 (G6 (D9 (F9 (F9 (fun zz h=>h) (fun zz h=>h) (L0 hN hgm)) (fun zz h=>h) rfl) (F9 (F9 (fun zz h=>h) (fun zz h=>h) (L0 hN hgk)) (fun zz h=>h) rfl) Bj1) e)) (Bool.true_and b)
  by_cases hd:(cc cs k).1<=(cc cs m).1
  ·refine .go (t1 (decide_eq_true (Int.ofNat_le.mpr hd))) ?_
   by_cases hmA:m∈A
   ·obtain ⟨A',rfl⟩:=Az9 hsA hmA hlt
    have hnot:m ∉ A':=fun q=>Nat.lt_irrefl _ ((List.pairwise_append.mp hsA).2.2 m q m (.head _))
    refine hK ⟨m,A'⟩ _ (B1 _) ⟨rfl,Nat.le_of_succ_le hm,⟨m::B,by rw [hB];simp⟩,fun t ht=>(List.pairwise_append.mp hsA).2.2 t ht m (.head _),fun y h1 h2=>?_,fun x h1 h2=>?_,?_⟩
    ·by_cases q:y=m
     ·rw [q];exact hd
     ·exact hrej y h1 fun p=>by
       rcases List.mem_append.mp p with p | p
       ·exact h2 p
       ·exact q (List.mem_singleton.mp p)
    ·rcases List.mem_append.mp (hin x (Nat.lt_succ_of_lt h1) h2) with p | p
     ·exact p
     ·rw [List.mem_singleton.mp p] at h1;exact absurd h1 (Nat.lt_irrefl _)
    ·rw [<- hjo,List.map_append]
     show _=jO (A'.map (fun i=>(cc cs i).1)++[(cc cs m).1]) _
     rw [eV,if_pos hd]
   ·refine hK ⟨m,A⟩ _ (B1 _) ⟨rfl,Nat.le_of_succ_le hm,⟨B,hB⟩,fun t ht=>?_,hrej,fun x h1 h2=>hin x (Nat.lt_succ_of_lt h1) h2,hjo⟩
    exact Nat.lt_of_le_of_ne (Nat.le_of_lt_succ (hlt t ht)) fun (q:t=m)=>hmA (q▸ht)
  ·have hmA:m∈A:=by
    refine Classical.not_not.mp fun q=>?_
    have hmj:m ∉ js:=fun p=>q (hin m (B1 _) p)
    obtain ⟨y,hy1,hy2,hy3⟩:=hc.gap m hm hmj
    have:y ∉ A:=fun p=>by have:=hlt y p;exact fkf (I6 hy2 this)
    exact hd (A3 (hrej y hy1 this) hy3)
   obtain ⟨A',rfl⟩:=Az9 hsA hmA hlt
   refine .stop (t1 (decide_eq_false fun q=>hd (Int.ofNat_le.mp q))) (h (A'++[m]) B hB ?_ hB' _ (Or.inr ⟨A',m,rfl,rfl⟩))
   rw [<- hjo,List.map_append]
   show jO (A'.map (fun i=>(cc cs i).1)++[(cc cs m).1]) _=_
   rw [eV,if_neg hd,B6,A6];rfl
theorem Chn.next {dz:Nat->Nat}{k:Nat}{A B:List Nat}(h:Chn dz k (A++B)) (hB:∀ y∈B,dz k<=dz y):Chn dz (k+1) (A++[k]):=by
 have hs:=List.pairwise_append.mp h.srt
 refine ⟨fun j hj=>?_,List.pairwise_append.mpr ⟨hs.1,List.pairwise_singleton _ _,fun x hx y hy=>?_⟩,fun x hx hn=>?_⟩
 ·rcases List.mem_append.mp hj with q | q
  ·exact Nat.lt_succ_of_lt (h.lt j (List.mem_append_left _ q))
  ·rw [List.mem_singleton.mp q];exact B1 _
 ·rw [List.mem_singleton.mp hy];exact h.lt x (List.mem_append_left _ hx)
 ·have hxk:x<k:=Nat.lt_of_le_of_ne (Nat.le_of_lt_succ hx) fun e=>hn (e▸List.mem_append_right _ (.head _))
  have hxA:x ∉ A:=fun q=>hn (List.mem_append_left _ q)
  by_cases q:x∈B
  ·exact ⟨k,List.mem_append_right _ (.head _),hxk,hB x q⟩
  ·obtain ⟨y,h1,h2,h3⟩:=h.gap x hxk fun p=>by
    rcases List.mem_append.mp p with p | p
    ·exact hxA p
    ·exact q p
   rcases List.mem_append.mp h1 with p | p
   ·exact ⟨y,List.mem_append_left _ p,h2,h3⟩
   ·exact ⟨k,List.mem_append_right _ (.head _),hxk,A3 (hB y p) h3⟩
structure Cx8 (H:Heap) (rs:List (Nat×List T)) (cs:List Cn) (N k:Nat) (G:Heap):Prop where
 grow:D0 H G
 len:G.length=N+2
 nod:G[N]? = some (cs.map cV)
 st:∃ js l m,Chn (fun i=>(cc cs i).1) k js/\G[N+1]? = some l/\X7 G (itF (rs.take k)) H.length m l/\X7 G ((rs.drop k).map Cb4) m N ((cs.drop k).map cV)/\Ch G l (js.map (cc cs))/\(js.map fun i=>(cc cs i).1)=(oG (rs.take k)).2
 cnt:cnts (itF (rs.take k))<=k
structure NT where
 e2:Option V
 e4:Option V
 e5:Option V
theorem Ci4 {n a N:Nat}{rs:List (Nat×List T)}{cs:List Cn}{H G:Heap}{Q:C2}{x2 x4 x5:Option V}(hcs:cs.length=rs.length) (hd:∀ i,i<rs.length->∀ r,rs[i]? = some r->(cc cs i).1=r.1) (hlen:rs.length<=1000000) (hI:Cx8 H rs cs N 0 G)
  (h:BQ H (.lst (U9 (itF rs))) Q):C6 (callN P n) (eE.drop 2) [some (.ref a),some (.ref N),x2,some (.ref (N+1)),x4,x5] (E1 Q) G:=by
 have hlim:I3=16777216:=rfl
 refine H5 (dF (σ:=NT) (fun s=>[some (.ref a),some (.ref N),s.e2,some (.ref (N+1)),s.e4,s.e5]) (fun k zz G=>Cx8 H rs cs N k G) (n:=rs.length) (by exact G9 hlen) (fun k s G hk hI K hK=>?_) (fun s G hI=>?_) ⟨x2,x4,x5⟩ (iB (P1 (fun zz h=>h) (N0 hI.nod)) (by rw [B6,hcs])) hI)
 ·obtain ⟨js,l,m,hc,ht,hr1,hr2,hch,hds⟩:=hI.st
  have hkc:k<cs.length:=hcs▸hk
  have hrk:rs[k]? = some rs[k]:=List.getElem?_eq_getElem hk
  generalize rs[k]=r at hrk
  have hdk:=hd k hk r hrk
  have hnk:(cs.map cV)[k]? = some (cV (cc cs k)):=by rw [C0,kZ hkc];rfl
  refine C9 (fun zz h=>h) (H5 (Ck0 hI.nod hkc hc fun A B hAB hj hB z hz=>?_))
  subst hAB
  have e1:rs.drop k=r::rs.drop (k+1):=by
   obtain ⟨p,q⟩:=List.getElem?_eq_some_iff.mp hrk
   rw [List.drop_eq_getElem_cons p,q]
  have e2:cs.drop k=cc cs k::cs.drop (k+1):=by
   obtain ⟨p,q⟩:=List.getElem?_eq_some_iff.mp (kZ hkc)
   rw [List.drop_eq_getElem_cons p,q]
  have e3:rs.take (k+1)=rs.take k++[r]:=by rw [List.take_add_one,hrk];rfl
  rw [e1,e2] at hr2
  obtain ⟨v,rr,m',e,hx,hr3⟩:=hr2
  cases e
  have hm'N:=hr3.le
  have hmm:=RI.le hx
  have hAl:A.length<=((A++B).map (cc cs)).length:=by rw [B6,A6];exact B4 _ _
  obtain ⟨lt,hi1,hi2,hi3,l',hi4,hi5,hi6⟩:=Cu1 hx A.length _ H.length l ((A++B).map (cc cs)) (N+1) hr1 hch hAl ht (Or.inr (Nat.le_succ_of_le hm'N))
  have hes:oG (rs.take (k+1))=fR (oG (rs.take k)) r:=by rw [e3,jK]
  have hjk:jO (oG (rs.take k)).2 r.1=A.length:=by rw [<- hds,<- hdk];exact hj
  have hltl:lt.length<I3:=by have:=hI.cnt;exact G9 (I6 hi2 (I6 this (I6 hk (I6 hlen (Nat.le_of_eq hlim.symm)))))
  have hbt:∀ {bt:Nat},bt=tgt (N+1) ((A++B).map (cc cs)) A.length->bt=N+1∨bt<m:=fun {bt} e=>by
   rw [e];exact hi3.imp id (fun q=>q.2)
  have next:∀ {e2 e4 e5:Option V}{bt:Nat},tgt (N+1) ((A++B).map (cc cs)) A.length=bt->K [some (.ref a),some (.ref N),e2,some (.ref (N+1)),e4,e5] (G.set bt (lt++[cV (cc cs k)])):=fun {e2 e4 e5 bt} eb=>by
   subst eb
   have hb:=hbt rfl
   refine hK ⟨e2,e4,e5⟩ _ ⟨⟨by rw [List.length_set];exact hI.grow.len,hI.grow.old.trans (T3.set (Or.inr ?_))⟩,by rw [List.length_set];exact hI.len,?_,⟨A++[k],l',m',hc.next hB,hi4,?_,?_,?_,?_⟩,?_⟩
   ·rcases hi3 with q | q
    ·rw [q];have:=hI.grow.len;have:=hr1.le;exact G9 (I6 this (I6 hmm hm'N))
    ·exact q.1
   ·rw [List.getElem?_set_ne (by rcases hb with q | q<;>lia)];exact hI.nod
   ·unfold itF
    rw [hes]
    show X7 _ (insAt (jO (oG (rs.take k)).2 r.1) (oG (rs.take k)).1 (Cb4 r)) _ _ _
    rw [hjk];exact hi5
   ·exact hr3.to (T3.set (by rcases hb with q | q;exact Or.inr (by exact G9 (Nat.le_of_eq q.symm));exact Or.inl (by exact G9 (I6 q hmm))))
   ·have e:(A++[k]).map (cc cs)=((A++B).map (cc cs)).take A.length++[cc cs k]:=by rw [List.map_append,List.map_append,List.take_left' (B6 _)];rfl
    rw [e];exact hi6
   ·rw [hes]
    show _=(oG (rs.take k)).2.take (jO (oG (rs.take k)).2 r.1)++[r.1]
    rw [hjk,<- hds,List.map_append,List.map_append,List.take_left' (B6 _),<- hdk];rfl
   ·unfold itF
    rw [hes]
    show cnts (insAt _ _ _)<=_
    rw [qR];exact B3 hI.cnt
  rcases hz with ⟨rfl,hz⟩ | ⟨A',t,rfl,rfl⟩
  ·exact C5 (G6 (fun zz h=>h) (decide_eq_true hz)) (J2 (fun zz h=>h) (F9 (fun zz h=>h) (fun zz h=>h) (L0 hI.nod hnk)) hi1 hltl (next rfl))
  ·have htk:t<k:=hc.lt t (List.mem_append_left _ (List.mem_append_right _ (.head _)))
   have hnt:(cs.map cV)[t]? = some (cV (cc cs t)):=by rw [C0,kZ (Nat.lt_trans htk hkc)];rfl
   have et:tgt (N+1) ((A'++[t]++B).map (cc cs)) (A'++[t]).length=(cc cs t).2.2:=by
    rw [A6]
    show (match ((A'++[t]++B).map (cc cs))[A'.length]? with | some c=>c.2.2 | none=>N+1)=_
    rw [A7,C0,List.getElem?_append_right (A4 _),Nat.sub_self];rfl
   rw [et] at hi1
   exact D6 (G6 (fun zz h=>h) (decide_eq_false (Int.not_lt.mpr (Int.natCast_nonneg _)))) (J2 (F9 (F9 (fun zz h=>h) (fun zz h=>h) (L0 hI.nod hnt)) (fun zz h=>h) rfl) (F9 (fun zz h=>h) (fun zz h=>h) (L0 hI.nod hnk)) hi1 hltl (next et))
 ·obtain ⟨js,l,m,hc,ht,hr1,hr2,hch,hds⟩:=hI.st
  rw [List.take_length] at hr1
  have hle:=hr2.le
  have hlen:=hI.len
  refine h _ G hI.grow (J7 (p:=H.length) (q:=m) ⟨?_,by exact G9 (Nat.le_of_eq hlen.symm),A4 _,by exact G9 (I6 hle (Nat.le_of_eq hlen.symm))⟩ ht hr1.rep)
  have:=hr1.le;exact G9 (I6 this hle)
noncomputable def sgB (c:Nat):Bool:=decide (32<=c)&&(decide (c<=126)&&c != 37)
theorem Ch6 {n c:Nat}{H:Heap}(hc:sgB c=true) (Q:C2) (h:Q (.bool true) H):callN P (n+1) "is_sign" [.str [c]] Q H:=by
 have hc':32<=c/\c<=126/\c≠37:=by unfold sgB at hc;simpa using hc
 exact As0 (C9 (Cy0 (fun zz h=>h)) (E0 (D1 (b:=true) (b2:=true) (G6 (D9 (fun zz h=>h) (fun zz h=>h) yY) (decide_eq_true (by exact Int.ofNat_le.mpr (G9 hc'.1)))) fun zz=>D1 (b:=true) (b2:=true) (G6 (D9 (fun zz h=>h) (fun zz h=>h) yY) (decide_eq_true (by exact Int.ofNat_le.mpr (G9 hc'.2.1)))) fun zz=>H8 (G6 (D9 (fun zz h=>h) (fun zz h=>h) Au1) (by simp;lia))) h))
theorem bH {n:Nat}{s:List Nat}{H:Heap}(hs:∀ c∈s,sgB c=true) (Q:C2) (h:Q (.bool true) H):callN P (n+2) "is_row" [.str s] Q H:=by
 refine Bh2 (C1 (fun zz h=>h) (H5 (Cs0 (σ:=Option V) (fun e=>[some (.str s),e]) (fun zz zz G=>G=H) (t:=s) (fun i e G c hc hI K hK=>?_) (fun e G hI=>?_) none (fun zz h=>h) rfl)))
 ·subst hI
  exact C1 (tK (t:=true) (C8 (fun zz h=>h) (Ch6 (hs c (B9 hc))))) (hK _ _ rfl)
 ·subst hI
  exact h
theorem uL {c:Nat}:∀ {s:List Nat},splitAt c s≠[]/\(splitAt c s).length<=s.length+1/\∀ r∈splitAt c s,r.length<=s.length
 | []=>⟨fun q=>(nomatch q),A4 _,fun r h=>by rw [List.mem_singleton.mp h];exact A4 _⟩
 | y::l=>by
  have ih:=uL (c:=c) (s:=l)
  show (if y=c then []::splitAt c l else match splitAt c l with | []=>[[y]] | w::r=>(y::w)::r)≠[]/\(if y=c then []::splitAt c l else match splitAt c l with | []=>[[y]] | w::r=>(y::w)::r).length<=l.length+1+1/\∀ r∈(if y=c then []::splitAt c l else match splitAt c l with | []=>[[y]] | w::r=>(y::w)::r),r.length<=l.length+1
  by_cases hy:y=c
  ·rw [if_pos hy]
   refine ⟨fun q=>(nomatch q),B3 ih.2.1,fun r h=>?_⟩
   rcases List.mem_cons.mp h with rfl | h
   ·exact B0 _
   ·exact Nat.le_succ_of_le (ih.2.2 r h)
  ·rw [if_neg hy]
   cases hs:splitAt c l with
   | nil=>exact absurd hs ih.1
   | cons w q =>
    rw [hs] at ih
    refine ⟨fun q=>(nomatch q),Nat.le_succ_of_le ih.2.1,fun r h=>?_⟩
    rcases List.mem_cons.mp h with rfl | h
    ·exact B3 (ih.2.2 w (.head _))
    ·exact Nat.le_succ_of_le (ih.2.2 r (.tail _ h))
noncomputable def pH (r:List Nat):Prop:=r.length<=900000/\∀ x∈r,x<1114112
theorem Bg6 {n a:Nat}{ss:List Sh}{Q:C2}{H:Heap}(ha:H[a]? = some (ss.map yS)) (hl:ss.length<=900000) (hs:∀ s∈ss,pH s.r) (h:BQ H (.lst (U9 (itF (ss.map fJ)))) Q):callN P (n+42) "_law_items" [.ref a] Q H:=by
 have hlim:I3=16777216:=rfl
 have hlm:(ss.map yS).length=ss.length:=B6 _
 refine yH (P2 (wG ?_ (by rw [hlm];exact G9 (I6 hl (Nat.le_of_eq hlim.symm))) (fun i acc G=>D0 H G/\∃ cs:List Cn,acc=cs.map cV/\X7 G (((ss.map fJ).take i).map Cb4) H.length G.length acc/\cs.map (·.1)=((ss.map fJ).take i).map (·.1)) (fun i acc G hI=>hI.1.get ha) (fun i acc G v hv hi hI K hK=>?_) ⟨.refl,[],rfl,⟨A4 _,rfl⟩,rfl⟩ _ fun acc G hacc hI=>?_))
 ·exact fun zz h=>h
 ·rw [C0] at hv
  obtain ⟨t,ht,rfl⟩:=Option.map_eq_some_iff.mp hv
  obtain ⟨hgr,cs,rfl,hri,hds⟩:=hI
  have hrow:=hs t (B9 ht)
  refine W8 (H9 (v:=.int (t.n:Nat)) (fun zz h=>h) (aB (vs:=[.str t.r]) (fun zz h=>h) (lT hrow.1 hrow.2 fun b l G' us g hb hlo hrep zz zz hP=>Ab8 ?_)))
  rw [Am5 hP] at hrep
  have g2:D0 G (G'++[[]]):=g.trans .one
  have hx:RI (G'++[[]]) (Cb4 (fJ t)) G.length (G'++[[]]:Heap).length (cV (t.n,b,G'.length)):=⟨b,G'.length,G.length,b,l,[],rfl,⟨hlo,D2 hb,A4 _,B5 (D2 hb)⟩,R6 hb,hrep.grow .one (B5 (D2 hb)),D3,by rw [aL];exact A4 _,rfl⟩
  have ek:(ss.map fJ).take (i+1)=(ss.map fJ).take i++[fJ t]:=by rw [List.take_add_one,C0,ht];rfl
  refine hK _ _ ⟨hgr.trans g2,cs++[(t.n,b,G'.length)],by rw [List.map_append];rfl,?_,?_⟩
  ·rw [ek,List.map_append]
   exact X7.app (.one hx) (hri.to (g2.old.sub (B0 _) (A4 _)))
  ·rw [ek,List.map_append,List.map_append,hds];rfl
 ·obtain ⟨hgr,cs,rfl,hri,hds⟩:=hI
  rw [hlm,List.take_of_length_le (by rw [B6];exact A4 _)] at hri hds
  have hcl:cs.length=(ss.map fJ).length:=by have:=congrArg List.length hds;rw [B6,B6] at this;exact this
  have g2:D0 G (G++[cs.map cV]++[[]]):=D0.one.trans .one
  refine I0 (v:=.ref (G.length+1)) (H1:=G++[cs.map cV]++[[]]) (fun zz h=>by rw [<- aL (x:=cs.map cV)] at h;exact h) (Ci4 (N:=G.length) (rs:=ss.map fJ) hcl (fun i hi r hr=>?_) (by rw [B6];exact G9 hl) ⟨hgr.trans g2,by rw [aL,aL],R6 D3,⟨[],[],H.length,⟨fun zz q=>(nomatch q),.nil,fun x q=>absurd q (Nat.not_lt_zero _)⟩,by rw [<- aL (x:=cs.map cV)];exact D3,⟨A4 _,rfl⟩,hri.to (g2.old.sub (B0 _) (A4 _)),.nil,rfl⟩,A4 _⟩ h)
  have e1:(cs.map (·.1))[i]? = some (cc cs i).1:=by rw [C0,kZ (hcl▸hi)];rfl
  have e2:((ss.map fJ).map (·.1))[i]? = some r.1:=by rw [C0,hr];rfl
  rw [hds,e2] at e1
  exact (Option.some.inj e1).symm
theorem Bg7 {n a deep:Nat}{s:Sh}{m:List Sh}{rec:List (List Nat)->List Bk}{H:Heap}{Q:C2}(hga:H[a]? = some ((s::m).map yS)) (hlen:(s::m).length<=900000) (hrow:∀ t∈s::m,pH t.r) (hk:s.k<=4)
  (hrec:s.k=1->∀ (b:Nat) (G:Heap) (Q:C2),G[b]? = some (((s::m).map (·.r)).map .str)->BQ G (.lst (bkEs (rec ((s::m).map (·.r))))) Q->callN P (n+42) "_law_blocks" [.ref b,.int ((deep+1:Nat):Int)] Q G)
  (h:BQ H (bkE (cT rec (s::m))) Q):callN P (n+43) "_law_block" [.ref a,.int (deep:Nat)] Q H:=by
 have hlim:I3=16777216:=rfl
 have hal:=D2 hga
 have hlm:((s::m).map yS).length=(s::m).length:=B6 _
 obtain ⟨k,sn,sr⟩:=s
 have h5:k=0∨k=1∨k=2∨k=3∨k=4:=(by decide:∀ k,k<5->k=0∨k=1∨k=2∨k=3∨k=4) k (Nat.lt_succ_of_le hk)
 have e0:∀ {C:Calls}{x y:Option V}{j:Nat}{c:V}(hj:X1 (yS ⟨k,sn,sr⟩) (.int j) H=some c),Ev C [some (.ref a),some (.int (deep:Nat)),x,y] H (.idx (.idx (.var 0) (.int 0)) (.int j)) c:=fun hj=>F9 (F9 (fun zz h=>h) (fun zz h=>h) (L0 (i:=0) hga rfl)) (fun zz h=>h) hj
 refine yK (C9 (e0 (j:=0) rfl) ?_)
 rcases h5 with rfl | rfl | rfl | rfl | rfl
 ·exact C5 (fun zz h=>h) (E0 (T6 (C4 (fun zz h=>h) (C4 (P1 (fun zz h=>h) (N0 hga)) J5))) (h _ H .refl ⟨_,rfl,.atom (a:=.s _) (by rw [hlm];exact .atom (a:=.i _) (.nil (A4 _)))⟩))
 ·refine C1 (fun zz h=>h) (C1 (fun zz h=>h) (C1 (fun zz h=>h) (C5 (fun zz h=>h) (N9 (W8 (H9 (fun zz h=>h) (J1 (K8 ?_))))))))
  refine J1 (Cy7 (fun v=>match v with | .tup [_,_,w]=>w | _=>.none) ?_ hga (by rw [hlm];exact G9 (I6 hlen (Nat.le_of_eq hlim.symm))) (fun v hv=>?_) _ ?_)
  ·exact fun zz h=>h
  ·obtain ⟨t,_,rfl⟩:=List.mem_map.mp hv
   exact fun zz h=>h
  refine H9 (v:=.int ((deep+1:Nat):Int)) (fun zz h=>h) (G8 (hrec rfl H.length _ _ ?_ fun v G g hr=>G8 ?_))
  ·rw [List.map_map,List.map_map];exact D3
  ·exact h _ G (D0.one.trans g) (W2 (D0.one.trans g).len (hr.wide (by rw [aL];exact B8 _) (A4 _)))
 ·have hr:=hrow _ (.head _)
  refine C1 (fun zz h=>h) (C5 (fun zz h=>h) (N9 (W8 (H9 (fun zz h=>h) (H9 (e0 (j:=1) rfl) (aB (C4 (e0 (j:=2) rfl) J5) (lT hr.1 hr.2 fun b l G us g hb hlo hrep zz zz hP=>G8 ?_)))))))
  rw [Am5 hP] at hrep
  exact h _ G g ⟨_,rfl,.atom (a:=.s _) (.atom (a:=.i _) (.one g.len (J7 (Av2 hb hlo) hb hrep)))⟩
 ·exact C1 (fun zz h=>h) (C1 (fun zz h=>h) (C5 (fun zz h=>h) (N9 (W8 (H9 (fun zz h=>h) (aB (fun zz h=>h) (Bg6 hga hlen hrow fun v G g hr=>G8 (h _ G g (W2 g.len hr)))))))))
 ·refine C1 (fun zz h=>h) (C1 (fun zz h=>h) (C1 (fun zz h=>h) (C1 (fun zz h=>h) (N9 (W8 (H9 (fun zz h=>h) (J1 (wG ?_ (by rw [hlm];exact G9 (I6 hlen (Nat.le_of_eq hlim.symm))) (fun i acc G=>D0 H G/\E8 G (yW (((⟨4,sn,sr⟩::m).map fun s=>yV s.r).take i)) H.length G.length acc) (fun i acc G hI=>hI.1.get hga) (fun i acc G v hv hi hI K hK=>?_) ⟨.refl,.nil (A4 _)⟩ _ fun acc G hacc hI=>G8 ?_))))))))
  ·exact fun zz h=>h
  ·rw [C0] at hv
   obtain ⟨t,ht,rfl⟩:=Option.map_eq_some_iff.mp hv
   have hr:=hrow t (B9 ht)
   refine K8 (H9 (v:=.str t.r) (fun zz h=>h) (G8 (lT hr.1 hr.2 fun b l G' us g hb hlo hrep zz zz hP=>hK _ _ ⟨hI.1.trans g,?_⟩)))
   rw [Am5 hP] at hrep
   rw [List.take_add_one,C0,ht,Az6]
   exact ((hI.2.grow g (A4 _)).add g.len (J7 (Av2 hb hlo) hb hrep))
  ·rw [hlm,List.take_of_length_le (by rw [B6];exact A4 _)] at hI
   refine h _ _ (hI.1.trans .one) (W2 (A3 hI.1.len D0.one.len) (J7 ⟨hI.1.len,by rw [aL];exact B1 _,A4 _,by rw [aL];exact B8 _⟩ D3 (hI.2.grow .one (A4 _))))
noncomputable def An8 (d deep n:Nat):Prop:=∀ (a:Nat) (rows:List (List Nat)) (H:Heap) (Q:C2),H[a]? = some (rows.map .str)->rows.length<=900000->(∀ r∈rows,pH r)->BQ H (.lst (bkEs (rdF d rows))) Q->callN P n "_law_blocks" [.ref a,.int (deep:Nat)] Q H
theorem Ch7 {deep:Nat}{row:List Nat}(h:pH row):pH (shp deep row).r:=by
 have hd:∀ {j:Nat},pH (row.drop j):=fun {j}=>⟨by rw [List.length_drop];exact A3 (Nat.sub_le _ _) h.1,fun x hx=>h.2 x (List.mem_of_mem_drop hx)⟩
 rcases P3 deep row with ⟨rfl,e⟩ | ⟨h0,⟨hq,e⟩ | ⟨hq,⟨h35,e⟩ | ⟨h35,⟨h45,e⟩ | ⟨h45,e⟩⟩⟩⟩
 ·rw [e];exact ⟨B0 _,fun x hx=>nomatch hx⟩
 ·rw [e];exact hd
 ·rw [e];exact hd
 ·rw [e];exact hd
 ·rw [e];exact h
structure LB where
 gsd:List (List Sh)
 at':Nat
 e4:Option V
structure Da8 (H0:Heap) (rec:List (List Nat)->List Bk) (all:List Sh) (s:LB) (G:Heap):Prop where
 grow:D0 H0 G
 blk:∃ l,G[H0.length]? = some l/\E8 G (bkEs (s.gsd.map (cT rec))) (H0.length+1) G.length l
 len:s.gsd.length<=s.at'/\s.at'<=all.length
 eq:grpF all=s.gsd++grpF (all.drop s.at')
structure LG where
 m:List Sh
 at':Nat
theorem jT {n d deep:Nat}(hd:deep+d=9) (ih:∀ d',d=d'+1->An8 d' (deep+1) (n+42)):An8 d deep (n+44):=by
 intro a rows H0 Q ha hlen hrow hQ
 have hlim:I3=16777216:=rfl
 have hal:=D2 ha
 have hall:∀ x∈rows.map (shp deep),x.k<=4/\(x.k=1->deep<9)/\pH x.r:=fun x hx=>by
  obtain ⟨r,hr,rfl⟩:=List.mem_map.mp hx
  have:=Au5 deep r
  exact ⟨this.1,this.2.1,Ch7 (hrow r hr)⟩
 have hml:(rows.map (shp deep)).length=rows.length:=B6 _
 have hmv:(rows.map V.str).length=rows.length:=B6 _
 rw [kW hd] at hQ
 refine tG (I0 (H1:=H0++[[]]) (fun zz h=>h) (C9 (fun zz h=>h) (H5 (mD (σ:=LB) (fun s=>[some (.ref a),some (.int (deep:Nat)),some (.ref H0.length),some (.int (s.at':Nat)),s.e4]) (Da8 H0 (Bj3 d) (rows.map (shp deep))) (fun s=>rows.length - s.at') (fun s G hI K hK=>?_) ⟨[],0,none⟩
  ⟨.one,⟨[],D3,.nil (by rw [aL];exact A4 _)⟩,⟨A4 _,B0 _⟩,rfl⟩))))
 have hga:=hI.grow.get ha
 have hle:=hI.len.2
 rw [hml] at hle
 by_cases hat:s.at'<rows.length
 ·have cut:∀ {n' k:Nat}{r:List Nat}{C:Calls}{ρ:D7}{G:Heap},rows[k]? = some r->G[a]? = some (rows.map V.str)->ρ[0]? = some (some (.ref a))->ρ[1]? = some (some (.int (deep:Nat)))->ρ[3]? = some (some (.int (k:Nat)))->Ev (callN P (n'+2)) ρ G (.call "_law_cut" [.idx (.var 0) (.var 3),.var 1]) (yS (shp deep r)):=fun {n' k r C ρ G} h1 h2 h3 h4 h5=>C8 (C4 (F9 (R1 h3) (R1 h5) (L0 h2 (by rw [C0,h1];rfl))) (C4 (R1 h4) J5)) Bp8
  have hr:rows[s.at']? = some rows[s.at']:=List.getElem?_eq_getElem hat
  generalize rows[s.at']=row at hr
  have hx:(rows.map (shp deep))[s.at']? = some (shp deep row):=by rw [C0,hr];rfl
  have hdrop:(rows.map (shp deep)).drop s.at'=shp deep row::(rows.map (shp deep)).drop (s.at'+1):=by
   obtain ⟨h1,h2⟩:=List.getElem?_eq_some_iff.mp hx
   rw [List.drop_eq_getElem_cons h1,h2]
  have hxm:shp deep row∈rows.map (shp deep):=B9 hx
  refine .go (G6 (D9 (fun zz h=>h) (P1 (fun zz h=>h) (N0 hga)) T5) (decide_eq_true (by rw [hmv];exact Int.ofNat_lt.mpr hat))) (I0 (H1:=G++[[yS (shp deep row)]]) (v:=.ref G.length) (fun Q k=>U0 (H9 (cut (C:=callN P 0) hr hga rfl rfl rfl) (G8 k))) (C9 (fun zz h=>h) (H5 ?_)))
  have g1:D0 G (G++[[yS (shp deep row)]]):=.one
  refine mD (σ:=LG) (fun t=>[some (.ref a),some (.int (deep:Nat)),some (.ref H0.length),some (.int (t.at':Nat)),some (.ref G.length)]) (fun t G'=>G'=G++[(shp deep row::t.m).map yS]/\Uni (shp deep row) t.m/\(∀ x∈shp deep row::t.m,x∈rows.map (shp deep))/\t.at'<=rows.length/\s.at'<t.at'/\t.m.length+s.at'+1=t.at'/\(rows.map (shp deep)).drop s.at'=shp deep row::(t.m++(rows.map (shp deep)).drop t.at')) (fun t=>rows.length - t.at') (fun t G' ht K' hK'=>?_) ⟨[],s.at'+1⟩ ⟨rfl,⟨fun zz q=>(nomatch q),fun zz=>rfl⟩,fun x hx=>by rw [List.mem_singleton.mp hx];exact hxm,hat,B1 _,by simp,hdrop⟩
  obtain ⟨rfl,hu,hm,htl,hst,hcnt,hdr⟩:=ht
  have hgrp:(G++[(shp deep row::t.m).map yS])[G.length]? = some ((shp deep row::t.m).map yS):=D3
  have hga':(G++[(shp deep row::t.m).map yS])[a]? = some (rows.map V.str):=R6 hga
  have hxk:=hall _ hxm
  have stop:Stp (shp deep row) ((rows.map (shp deep)).drop t.at')->C6 (callN P (n+43)) [.expr (.append (.var 2) (.call "_law_block" [.var 4,.var 1]))] [some (.ref a),some (.int (deep:Nat)),some (.ref H0.length),some (.int (t.at':Nat)),some (.ref G.length)] (fO (M6 (callN P (n+43)) [.ret (.var 2)] (E1 Q)) K) (G++[(shp deep row::t.m).map yS]):=fun hs=>by
   obtain ⟨l,h1,h2⟩:=hI.blk
   refine Ab9 (fun zz h=>h) (fun zz h=>h) (Bg7 (rec:=Bj3 d) hgrp ?_ (fun x hx=>(hall x (hm x hx)).2.2) hxk.1 (fun hk b G2 Q2 hb hq=>?_) fun v G2 g2 hrp=>?_)
   ·show t.m.length+1<=_;exact G9 (I6 (Nat.le_of_eq hcnt) (I6 htl hlen))
   ·have hd9:=hxk.2.1 hk
    obtain ⟨d',rfl⟩:∃ d',d=d'+1:=⟨d - 1,by exact (Nat.sub_add_cancel (G9 (I6 (Nat.le_of_eq hd.symm) hd9))).symm⟩
    refine ih d' rfl b _ G2 Q2 hb (by rw [B6];show t.m.length+1<=_;exact G9 (I6 (Nat.le_of_eq hcnt) (I6 htl hlen))) (fun r hr=>?_) hq
    obtain ⟨x,hx,rfl⟩:=List.mem_map.mp hr
    exact (hall x (hm x hx)).2.2
   ·have g3:D0 G G2:=D0.one.trans g2
    have h1':=g3.get h1
    have hl:l.length<I3:=by rw [h2.len,R8,B6];have:=hI.len.1;exact G9 (I6 this (I6 hle (I6 hlen (Nat.le_of_eq hlim.symm))))
    refine dM h1' hl (hK ⟨s.gsd++[shp deep row::t.m],t.at',_⟩ _ (by show rows.length - t.at'<rows.length - s.at';exact Nat.sub_lt_sub_left (G9 hat) (G9 hst)) ⟨⟨by rw [List.length_set];exact A3 hI.grow.len g3.len,(hI.grow.trans g3).old.trans (T3.set (Or.inr (A4 _)))⟩,⟨l++[v],tP h1',?_⟩,⟨?_,by rw [hml];exact htl⟩,?_⟩)
    ·have e:∀ {hi:Nat},T3 G2 (G2.set H0.length (l++[v])) (H0.length+1) hi:=T3.set (Or.inl (B1 _))
     rw [List.length_set,List.map_append,Bz9]
     exact (((h2.grow g3 (A4 _)).to e).wide (A4 _) (A4 _)).add g3.len ((hrp.to (e.sub (A3 h2.le (D0.one (H:=G)).len) (A4 _))).wide (D0.one (H:=G)).len (A4 _))
    ·show (s.gsd++[_]).length<=t.at'
     rw [A6];have:=hI.len.1;exact A9 this hst
    ·rw [hI.eq,hdr,oW hu hs,A7];rfl
  by_cases hal2:t.at'<rows.length
  ·have hr2:rows[t.at']? = some rows[t.at']:=List.getElem?_eq_getElem hal2
   generalize rows[t.at']=r2 at hr2
   have hx2:(rows.map (shp deep))[t.at']? = some (shp deep r2):=by rw [C0,hr2];rfl
   have hd2:(rows.map (shp deep)).drop t.at'=shp deep r2::(rows.map (shp deep)).drop (t.at'+1):=by
    obtain ⟨h1,h2⟩:=List.getElem?_eq_some_iff.mp hx2
    rw [List.drop_eq_getElem_cons h1,h2]
   have hx2k:=hall _ (B9 hx2)
   have e1:∀ {b:Bool},(!(nmC (shp deep row).k==nmC 2)&&(nmC (shp deep r2).k==nmC (shp deep row).k))=b->Ev (callN P (n+43)) [some (.ref a),some (.int (deep:Nat)),some (.ref H0.length),some (.int (t.at':Nat)),some (.ref G.length)] (G++[(shp deep row::t.m).map yS]) (.and [.cmp .lt (.var 3) (.len (.var 0)),.cmp .ne (.idx (.idx (.var 4) (.int 0)) (.int 0)) (.str [104,101,97,100,105,110,103]),.cmp .eq (.idx (.call "_law_cut" [.idx (.var 0) (.var 3),.var 1]) (.int 0)) (.idx (.idx (.var 4) (.int 0)) (.int 0))]) (.bool b):=fun {b} e =>
    G6 (D1 (b:=true) (G6 (D9 (fun zz h=>h) (P1 (fun zz h=>h) (N0 hga')) T5) (decide_eq_true (by rw [hmv];exact Int.ofNat_lt.mpr hal2))) fun zz=>G6 (D1 (D9 (F9 (F9 (fun zz h=>h) (fun zz h=>h) (L0 (i:=0) hgrp rfl)) (fun zz h=>h) rfl) (fun zz h=>h) Au0) fun zz=>H8 (D9 (F9 (cut (C:=callN P 0) hr2 hga' rfl rfl rfl) (fun zz h=>h) rfl) (F9 (F9 (fun zz h=>h) (fun zz h=>h) (L0 (i:=0) hgrp rfl)) (fun zz h=>h) rfl) S7)) e) (Bool.true_and b)
   rw [Bo7 _ (Nat.lt_succ_of_le hxk.1) 2 (by decide),Bo7 _ (Nat.lt_succ_of_le hx2k.1) _ (Nat.lt_succ_of_le hxk.1)] at e1
   by_cases hs:(shp deep r2).k≠(shp deep row).k∨(shp deep row).k=2
   ·refine .stop (e1 ?_) (stop (by rw [hd2];exact hs))
    rcases hs with q | q
    ·rw [show ((shp deep r2).k==(shp deep row).k)=false by simpa using q,Bool.and_false]
    ·rw [q];rfl
   ·have hk:(shp deep r2).k=(shp deep row).k/\(shp deep row).k≠2:=⟨Classical.not_not.mp fun q=>hs (Or.inl q),fun q=>hs (Or.inr q)⟩
    refine .go (e1 ?_) (J2 (fun zz h=>h) (cut (C:=callN P 0) hr2 hga' rfl rfl rfl) hgrp (by rw [B6];show t.m.length+1<_;exact G9 (I6 (Nat.le_of_eq hcnt) (I6 htl (I6 hlen (Nat.le_of_eq hlim.symm))))) ?_)
    ·rw [hk.1,show ((shp deep row).k==(shp deep row).k)=true by simp,show ((shp deep row).k==2)=false by simpa using hk.2];rfl
    ·refine hK' ⟨t.m++[shp deep r2],t.at'+1⟩ _ (by show rows.length - (t.at'+1)<rows.length - t.at';exact Nat.sub_lt_sub_left (G9 hal2) (fG)) ⟨?_,⟨fun y hy=>?_,fun q=>absurd q hk.2⟩,fun y hy=>?_,hal2,Nat.lt_succ_of_lt hst,?_,?_⟩
     ·rw [List.set_append_right _ _ (A4 _),Nat.sub_self]
      show G++[(shp deep row::t.m).map yS++[yS (shp deep r2)]]=G++[(shp deep row::(t.m++[shp deep r2])).map yS]
      rw [List.map_cons,List.map_cons,List.map_append];rfl
     ·rcases List.mem_append.mp hy with q | q
      ·exact hu.same y q
      ·rw [List.mem_singleton.mp q];exact hk.1
     ·rcases List.mem_append.mp (show y∈(shp deep row::t.m)++[shp deep r2] from hy) with q | q
      ·exact hm y q
      ·rw [List.mem_singleton.mp q];exact B9 hx2
     ·show (t.m++[_]).length+s.at'+1=t.at'+1
      rw [A6,List.length_singleton];exact Nat.le_antisymm (G9 (Nat.le_of_eq hcnt)) (G9 (Nat.le_of_eq hcnt.symm))
     ·show _=shp deep row::((t.m++[_])++_)
      rw [hdr,hd2,A7];rfl
  ·refine .stop (D1 (b:=false) (b2:=true) (G6 (D9 (fun zz h=>h) (P1 (fun zz h=>h) (N0 hga')) T5) (decide_eq_false (by rw [hmv];exact fun q=>hal2 (Int.ofNat_lt.mp q)))) fun q=>nomatch q) (stop ?_)
   rw [List.drop_of_length_le (by rw [hml];exact Nat.not_lt.mp hal2)];exact trivial
 ·have e:s.at'=rows.length:=Nat.le_antisymm hle (Nat.not_lt.mp hat)
  obtain ⟨l,h1,h2⟩:=hI.blk
  have heq:=hI.eq
  rw [e,<- hml,List.drop_length] at heq
  rw [show s.gsd++grpF []=s.gsd from List.append_nil _] at heq
  refine .stop (G6 (D9 (fun zz h=>h) (P1 (fun zz h=>h) (N0 hga)) T5) (decide_eq_false (by rw [hmv];exact fun q=>hat (Int.ofNat_lt.mp q)))) (hQ _ G hI.grow ?_)
  rw [heq]
  exact kX (k:=0) h1 h2
theorem rQ:∀ (d deep n:Nat),deep+d=9->An8 d deep (n+2 * d+44)
 | 0,deep,n,h=>jT h fun d' q=>nomatch q
 | d+1,deep,n,h=>jT (n:=n+2 * d+2) h fun d' q=>by
   cases q
   exact rQ d (deep+1) n (by exact Nat.le_antisymm (G9 (Nat.le_of_eq h)) (G9 (Nat.le_of_eq h.symm)))
noncomputable def dA:A->D
 | .n=>.none
 | .b t=>.bool t
 | .i z=>.int z
 | .s w=>.str w
mutual
noncomputable def dX:X->D
 | .at a=>dA a
 | .tup xs=>.tup (dXs xs)
 | .lst xs=>.list (dXs xs)
noncomputable def dXs:List X->List D
 | []=>[]
 | x::xs=>dX x::dXs xs
end
noncomputable def okA:A->Prop
 | .s w=>∀ c∈w,c<1114112
 | _=>True
mutual
noncomputable def okX:X->Prop
 | .at a=>okA a
 | .tup xs=>pA xs
 | .lst xs=>pA xs
noncomputable def pA:List X->Prop
 | []=>True
 | x::xs=>okX x/\pA xs
end
theorem Cx6 {H:Heap}{n:Nat}{a:A}(h:okA a):rd H (n+1) (aV a)=some (dA a):=by
 cases a with
 | n=>rfl
 | b t=>rfl
 | i z=>rfl
 | s w=>exact if_pos (List.all_eq_true.mpr fun c hc=>decide_eq_true (h c hc))
theorem Bj4 {H:Heap}{w:Nat}:∀ (m:Nat) (x:X) (v:V) (lo hi n:Nat),J3 w m x->okX x->I1 H x lo hi v->m<n->rd H n v=some (dX x):=by
 intro m
 induction m with
 | zero =>
  intro x v lo hi n hf ho h hn
  cases x with
  | «at» a =>
   obtain ⟨n',rfl⟩:=pT hn
   rw [show v=aV a from h];exact Cx6 ho
  | tup xs=>exact hf.elim
  | lst xs=>exact hf.elim
 | succ m ih =>
  intro x v lo hi n hf ho h hn
  obtain ⟨n',rfl⟩:=pT hn
  have go:∀ (xs:List X) (l:List V) (p q:Nat),(∀ y∈xs,J3 w m y)->pA xs->E8 H xs p q l->yR (rd H n') l=some (dXs xs):=by
   intro xs
   induction xs with
   | nil=>intro l p q _ _ h;rw [h.2];rfl
   | cons y ys ihy =>
    intro l p q hf ho h
    obtain ⟨u,r,rfl,h1,h2⟩:=h
    show (match rd H n' u with | some d=>(yR (rd H n') r).map (d::·) | none=>none)=_
    rw [ih y u _ _ n' (hf y (.head _)) ho.1 h1 (Nat.lt_of_succ_lt_succ hn),ihy r _ _ (fun z hz=>hf z (.tail _ hz)) ho.2 h2];rfl
  cases x with
  | «at» a=>rw [show v=aV a from h];exact Cx6 ho
  | tup xs =>
   obtain ⟨l,rfl,h⟩:=h
   show (yR (rd H n') l).map D.tup=_
   rw [go xs l _ _ hf.2 ho h];rfl
  | lst xs =>
   obtain ⟨a,l,p,q,rfl,_,ha,h⟩:=h
   show (match H[a]? with | some l=>(yR (rd H n') l).map D.list | none=>none)=_
   rw [ha]
   show (yR (rd H n') l).map D.list=_
   rw [go xs l _ _ hf.2 ho h];rfl
theorem De8 {H:Heap}{w m:Nat}{xs:List X}{a b lo hi lo' hi':Nat}(hm:m<100) (hf:J3 w m (.lst xs)) (ho:okX (.lst xs)) (h:I1 H (.lst xs) lo hi (.ref a)) (h':I1 H (.lst xs) lo' hi' (.ref b)):S3 .eq (.ref a) (.ref b) H=some true:=by
 show (match wH (V.ref a) (V.ref b) with | some t=>some t | none=>wI (.ref a) (.ref b) H)=_
 show ((rd H K0 (.ref a)).bind fun x=>(rd H K0 (.ref b)).bind fun y=>some (sS x y))=_
 rw [Bj4 m _ _ _ _ K0 hf ho h hm,Bj4 m _ _ _ _ K0 hf ho h' hm]
 exact congrArg some (qG _)
theorem De7 {H:Heap}{w m:Nat}{x:X}{xs:List X}{a b lo hi:Nat}(hm:m<100) (hf:J3 w m (.lst (x::xs))) (ho:okX (.lst (x::xs))) (h:I1 H (.lst (x::xs)) lo hi (.ref a)) (hb:H[b]? = some []):S3 .eq (.ref a) (.ref b) H=some false:=by
 show ((rd H K0 (.ref a)).bind fun x=>(rd H K0 (.ref b)).bind fun y=>some (sS x y))=_
 rw [Bj4 m _ _ _ _ K0 hf ho h hm]
 have e:rd H K0 (.ref b)=some (.list []):=by
  show (match H[b]? with | some l=>(yR (rd H 99) l).map D.list | none=>none)=_
  rw [hb];rfl
 rw [e];rfl
theorem M2 {H:Heap}{a:A}{xs:List X}{lo hi:Nat}{l:List V}(h:E8 H (.at a::xs) lo hi l):∃ r,l=aV a::r/\E8 H xs lo hi r:=by
 obtain ⟨v,r,rfl,h2,h3⟩:=h
 rw [show v=aV a from h2]
 exact ⟨r,rfl,h3⟩
theorem dG {H:Heap}{ys xs:List X}{lo hi:Nat}{l:List V}(h:E8 H (.lst ys::xs) lo hi l):∃ a r,l=.ref a::r/\I1 H (.lst ys) lo hi (.ref a)/\E8 H xs lo hi r:=by
 obtain ⟨v,r,rfl,⟨a,vs,p,q,rfl,hb,ha,hr⟩,h3⟩:=h
 exact ⟨a,r,rfl,⟨a,vs,p,q,rfl,hb,ha,hr⟩,h3⟩
theorem eT {H:Heap}{s:List Nat}{lo hi:Nat}{v:V}(h:I1 H (enc (.kept s)) lo hi v):v=Z7 s:=by
 obtain ⟨l,rfl,h⟩:=h
 replace h:=M2 h;obtain ⟨r,rfl,h⟩:=h
 replace h:=M2 h;obtain ⟨r,rfl,h⟩:=h
 rw [h.2];rfl
theorem eU {H:Heap}{s:List Nat}{b:Bool}{lo hi:Nat}{v:V}(h:I1 H (enc (.code s b)) lo hi v):v=cQ s b:=by
 obtain ⟨l,rfl,h⟩:=h
 replace h:=M2 h;obtain ⟨r,rfl,h⟩:=h
 replace h:=M2 h;obtain ⟨r,rfl,h⟩:=h
 replace h:=M2 h;obtain ⟨r,rfl,h⟩:=h
 rw [h.2];rfl
theorem eQ {H:Heap}{c:Nat}{ts:List T}{b:Bool}{lo hi:Nat}{v:V}(h:I1 H (enc (.span c ts b)) lo hi v):∃ a,v=V1 c a b/\I1 H (.lst (encs ts)) lo hi (.ref a):=by
 obtain ⟨l,rfl,h⟩:=h
 replace h:=M2 h;obtain ⟨r,rfl,h⟩:=h
 replace h:=M2 h;obtain ⟨r,rfl,h⟩:=h
 replace h:=dG h;obtain ⟨a,r,rfl,ha,h⟩:=h
 replace h:=M2 h;obtain ⟨r,rfl,h⟩:=h
 rw [h.2]
 exact ⟨a,rfl,ha⟩
theorem eR {H:Heap}{ts:List T}{g:Option (List Nat)}{b:Bool}{lo hi:Nat}{v:V}(h:I1 H (enc (.link ts g b)) lo hi v):∃ a,v=J6 a g b/\I1 H (.lst (encs ts)) lo hi (.ref a):=by
 obtain ⟨l,rfl,h⟩:=h
 replace h:=M2 h;obtain ⟨r,rfl,h⟩:=h
 replace h:=dG h;obtain ⟨a,r,rfl,ha,h⟩:=h
 replace h:=M2 h;obtain ⟨r,rfl,h⟩:=h
 replace h:=M2 h;obtain ⟨r,rfl,h⟩:=h
 rw [h.2]
 exact ⟨a,rfl,ha⟩
theorem Cp6 {H:Heap}{ts:List T}{lo hi:Nat}{l:List V}{i:Nat}{v:V}(h:E8 H (encs ts) lo hi l) (hv:l[i]? = some v):∃ t p q,ts[i]? = some t/\lo<=p/\q<=hi/\I1 H (enc t) p q v:=by
 obtain ⟨t,ht,hr⟩:=Cb6 (dU ts) h hv
 exact ⟨t,lo,hi,ht,A4 _,A4 _,hr⟩
noncomputable def Sg (s:List Nat):Prop:=∀ c∈s,sgB c=true
mutual
noncomputable def GT:Nat->T->Prop
 | _,.txt s=>s≠[]/\Sg s
 | _,.kept s=>s.length<=1/\Sg s
 | _,.code s _=>Sg s
 | d,.span c ts _=>d<12/\[42,95,126].contains c=true/\aJ (d+1) ts
 | d,.link ts g _=>d<12/\(∀ s,g=some s->Sg s)/\aJ (d+1) ts
noncomputable def aJ:Nat->List T->Prop
 | _,[]=>True
 | d,t::ts=>GT d t/\aJ d ts
end
theorem aJ.app {d:Nat}:∀ {ts us:List T},aJ d (ts++us)↔aJ d ts/\aJ d us
 | [],us=>⟨fun h=>⟨trivial,h⟩,fun h=>h.2⟩
 | t::ts,us=>⟨fun h=>⟨⟨h.1,(aJ.app.mp h.2).1⟩,(aJ.app.mp h.2).2⟩,fun h=>⟨h.1.1,aJ.app.mpr ⟨h.1.2,h.2⟩⟩⟩
theorem aJ.add {d:Nat}{ts:List T}{t:T}(h:aJ d ts) (k:GT d t):aJ d (ts++[t]):=aJ.app.mpr ⟨h,k,trivial⟩
theorem aJ.get {d:Nat}:∀ {ts:List T}{i:Nat}{t:T},aJ d ts->ts[i]? = some t->GT d t
 | t::ts,0,_,h,e=>by cases e;exact h.1
 | t::ts,i+1,_,h,e=>aJ.get (ts:=ts) (i:=i) h.2 e
theorem aJ.put {d c:Nat}{ts:List T}(h:aJ d ts) (hc:sgB c=true):aJ d (M4 ts c):=by
 have h1:GT d (.txt [c]):=⟨(fun q=>nomatch q),fun x hx=>by rw [List.mem_singleton.mp hx];exact hc⟩
 have hadd:=h.add h1
 rcases List.eq_nil_or_concat ts with rfl | ⟨us,t,rfl⟩
 ·exact hadd
 ·rw [List.concat_eq_append] at h hadd ⊢
  cases t with
  | txt s =>
   rw [Y5]
   have:=aJ.app.mp h
   refine this.1.add ⟨by simp,fun x hx=>?_⟩
   rcases List.mem_append.mp hx with q | q
   ·exact this.2.1.2 x q
   ·rw [List.mem_singleton.mp q];exact hc
  | kept s=>unfold M4;simp only [List.getLast?_append,List.getLast?_singleton,Option.some_or];exact hadd
  | code s b=>unfold M4;simp only [List.getLast?_append,List.getLast?_singleton,Option.some_or];exact hadd
  | span c' ts b=>unfold M4;simp only [List.getLast?_append,List.getLast?_singleton,Option.some_or];exact hadd
  | link ts g b=>unfold M4;simp only [List.getLast?_append,List.getLast?_singleton,Option.some_or];exact hadd
noncomputable def GC:T4->Prop
 | []=>True
 | (kd,p)::ctx=>ctx.length<12/\(∀ c,kd=some c->[42,95,126].contains c=true)/\aJ ctx.length p/\GC ctx
theorem fZ:∀ {ctx:T4}{cur:List T},aJ ctx.length cur->GC ctx->aJ 0 (M0 cur ctx)
 | [],cur,h,_=>h
 | (kd,p)::ctx,cur,h,hc=>by
  refine fZ (ctx:=ctx) (hc.2.2.1.add ?_) hc.2.2.2
  cases kd with
  | some c=>exact ⟨hc.1,hc.2.1 c rfl,h⟩
  | none=>exact ⟨hc.1,fun s q=>(nomatch q),h⟩
theorem Sg.drop {s:List Nat}{k:Nat}(h:Sg s):Sg (s.drop k):=fun c hc=>h c (List.mem_of_mem_drop hc)
theorem Sg.take {s:List Nat}{k:Nat}(h:Sg s):Sg (s.take k):=fun c hc=>h c (List.mem_of_mem_take hc)
theorem J4.good {row:List Nat}{k:Nat}{cur r:List T}{ctx:T4}(h:J4 row k cur ctx r) (hs:Sg row):aJ ctx.length cur->GC ctx->aJ 0 r:=by
 induction h with
 | done _=>exact fZ
 | kept _ _ ih=>exact fun h1 h2=>ih (h1.add ⟨by unfold nx;rw [List.length_take];exact Nat.min_le_left _ _,hs.drop.take⟩) h2
 | code _ _ ih =>
  refine fun h1 h2=>ih (h1.add ?_) h2
  unfold R3
  split
  ·exact hs.drop.take
  ·exact hs.drop
 | label _ h12 _ ih=>exact fun h1 h2=>ih trivial ⟨h12,fun c q=>(nomatch q),h1,h2⟩
 | span _ hcc _ h12 _ ih=>exact fun h1 h2=>ih trivial ⟨h12,fun c q=>by cases q;exact hcc,h1,h2⟩
 | shutS _ _ ih=>exact fun h1 h2=>ih (h2.2.2.1.add ⟨h2.1,h2.2.1 _ rfl,h1⟩) h2.2.2.2
 | shutL _ _ ih =>
  refine fun h1 h2=>ih (h2.2.2.1.add ?_) h2.2.2.2
  unfold M5
  split
  ·split
   ·exact ⟨h2.1,fun s q=>by cases q;exact hs.drop.take,h1⟩
   ·exact ⟨h2.1,fun s q=>by cases q;exact hs.drop,h1⟩
  ·exact ⟨h2.1,fun s q=>(nomatch q),h1⟩
 | plain hc _ _ _ _ _ _ ih=>exact fun h1 h2=>ih (h1.put (hs _ (B9 hc))) h2
theorem Ad0 {row:List Nat}(h:Sg row):aJ 0 (yV row):=(pS row).good h trivial trivial
theorem fS {s:List Nat}(h:Sg s):∀ c∈s,c<1114112:=fun c hc=>by
 have:=h c hc
 unfold sgB at this
 exact A9 (of_decide_eq_true (Bool.and_eq_true_iff.mp (Bool.and_eq_true_iff.mp this).2).1) (by decide)
theorem okL {w:List Nat}(h:(w.all fun c=>decide (c<1114112))=true):okX (.at (.s w)):=fun c hc=>of_decide_eq_true (List.all_eq_true.mp h c hc)
mutual
theorem De3:∀ {d:Nat}{t:T},GT d t->okX (enc t)
 | _,.txt s,h=>fS h.2
 | _,.kept s,h=>⟨okL rfl,fS h.2,trivial⟩
 | _,.code s b,h=>⟨okL rfl,fS h,trivial,trivial⟩
 | d,.span c ts b,h=>⟨okL rfl,fun x hx=>by
   rw [List.mem_singleton.mp hx]
   have:=h.2.1
   simp at this
   rcases this with e | e | e<;>subst e<;>decide,Au6 h.2.2,trivial,trivial⟩
 | d,.link ts g b,h=>⟨okL rfl,Au6 h.2.2,by cases g with | none=>exact trivial | some s=>exact fS (h.2.1 s rfl),trivial,trivial⟩
theorem Au6:∀ {d:Nat}{ts:List T},aJ d ts->pA (encs ts)
 | _,[],_=>trivial
 | _,t::ts,h=>⟨De3 h.1,Au6 h.2⟩
end
mutual
noncomputable def LT:T->Prop
 | .txt s=>s≠[]/\Sg s
 | .kept s=>s.length<=1/\Sg s
 | .code s _=>Sg s
 | .span c ts _=>[42,95,126].contains c=true/\iD ts
 | .link ts g _=>(∀ s,g=some s->Sg s)/\iD ts
noncomputable def iD:List T->Prop
 | []=>True
 | t::ts=>LT t/\iD ts
end
theorem iD.app:∀ {ts us:List T},iD (ts++us)↔iD ts/\iD us
 | [],us=>⟨fun h=>⟨trivial,h⟩,fun h=>h.2⟩
 | t::ts,us=>⟨fun h=>⟨⟨h.1,(iD.app.mp h.2).1⟩,(iD.app.mp h.2).2⟩,fun h=>⟨h.1.1,iD.app.mpr ⟨h.1.2,h.2⟩⟩⟩
theorem iD.add {ts:List T}{t:T}(h:iD ts) (k:LT t):iD (ts++[t]):=iD.app.mpr ⟨h,k,trivial⟩
theorem iD.get:∀ {ts:List T}{i:Nat}{t:T},iD ts->ts[i]? = some t->LT t
 | t::ts,0,_,h,e=>by cases e;exact h.1
 | t::ts,i+1,_,h,e=>iD.get (ts:=ts) (i:=i) h.2 e
mutual
theorem Cz4:∀ {t:T},LT t->okX (enc t)
 | .txt s,h=>fS h.2
 | .kept s,h=>⟨okL rfl,fS h.2,trivial⟩
 | .code s b,h=>⟨okL rfl,fS h,trivial,trivial⟩
 | .span c ts b,h=>⟨okL rfl,fun x hx=>by
   rw [List.mem_singleton.mp hx]
   have:=h.1
   simp at this
   rcases this with e | e | e<;>subst e<;>decide,bR h.2,trivial,trivial⟩
 | .link ts g b,h=>⟨okL rfl,bR h.2,by cases g with | none=>exact trivial | some s=>exact fS (h.1 s rfl),trivial,trivial⟩
theorem bR:∀ {ts:List T},iD ts->pA (encs ts)
 | [],_=>trivial
 | t::ts,h=>⟨Cz4 h.1,bR h.2⟩
end
mutual
theorem Cu8:∀ (t u:T),sS (dX (enc t)) (dX (enc u))=true->t=u
 | .txt s,u,h=>by
  cases u with
  | txt s'=>exact congrArg T.txt (eq_of_beq (show (s==s')=true from h))
  | _=>exact nomatch (show false=true from h)
 | .kept s,u,h=>by
  cases u with
  | kept s'=>exact congrArg T.kept (eq_of_beq (C3 (show ((s==s')&&true)=true from h)).1)
  | _=>exact nomatch (show false=true from h)
 | .code s b,u,h=>by
  cases u with
  | code s' b' =>
   replace h:=C3 (show ((s==s')&&((b==b')&&true))=true from h)
   obtain rfl:=eq_of_beq h.1
   obtain rfl:=eq_of_beq (C3 h.2).1
   rfl
  | _=>exact nomatch (show false=true from h)
 | .span c ts b,u,h=>by
  cases u with
  | span c' ts' b' =>
   replace h:=C3 (show (([c]==[c'])&&(sY (dXs (encs ts)) (dXs (encs ts'))&&((b==b')&&true)))=true from h)
   have h1:=eq_of_beq h.1
   have h2:=iW ts ts' (C3 h.2).1
   have h3:=eq_of_beq (C3 (C3 h.2).2).1
   cases h1;cases h2;cases h3;rfl
  | _=>exact nomatch (show false=true from h)
 | .link ts g b,u,h=>by
  cases u with
  | link ts' g' b' =>
   replace h:=C3 (show (sY (dXs (encs ts)) (dXs (encs ts'))&&(sS (dA (gA g)) (dA (gA g'))&&((b==b')&&true)))=true from h)
   have h1:=iW ts ts' h.1
   have h3:=eq_of_beq (C3 (C3 h.2).2).1
   have h2:=(C3 h.2).1
   cases h1;cases h3
   cases g with
   | none =>
    cases g' with
    | none=>rfl
    | some s=>exact nomatch (show false=true from h2)
   | some s =>
    cases g' with
    | none=>exact nomatch (show false=true from h2)
    | some s'=>rw [eq_of_beq (show (s==s')=true from h2)]
  | _=>exact nomatch (show false=true from h)
theorem iW:∀ (ts us:List T),sY (dXs (encs ts)) (dXs (encs us))=true->ts=us
 | [],[],_=>rfl
 | [],_::_,h=>nomatch (show false=true from h)
 | _::_,[],h=>nomatch (show false=true from h)
 | t::ts,u::us,h=>by
  replace h:(sS (dX (enc t)) (dX (enc u))&&sY (dXs (encs ts)) (dXs (encs us)))=true:=h
  rw [Cu8 t u (Bool.and_eq_true_iff.mp h).1,iW ts us (Bool.and_eq_true_iff.mp h).2]
end
theorem De9 {H:Heap}{w m:Nat}{ts us:List T}{a b lo hi lo' hi':Nat}(hm:m<100) (hf:J3 w m (.lst (encs ts))) (ho:pA (encs ts)) (hf':J3 w m (.lst (encs us))) (ho':pA (encs us)) (h:I1 H (.lst (encs ts)) lo hi (.ref a)) (h':I1 H (.lst (encs us)) lo' hi' (.ref b)):S3 .eq (.ref a) (.ref b) H=some (cO (ts=us)):=by
 show ((rd H K0 (.ref a)).bind fun x=>(rd H K0 (.ref b)).bind fun y=>some (sS x y))=_
 rw [Bj4 m _ _ _ _ K0 hf ho h hm,Bj4 m _ _ _ _ K0 hf' ho' h' hm]
 exact congrArg some (Av1 ⟨fun q=>iW ts us q,fun q=>by rw [q];exact qG _⟩)
theorem kY {v:V}{r:List V}{H:Heap}:X1 (.tup (v::r)) (.int 0) H=some v:=by
 show (K6 ((0:Nat):Int) (v::r).length).bind _=some v
 rw [X5 (k:=0) (n:=(v::r).length) (Nat.succ_pos _)];rfl
theorem F8 {n:Nat}{w kd:List Nat}{z:Int}{r:List V}{H:Heap}(Q:C2) (h:Q (.bool (((r.length+1:Nat):Int)==z&&w==kd)) H):callN P (n+1) "is_tuple" [.tup (.str w::r),.str kd,.int z] Q H:=by
 refine Ah9 ?_
 have e1:∀ {C:Calls},Ev C [some (.tup (.str w::r)),some (.str kd),some (.int z)] H (.or [.not (.isinst (.var 0) .tuple),.cmp .ne (.len (.var 0)) (.var 2)]) (.bool (false||!(((r.length+1:Nat):Int)==z))):=K3 (fun zz h=>h) fun zz=>S6 (fun zz h=>h)
 cases hz:((r.length+1:Nat):Int)==z with
 | false =>
  rw [hz] at e1 h
  exact C5 e1 h
 | true =>
  rw [hz] at e1 h
  exact C1 e1 (E0 (D1 (b:=true) (G6 (kQ (F9 (fun zz h=>h) (fun zz h=>h) kY)) rfl) fun zz=>H8 (D9 (F9 (fun zz h=>h) (fun zz h=>h) kY) (fun zz h=>h) S7)) h)
theorem Ah2 {H:Heap}{c:Nat}(hs:c<1114112):S3 .notin (.str [c]) (.tup [.str [42],.str [95],.str [126]]) H=some (![42,95,126].contains c):=by
 have e1:rd H K0 (.str [c])=some (.str [c]):=if_pos (by simpa using hs)
 show (memV _ _ H).map (!·)=_
 unfold memV
 rw [e1]
 show some (!([D.str [42],D.str [95],D.str [126]].any fun y=>sS y (.str [c])))=_
 have q:∀ a:Nat,sS (.str [a]) (.str [c])=(c==a):=fun a=>by
  show ([a]==[c])=(c==a)
  rw [Bool.eq_iff_iff,beq_iff_eq,beq_iff_eq]
  exact ⟨fun h=>by cases h;rfl,fun h=>by rw [h]⟩
 simp only [List.any_cons,List.any_nil,q,List.contains_cons,List.contains_nil]
noncomputable def APs (d n:Nat):Prop:=∀ (ts:List T) (a lo hi:Nat) (H:Heap) (Q:C2),iD ts->I1 H (.lst (encs ts)) lo hi (.ref a)->Q (.bool (cO (aJ d ts))) H->callN P n "are_parts" [.ref a,.int (d:Nat)] Q H
theorem Ar2 {n d lo hi:Nat}{t:T}{v:V}{H:Heap}(ih:d<12->APs (d+1) (n+2)) (hg:LT t) (hr:I1 H (enc t) lo hi v) (Q:C2) (h:Q (.bool (cO (GT d t))) H):callN P (n+3) "is_part" [v,.int (d:Nat)] Q H:=by
 refine As1 ?_
 have e12:∀ {C:Calls}{v:V},d<12->Ev C [some v,some (.int (d:Nat))] H (.cmp .ge (.var 1) (.glob "MOST_OPEN" 12)) (.bool false):=fun q=>G6 (D9 (fun zz h=>h) (fun zz h=>h) Bj1) (decide_eq_false (fun k=>Nat.not_le_of_lt q (Int.ofNat_le.mp k)))
 have e13:∀ {C:Calls}{v:V},¬ d<12->Ev C [some v,some (.int (d:Nat))] H (.cmp .ge (.var 1) (.glob "MOST_OPEN" 12)) (.bool true):=fun q=>G6 (D9 (fun zz h=>h) (fun zz h=>h) Bj1) (decide_eq_true (Int.ofNat_le.mpr (Nat.not_lt.mp q)))
 cases t with
 | txt s =>
  rw [L8 (show GT d (.txt s) from hg)] at h
  rw [show v=.str s from hr]
  exact C5 (fun zz h=>h) (E0 (D1 (b:=true) (b2:=true) (G6 (fun zz h=>h) (by simpa using hg.1)) fun zz=>H8 (C8 (fun zz h=>h) (bH hg.2))) h)
 | kept s =>
  rw [L8 (show GT d (.kept s) from hg)] at h
  rw [eT hr]
  exact C1 (fun zz h=>h) (C5 (G6 (C8 (fun zz h=>h) F8) rfl) (E0 (D1 (b:=true) (b2:=true) (C8 (fun zz h=>h) (bH hg.2)) fun zz=>H8 (G6 (fun zz h=>h) (decide_eq_true (Int.ofNat_le.mpr hg.1)))) h))
 | code s b =>
  rw [L8 (show GT d (.code s b) from hg)] at h
  rw [eU hr]
  exact C1 (fun zz h=>h) (C1 (G6 (C8 (fun zz h=>h) F8) rfl) (C5 (G6 (C8 (fun zz h=>h) F8) rfl) (E0 (D1 (b:=true) (b2:=true) (C8 (fun zz h=>h) (bH hg)) fun zz=>fun zz h=>h) h)))
 | span c ts b =>
  obtain ⟨a,rfl,hra⟩:=eQ hr
  have hc:sgB c=true:=by have:=hg.1;simp at this;rcases this with e | e | e<;>subst e<;>rfl
  have hs:Sg [c]:=fun x hx=>by rw [List.mem_singleton.mp hx];exact hc
  by_cases hd:d<12
  ·rw [U1 (q:=aJ (d+1) ts) ⟨fun q=>q.2.2,fun q=>⟨hd,hg.1,q⟩⟩] at h
   refine C1 (fun zz h=>h) (C1 (G6 (C8 (fun zz h=>h) F8) rfl) (C1 (G6 (C8 (fun zz h=>h) F8) rfl) (C1 (e12 hd) (C5 (G6 (C8 (fun zz h=>h) F8) rfl) (C1 (K3 (b:=false) (b2:=false) (tK (t:=true) (C8 (fun zz h=>h) (bH hs))) fun zz=>S6 (G6 (D9 (fun zz h=>h) (fun zz h=>h) (Ah2 (fS hs c (.head _)))) (by rw [hg.1];rfl))) (E0 (D1 (b:=true) (fun zz h=>h) fun zz=>H8 (C8 (vs:=[.ref a,.int ((d+1:Nat):Int)]) (fun zz h=>h) fun Q q=>ih hd ts a _ _ H Q hg.2 hra q)) h))))))
  ·rw [J0 fun q=>hd q.1] at h
   exact C1 (fun zz h=>h) (C1 (G6 (C8 (fun zz h=>h) F8) rfl) (C1 (G6 (C8 (fun zz h=>h) F8) rfl) (C5 (e13 hd) (E0 (fun zz h=>h) h))))
 | link ts g b =>
  obtain ⟨a,rfl,hra⟩:=eR hr
  have eg:∀ {C:Calls},C=callN P (n+2)->Ev C [some (J6 a g b),some (.int (d:Nat))] H (.and [.isnot (.idx (.var 0) (.int 2)) .none,.not (.call "is_row" [.idx (.var 0) (.int 2)])]) (.bool false):=fun {C} e=>by
   subst e
   cases g with
   | none=>exact D1 (b:=false) (b2:=true) (fun zz h=>h) fun q=>nomatch q
   | some s=>exact D1 (b:=true) (b2:=false) (fun zz h=>h) fun zz=>H8 (tK (t:=true) (C8 (fun zz h=>h) (bH (hg.1 s rfl))))
  by_cases hd:d<12
  ·rw [U1 (q:=aJ (d+1) ts) ⟨fun q=>q.2.2,fun q=>⟨hd,hg.1,q⟩⟩] at h
   exact C1 (fun zz h=>h) (C1 (G6 (C8 (fun zz h=>h) F8) rfl) (C1 (G6 (C8 (fun zz h=>h) F8) rfl) (C1 (e12 hd) (C1 (G6 (C8 (fun zz h=>h) F8) rfl) (C5 (G6 (C8 (fun zz h=>h) F8) rfl) (C1 (eg rfl) (E0 (D1 (b:=true) (fun zz h=>h) fun zz=>H8 (C8 (vs:=[.ref a,.int ((d+1:Nat):Int)]) (fun zz h=>h) fun Q q=>ih hd ts a _ _ H Q hg.2 hra q)) h)))))))
  ·rw [J0 fun q=>hd q.1] at h
   exact C1 (fun zz h=>h) (C1 (G6 (C8 (fun zz h=>h) F8) rfl) (C1 (G6 (C8 (fun zz h=>h) F8) rfl) (C5 (e13 hd) (E0 (fun zz h=>h) h))))
theorem Af6 {α:Type}{p:List α->Prop}{q:α->Prop}(h0:p []) (ha:∀ ts t,p ts->q t->p (ts++[t])) {ts:List α}{k:Nat}{t:α}(h:p (ts.take k)) (ht:ts[k]? = some t) (hq:q t):p (ts.take (k+1)):=by
 rw [List.take_add_one,ht];exact ha _ _ h hq
theorem Af5 {n d:Nat}(ih:d<12->APs (d+1) (n+2)):APs d (n+4):=by
 intro ts a lo hi H Q hg hr h
 obtain ⟨a',l,p,q,e,hb,ha,hrl⟩:=hr
 cases e
 have hl:l.length=ts.length:=hrl.len.trans (Q6 ts)
 refine yL (C1 (fun zz h=>h) (H5 (cU (σ:=Option V) (fun e=>[some (.ref a),some (.int (d:Nat)),e]) (fun k zz G=>G=H/\aJ d (ts.take k)) (l:=l) (fun i e G hI=>hI.1▸ha) (fun i e G v hv hI K hK=>?_) (fun e G hI=>?_) none (fun zz h=>h) ⟨rfl,trivial⟩)))
 ·obtain ⟨rfl,hp⟩:=hI
  obtain ⟨t,p',q',ht,_,_,hrt⟩:=Cp6 hrl hv
  have ev:Ev (callN P (n+3)) [some (.ref a),some (.int (d:Nat)),some v] G (.not (.call "is_part" [.var 2,.var 1])) (.bool (!cO (GT d t))):=tK (C8 (fun zz h=>h) (Ar2 ih (hg.get ht) hrt))
  by_cases hb:GT d t
  ·rw [L8 hb] at ev
   exact C1 ev (hK _ _ ⟨rfl,Af6 (p:=aJ d) (q:=GT d) trivial (fun zz zz h k=>h.add k) hp ht hb⟩)
  ·rw [J0 hb] at ev
   rw [J0 fun q=>hb (q.get ht)] at h
   exact C5 ev (E0 (fun zz h=>h) h)
 ·obtain ⟨rfl,hp⟩:=hI
  rw [hl,List.take_length] at hp
  rw [L8 hp] at h
  exact h
theorem An7:∀ (m d n:Nat),d+m=12->APs d (n+2 * m+4)
 | 0,d,n,h=>Af5 fun q=>absurd h (Nat.ne_of_lt q)
 | m+1,d,n,h=>Af5 (n:=n+2 * m+2) fun zz=>An7 m (d+1) n ((Nat.add_right_comm d 1 m).trans h)
mutual
noncomputable def rowT:T->List Nat
 | .txt s=>s
 | .kept s=>[92]++s
 | .code s b=>[96]++s++(if b then [96] else [])
 | .span c ts b=>[c,40]++rowTs ts++(if b then [41] else [])
 | .link ts g b=>match g with
  | none=>[91]++rowTs ts++(if b then [93] else [])
  | some s=>[91]++rowTs ts++[93,40]++s++(if b then [41] else [])
noncomputable def rowTs:List T->List Nat
 | []=>[]
 | t::ts=>rowT t++rowTs ts
end
theorem L9:∀ (ts us:List T),rowTs (ts++us)=rowTs ts++rowTs us
 | [],us=>rfl
 | t::ts,us=>by
  show rowT t++rowTs (ts++us)=rowT t++rowTs ts++rowTs us
  rw [L9 ts us,A7]
theorem Cx7:(1000000:Nat)<=I3:=by show 1000000<=16777216;decide
theorem Ak4:(16700000:Nat)<=I3:=by show 16700000<=16777216;decide
theorem ltL {n:Nat}(h:n<=16700000):n<I3:=A9 h (by show 16700000<16777216;decide)
theorem pre {a b:List Nat}{n:Nat}(h:(a++b).length<=n):a.length<=n:=A3 (by rw [A6];exact B4 _ _) h
theorem suf {a b:List Nat}{n:Nat}(h:(a++b).length<=n):b.length<=n:=A3 (by rw [A6];exact Nat.le_add_left _ _) h
theorem ltl {n:Nat}(h:n<=1000000):n<I3:=A9 h (by show 1000000<16777216;decide)
theorem K1 (t:T):rowTs [t]=rowT t:=List.append_nil _
noncomputable def pV (p:List Nat×List Nat):V:=.tup [.str p.1,.str p.2]
noncomputable def Pc (ps:List V) (s:List Nat):Prop:=∃ ks:List (List Nat×List Nat),ps=ks.map pV/\(ks.map (·.2)).flatten=s/\∀ p∈ks,p.2≠[]
theorem Pc.nil:Pc [] []:=⟨[],rfl,rfl,fun p hp=>nomatch hp⟩
theorem Pc.app {ps qs:List V}{s t:List Nat}(h:Pc ps s) (k:Pc qs t):Pc (ps++qs) (s++t):=by
 obtain ⟨ks,rfl,rfl,h1⟩:=h
 obtain ⟨js,rfl,rfl,h2⟩:=k
 refine ⟨ks++js,(List.map_append).symm,by rw [List.map_append,List.flatten_append],fun p hp=>?_⟩
 rcases List.mem_append.mp hp with q | q
 ·exact h1 p q
 ·exact h2 p q
theorem Pc.one {k t:List Nat}(ht:t≠[]):Pc [.tup [.str k,.str t]] t:=⟨[(k,t)],rfl,List.append_nil _,fun p hp=>by rw [List.mem_singleton.mp hp];exact ht⟩
theorem rN:∀ ks:List (List Nat×List Nat),(∀ p∈ks,p.2≠[])->ks.length<=(ks.map (·.2)).flatten.length
 | [],_=>A4 _
 | k::ks,h=>by
  have h1:=List.length_pos_iff.mpr (h k (.head _))
  have h2:=rN ks fun p hp=>h p (.tail _ hp)
  show ks.length+1<=(k.2++(ks.map (·.2)).flatten).length
  rw [A6,Nat.add_comm];exact Nat.add_le_add h1 h2
theorem Pc.len {ps:List V}{s:List Nat}(h:Pc ps s):ps.length<=s.length:=by
 obtain ⟨ks,rfl,rfl,h1⟩:=h
 rw [B6];exact rN ks h1
theorem P4 {n mk:Nat}{k t s:List Nat}{ps ps0:List V}{Q:C2}{H:Heap}(hm:H[mk]? = some ps0) (hp:Pc ps s) (hl:s.length<I3) (h:∀ ps',Pc ps' (s++t)->Q .none (H.set mk ps')):callN P (n+1) "put_piece" [.ref mk,.str k,.str t] Q (H.set mk ps):=by
 refine yB ?_
 by_cases ht:t=[]
 ·subst ht
  rw [List.append_nil] at h
  exact C1 (fun zz h=>h) (h ps hp)
 ·refine C5 (G6 (fun zz h=>h) (by simpa using ht)) (J2 (fun zz h=>h) (fun zz h=>h) (tP hm) (A9 hp.len hl) ?_)
  rw [List.set_set]
  exact h _ (hp.app (.one ht))
noncomputable def PPs (d n:Nat):Prop:=∀ (H:Heap) (ts:List T) (a lo hi mk:Nat) (ps0 ps:List V) (s:List Nat) (Q:C2),aJ d ts->I1 H (.lst (encs ts)) lo hi (.ref a)->hi<=mk->H[mk]? = some ps0->Pc ps s->(s++rowTs ts).length<=1000000 ->
 (∀ ps',Pc ps' (s++rowTs ts)->Q .none (H.set mk ps'))->callN P n "put_pieces" [.ref a,.ref mk] Q (H.set mk ps)
theorem oR {n mk:Nat}{b:Bool}{w s:List Nat}{ps ps0:List V}{ρ:D7}{e:E}{x:Nat}{ss:List S}{R:E6}{H:Heap}(hm:H[mk]? = some ps0) (hp:Pc ps s) (hl:s.length<I3) (he:Ev (callN P (n+1)) ρ (H.set mk ps) e (.bool b)) (hx:ρ[x]? = some (some (.ref mk)))
  (h:∀ ps',Pc ps' (s++(if b then w else []))->C6 (callN P (n+1)) ss ρ R (H.set mk ps')):C6 (callN P (n+1)) (.ite e [.expr (.call "put_piece" [.var x,.str [109,97,114,107],.str w])] []::ss) ρ R (H.set mk ps):=by
 cases b with
 | true=>exact C5 he (P7 (C4 (R1 hx) (fun zz h=>h)) (P4 hm hp hl fun ps' hp'=>Cr5 (Ch2 (h ps' hp'))))
 | false=>exact C1 he (h ps (by rw [show (if false=true then w else [])=[] from rfl,List.append_nil];exact hp))
theorem By4 {n d a lo hi mk:Nat}{ts:List T}{g:Option (List Nat)}{b:Bool}{ps ps0:List V}{s:List Nat}{Q:C2}{H:Heap}(ih:PPs (d+1) (n+1)) (hg:GT d (.link ts g b)) (hr:I1 H (.lst (encs ts)) lo hi (.ref a)) (hh:hi<=mk) (hm:H[mk]? = some ps0) (hp:Pc ps s) (hl:(s++rowT (.link ts g b)).length<=1000000)
  (h:∀ ps',Pc ps' (s++rowT (.link ts g b))->Q .none (H.set mk ps')):callN P (n+2) "link_pieces" [J6 a g b,.ref mk] Q (H.set mk ps):=by
 have h1:(s++[91]++rowTs ts).length<=1000000:=by
  cases g with
  | none =>
   replace hl:(s++([91]++rowTs ts++(if b then [93] else []))).length<=1000000:=hl
   rw [<- A7,<- A7] at hl
   exact pre hl
  | some w =>
   replace hl:(s++([91]++rowTs ts++[93,40]++w++(if b then [41] else []))).length<=1000000:=hl
   rw [<- A7,<- A7,<- A7,<- A7] at hl
   exact pre (pre (pre hl))
 have hs:s.length<I3:=ltl (pre (pre h1))
 refine sR (P7 (fun zz h=>h) (P4 hm hp hs fun ps1 hp1=>P7 (fun zz h=>h) (ih H ts a lo hi mk ps0 ps1 _ _ hg.2.2 hr hh hm hp1 h1 fun ps2 hp2=>?_)))
 cases g with
 | none =>
  refine C5 (fun zz h=>h) (oR (b:=b) (w:=[93]) hm hp2 (ltl h1) (fun zz h=>h) rfl fun ps3 hp3=>h ps3 ?_)
  rw [A7,A7] at hp3
  show Pc ps3 (s++([91]++rowTs ts++(if b then [93] else [])))
  rw [A7];exact hp3
 | some w =>
  have e0:(s++rowT (.link ts (some w) b))=(((s++[91]++rowTs ts)++[93,40])++w)++(if b then [41] else []):=by
   show s++([91]++rowTs ts++[93,40]++w++_)=_
   simp only [A7]
  rw [e0] at h hl
  have h2:(((s++[91]++rowTs ts)++[93,40])++w).length<=1000000:=pre hl
  exact C1 (fun zz h=>h) (P7 (fun zz h=>h) (P4 hm hp2 (ltl h1) fun ps3 hp3=>P7 (fun zz h=>h) (P4 hm hp3 (ltl (pre h2)) fun ps4 hp4=>oR (b:=b) (w:=[41]) hm hp4 (ltl h2) (fun zz h=>h) rfl fun ps5 hp5=>h ps5 hp5)))
structure PZ where
 ps:List V
 e:Option V
theorem Ac9 {n d:Nat}(ih:d<12->PPs (d+1) (n+2)) (ih1:d<12->PPs (d+1) (n+1)):PPs d (n+3):=by
 intro H ts a lo hi mk ps0 ps s Q hg hr hh hm hp hl hQ
 obtain ⟨a',l,p,q,e,hb,ha,hrl⟩:=hr
 cases e
 have ham:mk≠a:=Nat.ne_of_gt (A8 hb.ah hh)
 refine tF (H5 (cU (σ:=PZ) (fun z=>[some (.ref a),some (.ref mk),z.e]) (fun i z G=>G=H.set mk z.ps/\Pc z.ps (s++rowTs (ts.take i))) (l:=l) (fun i z G hI=>?_) (fun i z G v hv hI K hK=>?_) (fun z G hI=>?_) ⟨ps,none⟩ (fun zz h=>h) ⟨rfl,by rw [show rowTs (ts.take 0)=[] from rfl,List.append_nil];exact hp⟩))
 ·rw [hI.1,List.getElem?_set_ne ham];exact ha
 ·obtain ⟨rfl,hpz⟩:=hI
  obtain ⟨t,p',q',ht,hp',hq',hrt⟩:=Cp6 hrl hv
  have hgt:=hg.get ht
  have ek:rowTs (ts.take (i+1))=rowTs (ts.take i)++rowT t:=by rw [List.take_add_one,ht,L9];exact congrArg _ (K1 t)
  have hq:q'<=mk:=A3 hq' (A3 hb.qh hh)
  have hlen:((s++rowTs (ts.take i))++rowT t).length<=1000000:=by
   refine A3 ?_ hl
   rw [A7,<- ek,A6,A6]
   have:=congrArg List.length (L9 (ts.take (i+1)) (ts.drop (i+1)))
   rw [List.take_append_drop,A6] at this
   rw [this]
   exact Nat.add_le_add_left (B4 _ _) _
  have fin:∀ {ps':List V}{R:E6}{w:V},(∀ ρ G,K ρ G->R .next ρ G)->Pc ps' ((s++rowTs (ts.take i))++rowT t)->R .next [some (.ref a),some (.ref mk),some w] (H.set mk ps'):=fun {ps' R w} hR hp'=>hR _ _ (hK ⟨ps',some w⟩ _ ⟨rfl,by rw [ek,<- A7];exact hp'⟩)
  generalize s++rowTs (ts.take i)=u at hpz hlen fin
  have hu:u.length<I3:=ltl (pre hlen)
  cases t with
  | txt w =>
   rw [show v=.str w from hrt]
   exact C5 (fun zz h=>h) (P7 (fun zz h=>h) (P4 hm hpz hu fun ps1 hp1=>fin (fun zz zz h=>h) hp1))
  | kept w =>
   rw [eT hrt]
   replace hlen:(u++([92]++w)).length<=1000000:=hlen
   rw [<- A7] at hlen
   refine D6 (fun zz h=>h) (C5 (fun zz h=>h) (P7 (fun zz h=>h) (P4 hm hpz hu fun ps1 hp1=>P7 (fun zz h=>h) (P4 hm hp1 (ltl (pre hlen)) fun ps2 hp2=>fin (fun zz zz h=>h) ?_))))
   rw [A7] at hp2;exact hp2
  | code w b =>
   rw [eU hrt]
   have e0:u++rowT (.code w b)=((u++[96])++w)++(if b then [96] else []):=by
    show u++([96]++w++_)=_
    simp only [A7]
   rw [e0] at hlen fin
   have h2:((u++[96])++w).length<=1000000:=pre hlen
   exact D6 (fun zz h=>h) (D6 (fun zz h=>h) (C5 (fun zz h=>h) (P7 (fun zz h=>h) (P4 hm hpz hu fun ps1 hp1=>P7 (fun zz h=>h) (P4 hm hp1 (ltl (pre h2)) fun ps2 hp2=>oR (b:=b) (w:=[96]) hm hp2 (ltl h2) (fun zz h=>h) rfl fun ps3 hp3=>fin (fun zz zz h=>h) hp3)))))
  | span c us b =>
   obtain ⟨a2,rfl,hra⟩:=eQ hrt
   have e0:u++rowT (.span c us b)=((u++([c]++[40]))++rowTs us)++(if b then [41] else []):=by
    show u++([c,40]++rowTs us++_)=_
    simp only [A7];rfl
   rw [e0] at hlen fin
   have h2:((u++([c]++[40]))++rowTs us).length<=1000000:=pre hlen
   exact D6 (fun zz h=>h) (D6 (fun zz h=>h) (D6 (fun zz h=>h) (C5 (fun zz h=>h) (P7 (C4 (fun zz h=>h) (C4 (fun zz h=>h) (C4 (I5 (fun zz h=>h) (fun zz h=>h) (Y1 (by show 2<=I3;decide))) J5))) (P4 hm hpz hu fun ps1 hp1=>P7 (fun zz h=>h) (ih hgt.1 H us a2 _ _ mk ps0 ps1 _ _ hgt.2.2 hra hq hm hp1 h2 fun ps2 hp2=>oR (b:=b) (w:=[41]) hm hp2 (ltl h2) (fun zz h=>h) rfl fun ps3 hp3=>fin (fun zz zz h=>h) hp3))))))
  | link us g b =>
   obtain ⟨a2,rfl,hra⟩:=eR hrt
   exact D6 (fun zz h=>h) (D6 (fun zz h=>h) (D6 (fun zz h=>h) (D6 (fun zz h=>h) (P7 (fun zz h=>h) (By4 (ih1 hgt.1) hgt hra hq hm hpz hlen fun ps1 hp1=>fin (fun zz zz h=>h) hp1)))))
 ·obtain ⟨rfl,hpz⟩:=hI
  rw [hrl.len,Q6,List.take_length] at hpz
  exact hQ z.ps hpz
theorem Am4:∀ (m d n:Nat),d+m=12->PPs d (n+2 * m+3)
 | 0,d,n,h=>Ac9 (fun q=>absurd h (Nat.ne_of_lt q)) (fun q=>absurd q (by exact Nat.not_lt_of_le (G9 (Nat.le_of_eq h.symm))))
 | m+1,d,n,h=>Ac9 (n:=n+2 * m+2) (fun zz=>by
   have:=Am4 m (d+1) (n+1) (pG h)
   rw [show n+1+2 * m+3=n+2 * m+2+2 from congrArg (· + 3) (Nat.add_right_comm n 1 (2 * m))] at this
   exact this) fun zz=>Am4 m (d+1) n (pG h)
theorem cF {n a lo hi:Nat}{ts:List T}{Q:C2}{H:Heap}(hg:aJ 0 ts) (hr:I1 H (.lst (encs ts)) lo hi (.ref a)) (hh:hi<=H.length) (hl:(rowTs ts).length<=1000000) (h:∀ ps,Pc ps (rowTs ts)->Q (.ref H.length) (H++[ps])):callN P (n+28) "pieces_of" [.ref a] Q H:=by
 have hset:∀ ps,(H++[[]]).set H.length ps=H++[ps]:=fun ps=>by rw [List.set_append_right _ _ (A4 _),Nat.sub_self];rfl
 refine yD (I0 (H1:=H++[[]]) (fun zz h=>h) (P7 (fun zz h=>h) ?_))
 have:=Am4 12 0 n rfl (H++[[]]) ts a lo hi H.length [] [] [] (fun v H₁=>C6 (callN P (n+27)) [.ret (.var 1)] [some (.ref a),some (.ref H.length)] (E1 Q) H₁) hg (hr.to (T3.one hh)) hh D3 .nil hl fun ps hp=>(hset ps).symm▸h ps hp
 rw [hset] at this
 exact this
theorem Ad7 {n:Nat}{ps:List V}{s:List Nat}{Q:C2}{ρ:D7}{x b:Nat}{H:Heap}(hx:x<ρ.length) (hp:Pc ps s) (hl:s.length<=16700000) (hb:H[b]? = some ps) (h:∀ l,Q (.str s) (H++[l])) :
  ∃ a l,V.ref b=.ref a/\H[a]? = some l/\l.length<=I3/\(∀ v∈l,∀ K:C2,K ((fun v=>match v with | .tup [_,w]=>w | _=>.none) v) H->E2 (callN P n) (.idx (.var x) (.int 1)) (ρ.set x (some v)) K H)/\fP [] (.ref H.length) Q (H++[l.map fun v=>match v with | .tup [_,w]=>w | _=>.none]):=by
 have hlim:I3=16777216:=rfl
 have hpl:=hp.len
 obtain ⟨ks,rfl,hks,hne⟩:=hp
 refine ⟨b,_,rfl,hb,A3 hpl (A3 hl Ak4),fun v hv K hK=>?_,?_⟩
 ·obtain ⟨p,_,rfl⟩:=List.mem_map.mp hv
  exact mG (Z6 (v:=pV p) (by rw [List.getElem?_set_self hx]) (Cm9 hK))
 ·have e:(ks.map pV).map (fun v=>match v with | .tup [_,w]=>w | _=>.none)=(ks.map (·.2)).map V.str:=by rw [List.map_map,List.map_map];rfl
  rw [e]
  refine Cm7 (ks.map (·.2)) D3 ?_ ?_
  ·rw [<- List.length_flatten,hks];show s.length+_ * 0<=I3;rw [Nat.mul_zero];exact A3 hl Ak4
  ·rw [Ab3,hks];exact h _
theorem uO {n a lo hi:Nat}{ts:List T}{Q:C2}{H:Heap}(hg:aJ 0 ts) (hr:I1 H (.lst (encs ts)) lo hi (.ref a)) (hh:hi<=H.length) (hl:(rowTs ts).length<=1000000) (h:∀ l l',Q (.str (rowTs ts)) (H++[l]++[l'])):callN P (n+29) "row_of" [.ref a] Q H :=
 Bg9 (N9 (Al9 (Au3 ⟨_,rfl,Bo0 (U3 _ _) (fun v=>match v with | .tup [_,w]=>w | _=>.none) (K8 (H9 (v:=.ref a) (fun zz h=>h) (G8 (cF hg hr hh hl fun ps hp=>Ad7 (by show 1<2;decide) hp (A3 hl (by decide)) D3 fun l=>h ps l))))⟩) (U3 _ _)))
noncomputable def iK:Option Nat->List Nat
 | some c=>[c,40]
 | none=>[91]
noncomputable def rowC:T4->List T->List Nat
 | [],cur=>rowTs cur
 | (kd,p)::ctx,cur=>rowC ctx p++iK kd++rowTs cur
theorem dO:∀ (ctx:T4) (cur us:List T),rowC ctx (cur++us)=rowC ctx cur++rowTs us
 | [],cur,us=>L9 cur us
 | (kd,p)::ctx,cur,us=>by
  show rowC ctx p++iK kd++rowTs (cur++us)=rowC ctx p++iK kd++rowTs cur++rowTs us
  rw [L9,<- A7]
theorem Aq7 (kd:Option Nat) (cur:List T):rowT (wQ kd cur)=iK kd++rowTs cur:=by
 cases kd with
 | some c=>exact List.append_nil _
 | none=>exact List.append_nil _
theorem eI:∀ (ctx:T4) (cur:List T),rowTs (M0 cur ctx)=rowC ctx cur
 | [],cur=>rfl
 | (kd,p)::ctx,cur=>by
  show rowTs (M0 (p++[wQ kd cur]) ctx)=rowC ctx p++iK kd++rowTs cur
  rw [eI ctx,dO,K1,Aq7,A7]
theorem uP (cur:List T) (c:Nat):rowTs (M4 cur c)=rowTs cur++[c]:=by
 rcases List.eq_nil_or_concat cur with rfl | ⟨us,t,rfl⟩
 ·rfl
 ·rw [List.concat_eq_append]
  have e2:(us++[t]).getLast? = some t:=by simp
  cases t with
  | txt s=>rw [Y5,L9,L9,K1,K1,A7];rfl
  | kept s=>unfold M4;rw [e2];exact L9 _ _
  | code s b=>unfold M4;rw [e2];exact L9 _ _
  | span c' ts b=>unfold M4;rw [e2];exact L9 _ _
  | link ts g b=>unfold M4;rw [e2];exact L9 _ _
theorem Bx2:∀ (ctx:T4) (cur:List T) (c:Nat),rowC ctx (M4 cur c)=rowC ctx cur++[c]
 | [],cur,c=>uP cur c
 | (kd,p)::ctx,cur,c=>by
  show rowC ctx p++iK kd++rowTs (M4 cur c)=rowC ctx p++iK kd++rowTs cur++[c]
  rw [uP,<- A7]
theorem aW {row:List Nat}{k c:Nat}(h:row[k]? = some c):row.take (k+1)=row.take k++[c]:=by
 rw [List.take_add_one,h];rfl
theorem qI {row:List Nat}{k c:Nat}(h:row[k]? = some c):row.take (k+2)=row.take k++([c]++nx row k):=by
 obtain ⟨hk,hc⟩:=List.getElem?_eq_some_iff.mp h
 rw [List.take_add,List.drop_eq_getElem_cons hk,hc];rfl
theorem An0 {c:Nat}:∀ {l:List Nat}{j:Nat},idx? c l=some j->l.take (j+1)=l.take j++[c]
 | [],_,h=>by cases h
 | x::l,j,h=>by
  replace h:(if x=c then some 0 else (idx? c l).map (· + 1))=some j:=h
  by_cases hx:x=c
  ·rw [if_pos hx] at h;cases h;rw [hx];rfl
  ·rw [if_neg hx] at h
   obtain ⟨i,hi,rfl⟩:=Option.map_eq_some_iff.mp h
   show x::l.take (i+1)=x::l.take i++[c]
   rw [An0 hi];rfl
theorem Bz5 {row:List Nat}{k:Nat}(h:row[k]? = some 96):row.take (R3 row k).2=row.take k++rowT (R3 row k).1:=by
 unfold R3
 cases hi:idx? 96 (row.drop (k+1)) with
 | none =>
  show row.take row.length=row.take k++([96]++row.drop (k+1)++[])
  rw [List.take_length,List.append_nil,<- A7,<- aW h,List.take_append_drop]
 | some j =>
  show row.take (k+1+j+1)=row.take k++([96]++(row.drop (k+1)).take j++[96])
  rw [Nat.add_assoc (k+1),List.take_add,An0 hi,aW h,A7,A7]
theorem By3 {row:List Nat}{k:Nat}{ts:List T}(h:row[k]? = some 93):∃ D,row.take (M5 row k ts).2=row.take k++D/\rowT (M5 row k ts).1=[91]++rowTs ts++D:=by
 unfold M5
 by_cases hn:nx row k=[40]
 ·rw [if_pos hn]
  have e2:=qI h
  rw [hn] at e2
  cases hi:idx? 41 (row.drop (k+2)) with
  | none =>
   refine ⟨[93,40]++row.drop (k+2),?_,?_⟩
   ·show row.take row.length=_
    rw [List.take_length,<- A7,show ([93,40]:List Nat)=[93]++[40] from rfl,<- e2,List.take_append_drop]
   ·show [91]++rowTs ts++[93,40]++row.drop (k+2)++[]=_
    rw [List.append_nil,A7]
  | some j =>
   refine ⟨[93,40]++((row.drop (k+2)).take j++[41]),?_,?_⟩
   ·show row.take (k+2+j+1)=_
    rw [Nat.add_assoc (k+2),List.take_add,An0 hi,e2,A7];rfl
   ·show [91]++rowTs ts++[93,40]++(row.drop (k+2)).take j++[41]=_
    rw [A7,A7]
 ·rw [if_neg hn]
  exact ⟨[93],aW h,rfl⟩
theorem J4.row {row:List Nat}{k:Nat}{cur r:List T}{ctx:T4}(h:J4 row k cur ctx r):rowC ctx cur=row.take k->rowTs r=row:=by
 induction h with
 | done hk=>intro e;rw [eI,e,List.take_of_length_le hk]
 | kept hc _ ih=>exact fun e=>ih (by rw [dO,K1,e,qI hc];rfl)
 | code hc _ ih=>exact fun e=>ih (by rw [dO,K1,e,Bz5 hc])
 | @label k cur r ctx hc _ _ ih=>exact fun e=>ih (by
   show rowC ctx cur++iK none++[]=_
   rw [List.append_nil,e,aW hc];rfl)
 | @span k c cur r ctx hc _ hn _ _ ih=>exact fun e=>ih (by
   show rowC ctx cur++iK (some c)++[]=_
   rw [List.append_nil,e,qI hc,hn];rfl)
 | @shutS k c cur p r ctx hc _ ih=>exact fun e=>ih (by
   rw [dO,K1,aW hc,<- e]
   show rowC ctx p++([c,40]++rowTs cur++[41])=rowC ctx p++[c,40]++rowTs cur++[41]
   rw [<- A7,<- A7])
 | @shutL k cur p r ctx hc _ ih=>exact fun e=>ih (by
   obtain ⟨D,h1,h2⟩:=By3 (ts:=cur) hc
   rw [dO,K1,h1,<- e,h2]
   show rowC ctx p++([91]++rowTs cur++D)=rowC ctx p++[91]++rowTs cur++D
   rw [<- A7,<- A7])
 | plain hc _ _ _ _ _ _ ih=>exact fun e=>ih (by rw [Bx2,e,aW hc])
theorem bZ (row:List Nat):rowTs (yV row)=row:=(pS row).row rfl
structure Ct (ts:List T):Prop where
 sg:Sg (rowTs ts)
 eq:ts=yV (rowTs ts)
 len:(rowTs ts).length<=900000
theorem Ct.good {ts:List T}(h:Ct ts):aJ 0 ts:=by rw [h.eq];exact Ad0 h.sg
theorem Ct.fit {ts:List T}(h:Ct ts):J3 W 26 (.lst (encs ts)):=by
 have:=Ba2 h.len
 rw [<- h.eq] at this
 exact this
theorem Cu9 {row:List Nat}(hs:Sg row) (hl:row.length<=900000):Ct (yV row):=⟨by rw [bZ];exact hs,by rw [bZ],by rw [bZ];exact hl⟩
theorem mJ {H:Heap}{l l':List V}:D0 H (H++[l]++[l']):=D0.one.trans .one
theorem Cn8 {H:Heap}{l l':List V}:(H++[l]++[l']).length=H.length+2:=by rw [aL,aL]
theorem gR {C:Calls}{ρ:D7}{H:Heap}{Φ:Heap->Prop}{e f:E}{es:List E}(h1:W5 C ρ H e (.bool false) Φ):W5 C ρ H (.and (e::f::es)) (.bool false) Φ:=fun Q k=>h1 _ fun G g=>k G g
theorem Bk8 {C:Calls}{ρ:D7}{H:Heap}{Φ:Heap->Prop}{e f:E}{es:List E}(h1:W5 C ρ H e (.bool true) Φ):W5 C ρ H (.or (e::f::es)) (.bool true) Φ:=fun Q k=>h1 _ fun G g=>k G g
theorem Q5 {a b:List Nat}(h:Sg a) (k:Sg b):Sg (a++b):=fun c hc=>(List.mem_append.mp hc).elim (h c) (k c)
theorem zK {b:Bool}{c:Nat}(h:sgB c=true):Sg (if b then [c] else []):=fun x hx=>by
 cases b with
 | true=>rw [List.mem_singleton.mp hx];exact h
 | false=>nomatch hx
theorem cP {l:List Nat}(h:l.all sgB=true):Sg l:=fun c hc=>List.all_eq_true.mp h c hc
mutual
theorem Bo1:∀ {t:T},LT t->Sg (rowT t)/\1<=(rowT t).length
 | .txt s,h=>⟨h.2,List.length_pos_iff.mpr h.1⟩
 | .kept s,h=>⟨Q5 (cP (by decide)) h.2,B3 (B0 _)⟩
 | .code s b,h=>⟨Q5 (Q5 (cP (by decide)) h) (zK (by decide)),B3 (B0 _)⟩
 | .span c ts b,h=>⟨Q5 (Q5 (fun x hx=>by
   have:=h.1
   simp at this
   rcases List.mem_cons.mp hx with q | q
   ·rw [q];rcases this with e | e | e<;>rw [e]<;>decide
   ·rw [List.mem_singleton.mp q];decide) (O8 h.2).1) (zK (by decide)),B3 (B0 _)⟩
 | .link ts none b,h=>⟨Q5 (Q5 (cP (by decide)) (O8 h.2).1) (zK (by decide)),B3 (B0 _)⟩
 | .link ts (some s) b,h=>⟨Q5 (Q5 (Q5 (Q5 (cP (by decide)) (O8 h.2).1) (cP (by decide))) (h.1 s rfl)) (zK (by decide)),B3 (B0 _)⟩
theorem O8:∀ {ts:List T},iD ts->Sg (rowTs ts)/\ts.length<=(rowTs ts).length
 | [],_=>⟨fun x hx=>(nomatch hx),A4 _⟩
 | t::ts,h=>⟨Q5 (Bo1 h.1).1 (O8 h.2).1,by
   show ts.length+1<=(rowT t++rowTs ts).length
   rw [A6,Nat.add_comm]
   exact Nat.add_le_add (Bo1 h.1).2 (O8 h.2).2⟩
end
structure LC (ts:List T):Prop where
 lt:iD ts
 len:(rowTs ts).length<=100000
 fit:J3 W 30 (.lst (encs ts))
theorem Y9 {n a lo hi:Nat}{ts:List T}{H:Heap}(hc:LC ts) (hr:I1 H (.lst (encs ts)) lo hi (.ref a)) (hh:hi<=H.length) (Q:C2) (h:∀ G,D0 H G->Q (.bool (cO (Ct ts))) G):callN P (n+30) "is_content" [.ref a] Q H:=by
 by_cases hg:aJ 0 ts
 ·rw [U1 (q:=yV (rowTs ts)=ts) ⟨fun q=>q.eq.symm,fun q=>⟨(O8 hc.lt).1,q.symm,A3 hc.len (by decide)⟩⟩] at h
  refine fX (W7 (Φ:=D0 H) (pP (kL (G6 (C8 (fun zz h=>h) fun Q q=>An7 12 0 (n+1) rfl ts a lo hi H Q hc.lt hr q) (L8 hg))) fun G g=>?_) h)
  subst g
  have e1:W5 (callN P (n+29)) [some (.ref a)] G (.call "parts_of" [.call "row_of" [.var 0]]) (.ref (G.length+2)) (fun G'=>D0 G G'/\I1 G' (.lst (encs (yV (rowTs ts)))) (G.length+2) G'.length (.ref (G.length+2))):=fun Q k=>by
   refine K8 (J1 (K8 (J1 (Z6 rfl (G8 (uO (n:=n) hg hr hh (A3 hc.len (by decide)) fun l l'=>G8 (Bx6 (n:=n+26) (A3 hc.len (by decide)) (pS (rowTs ts)) fun H' lp h1 h2 h3=>?_)))))))
   have e:=Cn8 (H:=G) (l:=l) (l':=l')
   have hgr:=Cj1 h2 h3
   have:=kX (k:=1) h1 h2
   rw [e] at this ⊢
   exact k H' ⟨mJ.trans hgr,this⟩
  exact pQ (zA (Bj9 e1 (fun G' g Q k=>Z6 rfl (k G' g)) fun G' g=>De9 (w:=W) (m:=30) (by decide) ((Ba2 (A3 hc.len (by decide))).up (A4 _) (by decide)) (Au6 (Ad0 (O8 hc.lt).1)) hc.fit (bR hc.lt) g.2 (hr.grow g.1 hh)) fun G' g=>g.1)
 ·rw [J0 fun q=>hg q.good] at h
  exact fX (W7 (Φ:=fun G=>G=H) (gR (kL (G6 (C8 (fun zz h=>h) fun Q q=>An7 12 0 (n+1) rfl ts a lo hi H Q hc.lt hr q) (J0 hg)))) fun G g=>by subst g;exact h _ .refl)
noncomputable def dsh:It->Nat
 | .it n _ _=>n
mutual
noncomputable def IO1:Nat->Nat->It->Prop
 | above,most,.it n ts sub=>(1<=n/\n<=most/\above<n)/\Ct ts/\fM n 9 sub
noncomputable def fM:Nat->Nat->List It->Prop
 | _,_,[]=>True
 | above,most,i::is=>IO1 above most i/\fM above (dsh i) is
end
theorem lR {n k m:Nat}{H:Heap}(Q:C2) (h:Q (.bool (cO (1<=k/\k<=m))) H):callN P (n+1) "is_number" [.int (k:Nat),.int (m:Nat)] Q H:=by
 have e1:∀ {C:Calls}{b:Bool},decide (((k:Nat):Int)<1)=b->Ev C [some (.int (k:Nat)),some (.int (m:Nat))] H (.or [.not (.isinst (.var 0) .int),.isinst (.var 0) .bool,.cmp .lt (.var 0) (.int 1)]) (.bool b):=fun {C b} q=>G6 (K3 (b:=false) (fun zz h=>h) fun zz=>K3 (b:=false) (fun zz h=>h) fun zz=>S6 (G6 (D9 (fun zz h=>h) (fun zz h=>h) T5) q)) (by cases b<;>rfl)
 refine cG ?_
 by_cases h1:1<=k
 ·refine C1 (e1 (decide_eq_false (by exact Int.not_lt.mpr (Int.ofNat_le.mpr (G9 h1))))) (E0 (G6 (K3 (b:=false) (fun zz h=>h) fun zz=>S6 (D9 (fun zz h=>h) (fun zz h=>h) yY)) (Bool.false_or _)) ?_)
  rw [<- Av1 (b:=decide (((k:Nat):Int)<=(m:Nat))) ⟨fun q=>⟨h1,Int.ofNat_le.mp (of_decide_eq_true q)⟩,fun q=>decide_eq_true (Int.ofNat_le.mpr q.2)⟩] at h
  exact h
 ·rw [J0 fun q=>h1 q.1] at h
  exact C5 (e1 (decide_eq_true (by exact Int.ofNat_lt.mpr (G9 (Nat.lt_of_not_le h1))))) (E0 (fun zz h=>h) h)
theorem Ar0 {n k:Nat}{H:Heap}(Q:C2) (h:Q (.bool (cO (1<=k))) H):callN P (n+1) "is_number" [.int (k:Nat),.none] Q H:=by
 have e1:∀ {C:Calls}{b:Bool},decide (((k:Nat):Int)<1)=b->Ev C [some (.int (k:Nat)),some .none] H (.or [.not (.isinst (.var 0) .int),.isinst (.var 0) .bool,.cmp .lt (.var 0) (.int 1)]) (.bool b):=fun {C b} q=>G6 (K3 (b:=false) (fun zz h=>h) fun zz=>K3 (b:=false) (fun zz h=>h) fun zz=>S6 (G6 (D9 (fun zz h=>h) (fun zz h=>h) T5) q)) (by cases b<;>rfl)
 refine cG ?_
 by_cases h1:1<=k
 ·rw [L8 h1] at h
  exact C1 (e1 (decide_eq_false (by exact Int.not_lt.mpr (Int.ofNat_le.mpr (G9 h1))))) (E0 (K3 (b:=true) (b2:=true) (fun zz h=>h) fun q=>nomatch q) h)
 ·rw [J0 h1] at h
  exact C5 (e1 (decide_eq_true (by exact Int.ofNat_lt.mpr (G9 (Nat.lt_of_not_le h1))))) (E0 (fun zz h=>h) h)
theorem Aq9 {n:Nat}{m:V}{H:Heap}(Q:C2) (h:Q (.bool false) H):callN P (n+1) "is_number" [.int (-1),m] Q H :=
 cG (C5 (K3 (b:=false) (b2:=true) (fun zz h=>h) fun zz=>K3 (b:=false) (b2:=true) (fun zz h=>h) fun zz=>S6 (fun zz h=>h)) (E0 (fun zz h=>h) h))
mutual
noncomputable def LI:It->Prop
 | .it n ts sub=>LC ts/\vW sub/\n<=100
noncomputable def vW:List It->Prop
 | []=>True
 | i::is=>LI i/\vW is
end
theorem vW.get:∀ {ts:List It}{i:Nat}{t:It},vW ts->ts[i]? = some t->LI t
 | t::ts,0,_,h,e=>by cases e;exact h.1
 | t::ts,i+1,_,h,e=>vW.get (ts:=ts) (i:=i) h.2 e
theorem xC {H:Heap}{n:Nat}{ts:List T}{sub:List It}{lo hi:Nat}{v:V}(h:I1 H (itE (.it n ts sub)) lo hi v):∃ a b,v=.tup [.int (n:Nat),.ref a,.ref b]/\I1 H (.lst (encs ts)) lo hi (.ref a)/\I1 H (.lst (U9 sub)) lo hi (.ref b):=by
 obtain ⟨l,rfl,h⟩:=h
 replace h:=M2 h;obtain ⟨r,rfl,h⟩:=h
 replace h:=dG h;obtain ⟨a,r,rfl,ha,h⟩:=h
 replace h:=dG h;obtain ⟨b,r,rfl,hb,h⟩:=h
 rw [h.2]
 exact ⟨a,b,rfl,ha,hb⟩
theorem Cp8 {H:Heap}{is:List It}{lo hi:Nat}{l:List V}{k:Nat}{v:V}(h:E8 H (U9 is) lo hi l) (hv:l[k]? = some v):∃ i,is[k]? = some i/\I1 H (itE i) lo hi v:=Cb6 (dR is) h hv
theorem oX:∀ {is:List It}{k:Nat}{i:It},is[k]? = some i->dI i<=dIs is
 | j::is,0,i,h=>by cases h;exact Nat.le_max_left _ _
 | j::is,k+1,i,h=>A3 (oX (is:=is) h) (Nat.le_max_right _ _)
noncomputable def AIs (m n:Nat):Prop:=∀ (is:List It) (above a lo hi:Nat) (H:Heap) (Q:C2),dIs is<=m->vW is->I1 H (.lst (U9 is)) lo hi (.ref a)->hi<=H.length->(∀ G,D0 H G->Q (.bool (cO (fM above 9 is))) G)->callN P n "are_items" [.ref a,.int (above:Nat)] Q H
structure IZ where
 most:Nat
 e:Option V
theorem rS {m n:Nat}(ih:∀ m',m=m'+1->AIs m' (n+30)):AIs m (n+31):=by
 intro is above a lo hi H Q hd hi0 hr hh hQ
 obtain ⟨a',l,p,q,e,hb,ha,hrl⟩:=hr
 cases e
 have hq:q<=H.length:=A3 hb.qh hh
 have hll:l.length=is.length:=hrl.len.trans (Y7 is)
 refine yM (C1 (fun zz h=>h) (C9 (fun zz h=>h) (H5 (cU (σ:=IZ) (fun z=>[some (.ref a),some (.int (above:Nat)),some (.int (z.most:Nat)),z.e]) (fun k z G=>D0 H G/\(fM above 9 is↔fM above z.most (is.drop k))) (l:=l) (fun k z G hI=>hI.1.get ha) (fun k z G v hv hI K hK=>?_) (fun z G hI=>?_) ⟨9,none⟩ (fun zz h=>h) ⟨.refl,Iff.rfl⟩))))
 ·obtain ⟨hg,hio⟩:=hI
  obtain ⟨i,hi1,hri⟩:=Cp8 hrl hv
  have hdk:=A3 (oX hi1) hd
  have hli:=hi0.get hi1
  obtain ⟨c,ts,sub⟩:=i
  have ed:is.drop k=.it c ts sub::is.drop (k+1):=by
   obtain ⟨h1,h2⟩:=List.getElem?_eq_some_iff.mp hi1
   rw [List.drop_eq_getElem_cons h1,h2]
  rw [ed] at hio
  obtain ⟨a1,b1,rfl,hra,hrb⟩:=xC (hri.grow hg hq)
  have hqG:q<=G.length:=A3 hq hg.len
  obtain ⟨m',rfl⟩:=pT hdk
  have bad:∀ {G1:Heap},D0 G G1->¬ IO1 above z.most (.it c ts sub)->Q (.bool false) G1:=fun {G1} g1 q=>by
   have:=hQ G1 (hg.trans g1)
   rw [J0 fun k=>q (hio.mp k).1] at this
   exact this
  have e0:∀ {b:Bool},(!cO (1<=c/\c<=z.most)||decide (((c:Nat):Int)<=(above:Nat)))=b->Ev (callN P (n+30)) [some (.ref a),some (.int (above:Nat)),some (.int (z.most:Nat)),some (.tup [.int (c:Nat),.ref a1,.ref b1])] G (.or [.not (.call "is_number" [.idx (.var 3) (.int 0),.var 2]),.cmp .le (.idx (.var 3) (.int 0)) (.var 1)]) (.bool b):=fun q=>G6 (K3 (tK (C8 (fun zz h=>h) lR)) fun zz=>S6 (D9 (fun zz h=>h) (fun zz h=>h) yY)) q
  refine C1 (K3 (b:=false) (b2:=false) (fun zz h=>h) fun zz=>fun zz h=>h) ?_
  by_cases hn:(1<=c/\c<=z.most)/\above<c
  ·refine C1 (e0 (by rw [L8 hn.1,decide_eq_false (fun q=>Nat.not_le_of_lt hn.2 (Int.ofNat_le.mp q))];rfl)) ?_
   by_cases hct:Ct ts
   ·have e1:W5 (callN P (n+30)) [some (.ref a),some (.int (above:Nat)),some (.int (z.most:Nat)),some (.tup [.int (c:Nat),.ref a1,.ref b1])] G (.or [.not (.call "is_content" [.idx (.var 3) (.int 1)]),.not (.call "are_items" [.idx (.var 3) (.int 2),.idx (.var 3) (.int 0)])]) (.bool (!cO (fM c 9 sub))) (D0 G) :=
     zH (mF (t:=true) (V2 (fun zz h=>h) fun Q k=>Y9 (n:=n) hli.1 hra hqG Q fun G1 g1=>by rw [L8 hct];exact k G1 g1)) fun G1 g1=>Au2 (zA (mF (V2 (fun zz h=>h) fun Q k=>ih m' rfl sub c b1 p q G1 Q (Nat.le_of_succ_le_succ hdk) hli.2.1 (hrb.grow g1 hqG) (A3 hqG g1.len) k)) fun G2 g2=>g1.trans g2)
    by_cases hsub:fM c 9 sub
    ·rw [L8 hsub] at e1
     exact S1 e1 fun G2 g2=>C9 (fun zz h=>h) (hK ⟨c,_⟩ _ ⟨hg.trans g2,hio.trans ⟨fun q=>q.2,fun q=>⟨⟨⟨hn.1.1,hn.1.2,hn.2⟩,hct,hsub⟩,q⟩⟩⟩)
    ·rw [J0 hsub] at e1
     exact V8 e1 fun G2 g2=>E0 (fun zz h=>h) (bad g2 fun q=>hsub q.2.2)
   ·refine V8 (Bk8 (mF (t:=false) (V2 (Φ:=D0 G) (fun zz h=>h) fun Q k=>Y9 (n:=n) hli.1 hra hqG Q fun G1 g1=>by rw [J0 hct];exact k G1 g1))) fun G2 g2=>E0 (fun zz h=>h) (bad g2 fun q=>hct q.2.1)
  ·refine C5 (e0 ?_) (E0 (fun zz h=>h) (bad .refl fun q=>hn ⟨⟨q.1.1,q.1.2.1⟩,q.1.2.2⟩))
   by_cases h1:1<=c/\c<=z.most
   ·rw [L8 h1,decide_eq_true (Int.ofNat_le.mpr (Nat.not_lt.mp fun q=>hn ⟨h1,q⟩))];rfl
   ·rw [J0 h1];rfl
 ·have:=hQ G hI.1
  rw [hll,List.drop_length] at hI
  rw [L8 (hI.2.mpr trivial)] at this
  exact this
theorem cH:∀ (m n:Nat),AIs m (n+m+31)
 | 0,n=>rS fun m' q=>nomatch q
 | m+1,n=>rS (n:=n+m+1) fun m' q=>by cases q;exact cH m n
noncomputable def nmB:Bk->List Nat
 | .gap _=>[103,97,112]
 | .head _ _=>[104,101,97,100,105,110,103]
 | .bad=>[104,101,97,100,105,110,103]
 | .list _=>[108,105,115,116]
 | .para _=>[112,97,114,97]
 | .quote _=>[113,117,111,116,101]
mutual
noncomputable def BO1:Nat->Bk->Prop
 | _,.gap n=>1<=n
 | _,.head n ts=>(1<=n/\n<=6)/\Ct ts
 | _,.bad=>False
 | _,.list is=>is≠[]/\fM 0 9 is/\dIs is<=9
 | deep,.para rs=>rs≠[]/\∀ ts∈rs,Ct ts/\(shp deep (rowTs ts)).k=4
 | deep,.quote bs=>deep<9/\bs≠[]/\yT (deep+1) [] bs
noncomputable def yT:Nat->List Nat->List Bk->Prop
 | _,_,[]=>True
 | deep,last,b::bs=>BO1 deep b/\(nmB b≠last∨last=[104,101,97,100,105,110,103])/\yT deep (nmB b) bs
end
mutual
theorem De4:∀ {i:It},LI i->okX (itE i)
 | .it n ts sub,h=>⟨trivial,bR h.1.lt,Au7 h.2.1,trivial⟩
theorem Au7:∀ {is:List It},vW is->pA (U9 is)
 | [],_=>trivial
 | i::is,h=>⟨De4 h.1,Au7 h.2⟩
end
theorem Bk6:∀ {rs:List (List T)},(∀ ts∈rs,LC ts)->pA (yW rs)
 | [],_=>trivial
 | ts::rs,h=>⟨bR (h ts (.head _)).lt,Bk6 fun x hx=>h x (.tail _ hx)⟩
mutual
noncomputable def LB1:Bk->Prop
 | .gap _=>True
 | .head n ts=>LC ts/\n<=100
 | .bad=>True
 | .list is=>vW is/\dIs is<=9
 | .para rs=>∀ ts∈rs,LC ts
 | .quote bs=>sV bs
noncomputable def sV:List Bk->Prop
 | []=>True
 | b::bs=>LB1 b/\sV bs
end
theorem sV.get:∀ {ts:List Bk}{i:Nat}{t:Bk},sV ts->ts[i]? = some t->LB1 t
 | t::ts,0,_,h,e=>by cases e;exact h.1
 | t::ts,i+1,_,h,e=>sV.get (ts:=ts) (i:=i) h.2 e
mutual
theorem De5:∀ {b:Bk},LB1 b->okX (bkE b)
 | .gap n,h=>⟨okL rfl,trivial,trivial⟩
 | .head n ts,h=>⟨okL rfl,trivial,bR h.1.lt,trivial⟩
 | .bad,h=>⟨okL rfl,trivial,trivial,trivial⟩
 | .list is,h=>⟨okL rfl,Au7 h.1,trivial⟩
 | .para rs,h=>⟨okL rfl,Bk6 h,trivial⟩
 | .quote bs,h=>⟨okL rfl,Au8 h,trivial⟩
theorem Au8:∀ {bs:List Bk},sV bs->pA (bkEs bs)
 | [],_=>trivial
 | b::bs,h=>⟨De5 h.1,Au8 h.2⟩
end
theorem bQ {H:Heap}{w:List Nat}{xs:List X}{lo hi:Nat}{v:V}(h:I1 H (.tup [.at (.s w),.lst xs]) lo hi v):∃ a,v=.tup [.str w,.ref a]/\I1 H (.lst xs) lo hi (.ref a):=by
 obtain ⟨l,rfl,h⟩:=h
 replace h:=M2 h;obtain ⟨r,rfl,h⟩:=h
 replace h:=dG h;obtain ⟨a,r,rfl,ha,h⟩:=h
 rw [h.2]
 exact ⟨a,rfl,ha⟩
theorem Am1 {H:Heap}{n:Nat}{lo hi:Nat}{v:V}(h:I1 H (bkE (.gap n)) lo hi v):v=.tup [.str [103,97,112],.int (n:Nat)]:=by
 obtain ⟨l,rfl,h⟩:=h
 replace h:=M2 h;obtain ⟨r,rfl,h⟩:=h
 replace h:=M2 h;obtain ⟨r,rfl,h⟩:=h
 rw [h.2];rfl
theorem xD {H:Heap}{n:Nat}{ts:List T}{lo hi:Nat}{v:V}(h:I1 H (bkE (.head n ts)) lo hi v):∃ a,v=.tup [.str [104,101,97,100,105,110,103],.int (n:Nat),.ref a]/\I1 H (.lst (encs ts)) lo hi (.ref a):=by
 obtain ⟨l,rfl,h⟩:=h
 replace h:=M2 h;obtain ⟨r,rfl,h⟩:=h
 replace h:=M2 h;obtain ⟨r,rfl,h⟩:=h
 replace h:=dG h;obtain ⟨a,r,rfl,ha,h⟩:=h
 rw [h.2]
 exact ⟨a,rfl,ha⟩
theorem Cp9 {H:Heap}{is:List Bk}{lo hi:Nat}{l:List V}{k:Nat}{v:V}(h:E8 H (bkEs is) lo hi l) (hv:l[k]? = some v):∃ i,is[k]? = some i/\I1 H (bkE i) lo hi v:=Cb6 (U5 is) h hv
theorem Cp7 {H:Heap}{is:List (List T)}{lo hi:Nat}{l:List V}{k:Nat}{v:V}(h:E8 H (yW is) lo hi l) (hv:l[k]? = some v):∃ i a,is[k]? = some i/\v=.ref a/\I1 H (.lst (encs i)) lo hi (.ref a):=by
 obtain ⟨ts,ht,hr⟩:=Cb6 (iS is) h hv
 obtain ⟨a,_,_,_,rfl,_⟩:=id hr
 exact ⟨ts,a,ht,rfl,hr⟩
theorem Cs2 {H:Heap}{lo hi:Nat}{v:V}(h:I1 H (bkE .bad) lo hi v):∃ a,v=.tup [.str [104,101,97,100,105,110,103],.int (-1),.ref a]:=by
 obtain ⟨l,rfl,h⟩:=h
 replace h:=M2 h;obtain ⟨r,rfl,h⟩:=h
 replace h:=M2 h;obtain ⟨r,rfl,h⟩:=h
 replace h:=dG h;obtain ⟨a,r,rfl,ha,h⟩:=h
 rw [h.2]
 exact ⟨a,rfl⟩
theorem Bp6 {H:Heap}{xs:List X}{a b lo hi m:Nat}(hm:m<100) (hf:J3 W m (.lst xs)) (ho:okX (.lst xs)) (h:I1 H (.lst xs) lo hi (.ref a)) (hh:hi<=H.length):S3 .eq (.ref a) (.ref H.length) (H++[[]])=some (cO (xs=[])):=by
 cases xs with
 | nil=>rw [L8 rfl];exact De8 (w:=W) (m:=m) hm hf ho (h.grow .one hh) (J7 (lo:=0) (hi:=H.length+1) (p:=0) (q:=0) ⟨B0 _,B1 _,A4 _,B0 _⟩ D3 (.nil (A4 _)))
 | cons x xs=>rw [J0 fun q=>nomatch q];exact De7 hm hf ho (h.grow .one hh) D3
theorem xS {C:Calls}{ρ:D7}{H:Heap}{xs:List X}{a lo hi m:Nat}{e:E}(he:Ev C ρ H e (.ref a)) (hm:m<100) (hf:J3 W m (.lst xs)) (ho:okX (.lst xs)) (h:I1 H (.lst xs) lo hi (.ref a)) (hh:hi<=H.length):W5 C ρ H (.cmp .eq e (.list [])) (.bool (cO (xs=[]))) (fun G=>G=H++[[]]) :=
 Bj9 (kL he) (fun G g=>by subst g;exact Ay6) fun G g=>by
  subst g
  exact Bp6 (b:=0) hm hf ho h hh
theorem An1 {C:Calls}{ρ:D7}{H:Heap}{xs:List X}{a lo hi m:Nat}{e:E}(he:Ev C ρ H e (.ref a)) (hm:m<100) (hf:J3 W m (.lst xs)) (ho:okX (.lst xs)) (h:I1 H (.lst xs) lo hi (.ref a)) (hh:hi<=H.length):W5 C ρ H (.cmp .ne e (.list [])) (.bool (!cO (xs=[]))) (D0 H) :=
 zA (Φ:=fun G=>G=H++[[]]) (Bj9 (kL he) (fun G g=>by subst g;exact Ay6) fun G g=>by
  subst g
  exact congrArg (Option.map not) (Bp6 (b:=0) hm hf ho h hh)) fun G g=>by subst g;exact .one
theorem iU {α:Type}{f:List α->List X}{l:List α}(h:(f l).length=l.length):f l=[]↔l=[]:=⟨fun q=>List.length_eq_zero_iff.mp (by rw [<- h,q];rfl),fun q=>List.length_eq_zero_iff.mp (by rw [h,q];rfl)⟩
noncomputable def RO (deep:Nat) (rs:List (List T)):Prop:=rs≠[]/\∀ ts∈rs,Ct ts/\(shp deep (rowTs ts)).k=4
theorem Ch8 {n deep a lo hi m:Nat}{rs:List (List T)}{H:Heap}(hrs:∀ ts∈rs,LC ts) (hm:m<100) (hf:J3 W m (.lst (yW rs))) (hr:I1 H (.lst (yW rs)) lo hi (.ref a)) (hh:hi<=H.length) (Q:C2) (h:∀ G,D0 H G->Q (.bool (cO (RO deep rs))) G):callN P (n+31) "are_rows" [.ref a,.int (deep:Nat)] Q H:=by
 have hok:=Bk6 hrs
 have e1:∀ {C:Calls},W5 C [some (.ref a),some (.int (deep:Nat)),none] H (.or [.not (.isinst (.var 0) .list),.cmp .eq (.var 0) (.list [])]) (.bool (cO (rs=[]))) (fun G=>G=H++[[]]):=h_b (zH (kL (v:=.bool false) (fun zz h=>h)) fun G g=>by subst g;exact Au2 (xS (by exact fun zz h=>h) hm hf hok hr hh)) (U1 (iU (iT rs)))
 by_cases hne:rs=[]
 ·rw [L8 hne] at e1
  rw [J0 fun q=>q.1 hne] at h
  exact nA (V8 e1 fun G g=>E0 (fun zz h=>h) (by subst g;exact h _ .one))
 ·rw [J0 hne] at e1
  refine nA (S1 e1 fun G g=>?_)
  subst g
  obtain ⟨a',l,p,q,e,hb,ha,hrl⟩:=hr
  cases e
  have hq:q<=H.length:=A3 hb.qh hh
  have hll:l.length=rs.length:=hrl.len.trans (iT rs)
  refine H5 (cU (σ:=Option V) (fun z=>[some (.ref a),some (.int (deep:Nat)),z]) (fun k z G=>D0 H G/\∀ ts∈rs.take k,Ct ts/\(shp deep (rowTs ts)).k=4) (l:=l) (fun k z G hI=>hI.1.get ha) (fun k z G v hv hI K hK=>?_) (fun z G hI=>?_) none (fun zz h=>h) ⟨.one,fun ts q=>nomatch q⟩)
  ·obtain ⟨hI,hp⟩:=hI
   obtain ⟨ts,b,hts,rfl,hrb⟩:=Cp7 hrl hv
   have hc:=hrs ts (B9 hts)
   have hrb:=hrb.grow hI hq
   have hqG:q<=G.length:=A3 hq hI.len
   have bad:∀ {G1:Heap},D0 G G1->¬ (Ct ts/\(shp deep (rowTs ts)).k=4)->Q (.bool false) G1:=fun {G1} g1 q=>by
    have:=h G1 (hI.trans g1)
    rw [J0 fun k=>q (k.2 ts (B9 hts))] at this
    exact this
   by_cases hct:Ct ts
   ·have hk5:=(Au5 deep (rowTs ts)).1
    have e2:∀ G1,D0 G G1->W5 (callN P (n+30)) [some (.ref a),some (.int (deep:Nat)),some (.ref b)] G1 (.cmp .ne (.idx (.call "shape" [.call "row_of" [.var 2],.var 1]) (.int 0)) (.str [112,108,97,105,110])) (.bool (!((shp deep (rowTs ts)).k==4))) (D0 G1):=fun G1 g1 Q k=>by
     refine Cy9 (mG (K8 (J1 (K8 (J1 (Z6 rfl (G8 (uO (n:=n+1) hct.good (hrb.grow g1 hqG) (A3 hqG g1.len) (A3 hct.len (by decide)) fun l l'=>J1 (Z6 rfl (G8 (Bw9 (n:=n+28) (deep:=deep) (row:=rowTs ts) _ ?_)))))))))))
     have e4:=Ct6 _ (Nat.lt_succ_of_le hk5) 4 (by decide)
     show Q (.bool (!(nmS (shp deep (rowTs ts)).k==nmS 4))) _
     rw [e4]
     exact k _ mJ
    have e3:W5 (callN P (n+30)) [some (.ref a),some (.int (deep:Nat)),some (.ref b)] G (.or [.not (.call "is_content" [.var 2]),.cmp .ne (.idx (.call "shape" [.call "row_of" [.var 2],.var 1]) (.int 0)) (.str [112,108,97,105,110])]) (.bool (!((shp deep (rowTs ts)).k==4))) (D0 G):=zH (mF (t:=true) (V2 (fun zz h=>h) fun Q k=>Y9 (n:=n) hc hrb hqG Q fun G1 g1=>by rw [L8 hct];exact k G1 g1)) fun G1 g1=>Au2 (zA (e2 G1 g1) fun G2 g2=>g1.trans g2)
    by_cases h4:(shp deep (rowTs ts)).k=4
    ·rw [h4] at e3
     exact S1 e3 fun G2 g2=>hK _ _ ⟨hI.trans g2,Af6 (p:=fun l=>∀ ts∈l,Ct ts/\(shp deep (rowTs ts)).k=4) (q:=fun ts=>Ct ts/\(shp deep (rowTs ts)).k=4) (fun ts q=>nomatch q) (fun us t h1 h2 x hx=>(List.mem_append.mp hx).elim (h1 x) fun q=>by rw [List.mem_singleton.mp q];exact h2) hp hts ⟨hct,h4⟩⟩
    ·rw [beq_eq_false_iff_ne.mpr h4] at e3
     exact V8 e3 fun G2 g2=>E0 (fun zz h=>h) (bad g2 fun q=>h4 q.2)
   ·exact V8 (Bk8 (mF (t:=false) (V2 (Φ:=D0 G) (fun zz h=>h) fun Q k=>Y9 (n:=n) hc hrb hqG Q fun G1 g1=>by rw [J0 hct];exact k G1 g1))) fun G2 g2=>E0 (fun zz h=>h) (bad g2 fun q=>hct q.1)
  ·obtain ⟨hI,hp⟩:=hI
   rw [hll,List.take_length] at hp
   have:=h G hI
   rw [L8 ⟨hne,hp⟩] at this
   exact this
theorem Ae9 {bs:List Bk}{k:Nat}{b:Bk}(h:bs[k]? = some b):bkE b∈bkEs bs:=by rw [U5];exact List.mem_map.mpr ⟨b,B9 h,rfl⟩
noncomputable def ABs (d deep n:Nat):Prop:=∀ (bs:List Bk) (a lo hi m:Nat) (H:Heap) (Q:C2),sV bs->m<100->J3 W m (.lst (bkEs bs))->I1 H (.lst (bkEs bs)) lo hi (.ref a)->hi<=H.length->(∀ G,D0 H G->Q (.bool (cO (bs≠[]/\yT deep [] bs))) G)->callN P n "are_blocks" [.ref a,.int (deep:Nat)] Q H
theorem pW {m:Nat}{x y:X}(h:J3 W m (.tup [x,y])):∃ m',m=m'+1/\J3 W m' y:=by
 cases m with
 | zero=>exact h.elim
 | succ m=>exact ⟨m,rfl,h.2 y (.tail _ (.head _))⟩
theorem Ah3 {n d deep lo hi m:Nat}{b:Bk}{v:V}{H:Heap}(hd:deep+d=9) (ih:∀ d',d=d'+1->ABs d' (deep+1) (n+40)) (hb:LB1 b) (hm:m<100) (hf:J3 W m (bkE b)) (hr:I1 H (bkE b) lo hi v) (hh:hi<=H.length) (Q:C2) (h:∀ G,D0 H G->Q (.bool (cO (BO1 deep b))) G):callN P (n+41) "is_block" [v,.int (deep:Nat)] Q H:=by
 refine Ai0 ?_
 cases b with
 | gap k =>
  rw [Am1 hr]
  exact C5 (G6 (C8 (fun zz h=>h) F8) rfl) (E0 (C8 (fun zz h=>h) Ar0) (h H .refl))
 | head k ts =>
  obtain ⟨a,rfl,hra⟩:=xD hr
  refine C1 (G6 (C8 (fun zz h=>h) F8) rfl) (C5 (G6 (C8 (fun zz h=>h) F8) rfl) ?_)
  by_cases hk:1<=k/\k<=6
  ·rw [U1 (q:=Ct ts) ⟨fun q=>q.2,fun q=>⟨hk,q⟩⟩] at h
   exact W7 (Φ:=D0 H) (pP (kL (G6 (C8 (fun zz h=>h) (lR (m:=6))) (L8 hk))) fun G g=>by subst g;exact pQ (V2 (fun zz h=>h) fun Q k=>Y9 (n:=n+10) hb.1 hra hh Q k)) h
  ·rw [J0 fun q=>hk q.1] at h
   exact W7 (Φ:=fun G=>G=H) (gR (kL (G6 (C8 (fun zz h=>h) (lR (m:=6))) (J0 hk)))) fun G g=>by subst g;exact h _ .refl
 | bad =>
  obtain ⟨a,rfl⟩:=Cs2 hr
  rw [J0 (p:=BO1 deep .bad) id] at h
  exact C1 (G6 (C8 (fun zz h=>h) F8) rfl) (C5 (G6 (C8 (fun zz h=>h) F8) rfl) (W7 (Φ:=fun G=>G=H) (gR (kL (C8 (fun zz h=>h) Aq9))) fun G g=>by subst g;exact h _ .refl))
 | list is =>
  obtain ⟨a,rfl,hra⟩:=bQ hr
  obtain ⟨m',rfl,hfl⟩:=pW hf
  refine C1 (G6 (C8 (fun zz h=>h) F8) rfl) (C1 (G6 (C8 (fun zz h=>h) F8) rfl) (C5 (G6 (C8 (fun zz h=>h) F8) rfl) ?_))
  by_cases hi0:fM 0 9 is
  ·rw [U1 (q:=¬ is=[]) ⟨fun q=>q.1,fun q=>⟨q,hi0,hb.2⟩⟩] at h
   refine W7 (Φ:=D0 H) (pP (V2 (fun zz h=>h) fun Q k=>cH 9 n is 0 a lo hi H Q hb.2 hb.1 hra hh fun G g=>by rw [L8 hi0];exact k G g) fun G g=>pQ (zA (h_b (An1 (by exact fun zz h=>h) (Nat.lt_of_succ_lt hm) hfl (Au7 hb.1) (hra.grow g hh) (A3 hh g.len)) ?_) fun G1 g1=>g.trans g1)) h
   by_cases e:is=[]
   ·rw [L8 ((iU (Y7 is)).mpr e),J0 fun q=>q e];rfl
   ·rw [J0 fun q=>e ((iU (Y7 is)).mp q),L8 e];rfl
  ·rw [J0 fun q=>hi0 q.2.1] at h
   exact W7 (Φ:=D0 H) (gR (V2 (fun zz h=>h) fun Q k=>cH 9 n is 0 a lo hi H Q hb.2 hb.1 hra hh fun G g=>by rw [J0 hi0];exact k G g)) h
 | para rs =>
  obtain ⟨a,rfl,hra⟩:=bQ hr
  obtain ⟨m',rfl,hfl⟩:=pW hf
  exact C1 (G6 (C8 (fun zz h=>h) F8) rfl) (C1 (G6 (C8 (fun zz h=>h) F8) rfl) (C1 (G6 (C8 (fun zz h=>h) F8) rfl) (C5 (G6 (C8 (fun zz h=>h) F8) rfl) (W7 (Φ:=D0 H) (V2 (fun zz h=>h) fun Q k=>Ch8 (n:=n+9) (m:=m') hb (Nat.lt_of_succ_lt hm) hfl hra hh Q k) h))))
 | quote bs =>
  obtain ⟨a,rfl,hra⟩:=bQ hr
  obtain ⟨m',rfl,hfl⟩:=pW hf
  refine C1 (G6 (C8 (fun zz h=>h) F8) rfl) (C1 (G6 (C8 (fun zz h=>h) F8) rfl) (C1 (G6 (C8 (fun zz h=>h) F8) rfl) (C1 (G6 (C8 (fun zz h=>h) F8) rfl) (C5 (G6 (C8 (fun zz h=>h) F8) rfl) ?_))))
  by_cases h9:deep<9
  ·rw [U1 (q:=bs≠[]/\yT (deep+1) [] bs) ⟨fun q=>q.2,fun q=>⟨h9,q⟩⟩] at h
   obtain ⟨d',rfl⟩:=xI hd h9
   exact W7 (Φ:=D0 H) (pP (kL (G6 (D9 (fun zz h=>h) (fun zz h=>h) T5) (decide_eq_true (Int.ofNat_lt.mpr h9)))) fun G g=>by subst g;exact pQ (V2 (fun zz h=>h) fun Q k=>ih d' rfl bs a lo hi m' G Q hb (Nat.lt_of_succ_lt hm) hfl hra hh k)) h
  ·rw [J0 fun q=>h9 q.1] at h
   exact W7 (Φ:=fun G=>G=H) (gR (kL (G6 (D9 (fun zz h=>h) (fun zz h=>h) T5) (decide_eq_false fun q=>h9 (Int.ofNat_lt.mp q))))) fun G g=>by subst g;exact h _ .refl
theorem Bk7 {H:Heap}{b:Bk}{lo hi:Nat}{v:V}(h:I1 H (bkE b) lo hi v):∃ l,v=.tup (.str (nmB b)::l):=by
 cases b<;>(obtain ⟨l,rfl,h⟩:=h;replace h:=M2 h;obtain ⟨r,rfl,h⟩:=h;exact ⟨r,rfl⟩)
structure BZ where
 last:List Nat
 e:Option V
theorem Bb9 {n d deep:Nat}(hd:deep+d=9) (ih:∀ d',d=d'+1->ABs d' (deep+1) (n+40)):ABs d deep (n+42):=by
 intro bs a lo hi m H Q hbo hm hf hr hh hQ
 have e1:∀ {C:Calls},W5 C [some (.ref a),some (.int (deep:Nat)),none,none] H (.or [.not (.isinst (.var 0) .list),.cmp .eq (.var 0) (.list [])]) (.bool (cO (bs=[]))) (fun G=>G=H++[[]]):=h_b (zH (kL (v:=.bool false) (fun zz h=>h)) fun G g=>by subst g;exact Au2 (xS (by exact fun zz h=>h) hm hf (Au8 hbo) hr hh)) (U1 (iU (R8 bs)))
 by_cases hne:bs=[]
 ·rw [L8 hne] at e1
  rw [J0 fun q=>q.1 hne] at hQ
  exact fY (V8 e1 fun G g=>E0 (fun zz h=>h) (by subst g;exact hQ _ .one))
 ·rw [J0 hne] at e1
  rw [U1 (q:=yT deep [] bs) ⟨fun q=>q.2,fun q=>⟨hne,q⟩⟩] at hQ
  refine fY (S1 e1 fun G g=>?_)
  subst g
  obtain ⟨a',l,p,q,e,hb,ha,hrl⟩:=hr
  cases e
  have hq:q<=H.length:=A3 hb.qh hh
  have hll:l.length=bs.length:=hrl.len.trans (R8 bs)
  cases m with
  | zero=>exact hf.elim
  | succ m =>
  refine C9 (fun zz h=>h) (H5 (cU (σ:=BZ) (fun z=>[some (.ref a),some (.int (deep:Nat)),some (.str z.last),z.e]) (fun k z G=>D0 H G/\(yT deep [] bs↔yT deep z.last (bs.drop k))) (l:=l) (fun k z G hI=>hI.1.get ha) (fun k z G v hv hI K hK=>?_) (fun z G hI=>?_) ⟨[],none⟩ (fun zz h=>h) ⟨.one,Iff.rfl⟩))
  ·obtain ⟨hg,hio⟩:=hI
   obtain ⟨b,hb1,hrb⟩:=Cp9 hrl hv
   have hfb:=hf.2 _ (Ae9 hb1)
   have hlb:=hbo.get hb1
   have ed:bs.drop k=b::bs.drop (k+1):=by
    obtain ⟨h1,h2⟩:=List.getElem?_eq_some_iff.mp hb1
    rw [List.drop_eq_getElem_cons h1,h2]
   rw [ed] at hio
   have hrb:=hrb.grow hg hq
   have hqG:q<=G.length:=A3 hq hg.len
   obtain ⟨vs,rfl⟩:=Bk7 hrb
   have bad:∀ {G1:Heap},D0 G G1->¬ (BO1 deep b/\(nmB b≠z.last∨z.last=[104,101,97,100,105,110,103]))->Q (.bool false) G1:=fun {G1} g1 q=>by
    have:=hQ G1 (hg.trans g1)
    rw [J0 fun k=>q ⟨(hio.mp k).1,(hio.mp k).2.1⟩] at this
    exact this
   have e2:W5 (callN P (n+41)) [some (.ref a),some (.int (deep:Nat)),some (.str z.last),some (.tup (.str (nmB b)::vs))] G (.not (.call "is_block" [.var 3,.var 1])) (.bool (!cO (BO1 deep b))) (D0 G):=mF (V2 (fun zz h=>h) fun Q k=>Ah3 hd ih hlb (Nat.lt_of_succ_lt hm) hfb hrb hqG Q k)
   by_cases ho:BO1 deep b
   ·rw [L8 ho] at e2
    refine S1 e2 fun G1 g1=>?_
    have e0:∀ {C:Calls},Ev C [some (.ref a),some (.int (deep:Nat)),some (.str z.last),some (.tup (.str (nmB b)::vs))] G1 (.idx (.var 3) (.int 0)) (.str (nmB b)):=F9 (fun zz h=>h) (fun zz h=>h) kY
    have e3:∀ {C:Calls},Ev C [some (.ref a),some (.int (deep:Nat)),some (.str z.last),some (.tup (.str (nmB b)::vs))] G1 (.and [.cmp .eq (.idx (.var 3) (.int 0)) (.var 2),.cmp .ne (.var 2) (.str [104,101,97,100,105,110,103])]) (.bool (nmB b==z.last&&!(z.last==[104,101,97,100,105,110,103]))):=D1 (D9 e0 (fun zz h=>h) rfl) fun q=>H8 (D9 (fun zz h=>h) (fun zz h=>h) rfl)
    by_cases hl:nmB b≠z.last∨z.last=[104,101,97,100,105,110,103]
    ·refine C1 (G6 e3 ?_) (C9 e0 (hK ⟨nmB b,_⟩ _ ⟨hg.trans g1,hio.trans ⟨fun q=>q.2.2,fun q=>⟨ho,hl,q⟩⟩⟩))
     rcases hl with hl | hl
     ·rw [beq_eq_false_iff_ne.mpr hl];rfl
     ·rw [hl];exact Bool.and_false _
    ·refine C5 (G6 e3 ?_) (E0 (fun zz h=>h) (bad g1 fun q=>hl q.2))
     rw [beq_iff_eq.mpr (Classical.not_not.mp fun q=>hl (Or.inl q)),beq_eq_false_iff_ne.mpr fun q=>hl (Or.inr q)];rfl
   ·rw [J0 ho] at e2
    exact V8 e2 fun G1 g1=>E0 (fun zz h=>h) (bad g1 fun q=>ho q.1)
  ·have:=hQ G hI.1
   rw [hll,List.drop_length] at hI
   rw [L8 (hI.2.mpr trivial)] at this
   exact this
theorem gK:∀ (d deep n:Nat),deep+d=9->ABs d deep (n+2 * d+42)
 | 0,deep,n,hd=>Bb9 hd fun d' q=>nomatch q
 | d+1,deep,n,hd=>Bb9 (n:=n+2 * d+2) hd fun d' q=>by cases q;exact gK d (deep+1) n (pG hd)
theorem Co0 {n:Nat}:∀ (l:List Nat),(∀ m,l.reverse[jO l.reverse n]? = some m->n<=m)/\∀ i m,i+1=jO l.reverse n->l.reverse[i]? = some m->m<n
 | []=>⟨(fun m h=>nomatch h),(fun i m zz h=>nomatch h)⟩
 | x::l=>by
  have ih:=Co0 (n:=n) l
  rw [List.reverse_cons]
  generalize l.reverse=ds at ih
  rw [eV]
  by_cases h:n<=x
  ·rw [if_pos h]
   refine ⟨fun m hm=>?_,fun i m hi hm=>?_⟩
   ·rcases Nat.lt_or_ge (jO ds n) ds.length with q | q
    ·rw [List.getElem?_append_left q] at hm;exact ih.1 m hm
    ·rw [Nat.le_antisymm Av0 q,List.getElem?_append_right (A4 _),Nat.sub_self] at hm
     cases hm;exact h
   ·rw [List.getElem?_append_left (A8 (Nat.lt_of_succ_le (Nat.le_of_eq hi)) Av0)] at hm
    exact ih.2 i m hi hm
  ·rw [if_neg h]
   refine ⟨fun m hm=>?_,fun i m hi hm=>?_⟩
   ·rw [List.getElem?_eq_none (by rw [A6];exact A4 _)] at hm;cases hm
   ·cases Nat.succ.inj hi
    rw [List.getElem?_append_right (A4 _),Nat.sub_self] at hm
    cases hm;exact Nat.lt_of_not_le h
noncomputable def DC:List Nat->List It->Prop
 | [],is=>is=[]
 | m::ds,is=>∃ is' ts sub,is=is'++[.it m ts sub]/\DC ds sub
theorem fM.snoc {above n:Nat}{x i:It}(hx:IO1 above (dsh i) x):∀ {most:Nat}{is:List It},fM above most (is++[i])->fM above most ((is++[i])++[x])
 | most,[],h=>⟨h.1,hx,trivial⟩
 | most,j::is,h=>⟨h.1,fM.snoc (n:=n) hx h.2⟩
theorem fM.swap {above:Nat}{i i':It}(hi:∀ mo,IO1 above mo i->IO1 above mo i'):∀ {most:Nat}{is:List It},fM above most (is++[i])->fM above most (is++[i'])
 | most,[],h=>⟨hi _ h.1,trivial⟩
 | most,j::is,h=>⟨h.1,fM.swap hi h.2⟩
theorem fM.lastI {above:Nat}{i:It}:∀ {most:Nat}{is:List It},fM above most (is++[i])->∃ mo,IO1 above mo i
 | most,[],h=>⟨most,h.1⟩
 | most,j::is,h=>fM.lastI h.2
theorem Bp2 {n:Nat}{ts:List T}(hn:1<=n/\n<=9) (hc:Ct ts):∀ (j:Nat) (is:List It) (ds:List Nat) (above:Nat),DC ds is->fM above 9 is->(j=0->above<n)->(∀ i m,i+1=j->ds[i]? = some m->m<n)->(∀ m,ds[j]? = some m->n<=m)->j<=ds.length->fM above 9 (insAt j is (.it n ts []))/\DC (ds.take j++[n]) (insAt j is (.it n ts []))
 | 0,is,ds,above,hd,hi,h0,h1,h2,hj=>by
  refine ⟨?_,is,ts,[],rfl,rfl⟩
  show fM above 9 (is++[_])
  match ds,hd with
  | [],hd=>rw [hd];exact ⟨⟨⟨hn.1,hn.2,h0 rfl⟩,hc,trivial⟩,trivial⟩
  | m::ds,⟨is',ts',sub,e,hd⟩ =>
   rw [e] at hi ⊢
   exact fM.snoc (n:=0) (x:=.it n ts []) (i:=.it m ts' sub) ⟨⟨hn.1,h2 m rfl,h0 rfl⟩,hc,trivial⟩ hi
 | j+1,is,ds,above,hd,hi,h0,h1,h2,hj=>by
  match ds,hd,h1,h2,hj with
  | m::ds,⟨is',ts',sub,e,hd⟩,h1,h2,hj =>
   rw [e] at hi ⊢
   rw [S5]
   obtain ⟨mo,g1,g2,g3⟩:=fM.lastI hi
   obtain ⟨k1,k2⟩:=Bp2 hn hc j sub ds m hd g3 (fun q=>h1 0 m (by rw [q]) rfl) (fun i m' q hm=>h1 (i+1) m' (congrArg (· + 1) q) hm) (fun m' hm=>h2 m' hm) (Nat.le_of_succ_le_succ hj)
   exact ⟨fM.swap (i:=.it m ts' sub) (i':=.it m ts' (insAt j sub (.it n ts []))) (fun mo h=>⟨h.1,h.2.1,k1⟩) hi,is',ts',_,rfl,k2⟩
theorem Bp1:∀ (k:Nat) (rs:List (Nat×List T)),rs.length=k->(∀ r∈rs,(1<=r.1/\r.1<=9)/\Ct r.2)->fM 0 9 (oG rs).1/\DC (oG rs).2 (oG rs).1
 | 0,rs,e,h=>by rw [List.length_eq_zero_iff.mp e];exact ⟨trivial,rfl⟩
 | k+1,rs,e,h=>by
  rcases List.eq_nil_or_concat rs with rfl | ⟨rs',r,rfl⟩
  ·cases e
  ·rw [List.concat_eq_append] at h e ⊢
   rw [A6] at e
   rw [jK]
   have hr:=h r (List.mem_append_right _ (.head _))
   obtain ⟨h1,h2⟩:=Bp1 k rs' (Nat.succ.inj e) fun x hx=>h x (List.mem_append_left _ hx)
   have hj:=Co0 (n:=r.1) (oG rs').2.reverse
   rw [List.reverse_reverse] at hj
   exact Bp2 hr.1 hr.2 (jO (oG rs').2 r.1) (oG rs').1 (oG rs').2 0 h2 h1 (fun zz=>hr.1.1) hj.2 hj.1 Av0
noncomputable def mk (c n:Nat) (r:List Nat):List Nat:=List.replicate n c++32::r
mutual
noncomputable def rwI:It->List (List Nat)
 | .it n ts sub=>mk 45 n (rowTs ts)::rwIs sub
noncomputable def rwIs:List It->List (List Nat)
 | []=>[]
 | i::is=>rwI i++rwIs is
end
theorem Y4:∀ is js:List It,rwIs (is++js)=rwIs is++rwIs js
 | [],js=>rfl
 | i::is,js=>by show rwI i++rwIs (is++js)=(rwI i++rwIs is)++rwIs js;rw [Y4 is js,A7]
theorem dN (i:It):rwIs [i]=rwI i:=List.append_nil _
theorem Bo2:∀ (j:Nat) (is:List It) (x:It),rwIs (insAt j is x)=rwIs is++rwI x
 | 0,is,x=>by show rwIs (is++[x])=_;rw [Y4,dN]
 | j+1,is,x=>by
  rcases List.eq_nil_or_concat is with rfl | ⟨is',i,rfl⟩
  ·exact dN x
  ·rw [List.concat_eq_append]
   obtain ⟨m,ts,sub⟩:=i
   rw [S5,Y4,Y4,dN,dN]
   show rwIs is'++(mk 45 m (rowTs ts)::rwIs (insAt j sub x))=(rwIs is'++(mk 45 m (rowTs ts)::rwIs sub))++rwI x
   rw [Bo2 j sub x,A7];rfl
theorem Am3:∀ (k:Nat) (rs:List (Nat×List T)),rs.length=k->rwIs (oG rs).1=rs.map fun r=>mk 45 r.1 (rowTs r.2)
 | 0,rs,e=>by rw [List.length_eq_zero_iff.mp e];rfl
 | k+1,rs,e=>by
  rcases List.eq_nil_or_concat rs with rfl | ⟨rs',r,rfl⟩
  ·cases e
  ·rw [List.concat_eq_append] at e ⊢
   rw [A6] at e
   rw [jK,List.map_append,<- Am3 k rs' (Nat.succ.inj e)]
   exact Bo2 _ _ _
mutual
noncomputable def rwB:Bk->List (List Nat)
 | .gap n=>List.replicate n []
 | .head n ts=>[mk 35 n (rowTs ts)]
 | .bad=>[[32]]
 | .list is=>rwIs is
 | .para rs=>rs.map rowTs
 | .quote bs=>(rwBs bs).map fun r=>62::32::r
noncomputable def rwBs:List Bk->List (List Nat)
 | []=>[]
 | b::bs=>rwB b++rwBs bs
end
noncomputable def Ak2 (s:Sh):List Nat:=match s.k with
 | 0=>[]
 | 1=>62::32::s.r
 | 2=>mk 35 s.n s.r
 | 3=>mk 45 s.n s.r
 | _=>s.r
theorem Ac5 (c:Nat):∀ row:List Nat,row.take (runL c row)=List.replicate (runL c row) c
 | []=>rfl
 | x::r=>by
  by_cases h:x=c
  ·rw [show runL c (x::r)=runL c r+1 from if_pos h,List.take_succ_cons,Ac5 c r,List.replicate_succ,h]
  ·rw [show runL c (x::r)=0 from if_neg h];rfl
theorem Bo8 {c m:Nat}{row:List Nat}(h:isRun c m row=true):mk c (runL c row) (row.drop (runL c row+1))=row:=by
 obtain ⟨h1,h2⟩:=Bool.and_eq_true_iff.mp h
 have h3:=beq_iff_eq.mp (Bool.and_eq_true_iff.mp h2).2
 have e:row.drop (runL c row)=32::row.drop (runL c row+1):=by
  rw [<- List.tail_drop]
  generalize row.drop (runL c row)=d at h3
  match d,h3 with
  | x::d,h3=>cases h3;rfl
 unfold mk
 rw [<- Ac5,<- e,List.take_append_drop]
theorem Bw5 (deep:Nat) (row:List Nat):Ak2 (shp deep row)=row:=by
 rcases P3 deep row with ⟨rfl,e⟩ | ⟨h0,⟨hq,e⟩ | ⟨hq,⟨h35,e⟩ | ⟨h35,⟨h45,e⟩ | ⟨h45,e⟩⟩⟩⟩
 ·rw [e];rfl
 ·rw [e]
  have:=beq_iff_eq.mp (Bool.and_eq_true_iff.mp hq).2
  show [62,32]++row.drop 2=row
  rw [<- this,List.take_append_drop]
 ·rw [e];exact Bo8 h35
 ·rw [e];exact Bo8 h45
 ·rw [e];rfl
theorem Ae0:∀ ss:List Sh,(grpF ss).flatten=ss
 | []=>rfl
 | s::r=>by
  have ih:=Ae0 r
  show (match grpF r with
   | []=>[[s]]
   | g::gs=>bif joins s g then (s::g)::gs else [s]::g::gs).flatten=s::r
  cases hg:grpF r with
  | nil=>rw [hg] at ih;rw [<- ih];rfl
  | cons g gs =>
   rw [hg] at ih
   show (bif joins s g then (s::g)::gs else [s]::g::gs).flatten=_
   cases joins s g with
   | true=>rw [<- ih];rfl
   | false=>rw [<- ih];rfl
theorem Cs9 {rec:List (List Nat)->List Bk}{s:Sh}{m:List Sh}(hu:Uni s m) (hk:s.k<=4) (hrec:s.k=1->rwBs (rec ((s::m).map (·.r)))=(s::m).map (·.r)):rwB (cT rec (s::m))=(s::m).map Ak2:=by
 have hx:∀ x∈s::m,x.k=s.k:=fun x hx=>by
  rcases List.mem_cons.mp hx with rfl | hx
  ·rfl
  ·exact hu.same x hx
 obtain ⟨k,sn,sr⟩:=s
 have h5:k=0∨k=1∨k=2∨k=3∨k=4:=Cb7 hk
 have un:∀ (f:Sh->List Nat),(∀ x:Sh,x.k=k->Ak2 x=f x)->(⟨k,sn,sr⟩::m).map Ak2=(⟨k,sn,sr⟩::m).map f:=fun f hf=>List.map_congr_left fun x h=>hf x (hx x h)
 rcases h5 with rfl | rfl | rfl | rfl | rfl
 ·rw [un (fun zz=>[]) fun x h=>by obtain ⟨_,_,_⟩:=x;cases h;rfl]
  show List.replicate (⟨0,sn,sr⟩::m).length []=_
  exact (List.map_const' ..).symm
 ·rw [un (fun x=>62::32::x.r) fun x h=>by obtain ⟨_,_,_⟩:=x;cases h;rfl]
  show (rwBs (rec _)).map _=_
  rw [hrec rfl,List.map_map];rfl
 ·rw [hu.one rfl]
  show [mk 35 sn (rowTs (yV sr))]=[mk 35 sn sr]
  rw [bZ]
 ·rw [un (fun x=>mk 45 x.n x.r) fun x h=>by obtain ⟨_,_,_⟩:=x;cases h;rfl]
  show rwIs (oG _).1=_
  rw [Am3 _ _ rfl,List.map_map]
  exact List.map_congr_left fun x zz=>congrArg (mk 45 x.n) (bZ x.r)
 ·rw [un (fun x=>x.r) fun x h=>by obtain ⟨_,_,_⟩:=x;cases h;rfl]
  show (List.map (fun s:Sh=>yV s.r) _).map rowTs=_
  rw [List.map_map]
  exact List.map_congr_left fun x zz=>bZ x.r
theorem Ac4 {rec:List (List Nat)->List Bk}:∀ {gs:List (List Sh)},(∀ g∈gs,rwB (cT rec g)=g.map Ak2)->rwBs (gs.map (cT rec))=gs.flatten.map Ak2
 | [],_=>rfl
 | g::gs,h=>by
  show rwB (cT rec g)++rwBs (gs.map (cT rec))=(g++gs.flatten).map Ak2
  rw [h g (.head _),Ac4 fun x hx=>h x (.tail _ hx),List.map_append]
theorem Cn2:∀ (d deep:Nat) (rows:List (List Nat)),deep+d=9->rwBs (rdF d rows)=rows
 | d,deep,rows,hd=>by
  rw [kW hd,Ac4,Ae0,List.map_map]
  ·exact (List.map_congr_left fun r zz=>Bw5 deep r).trans (List.map_id' rows)
  ·intro g hg
   obtain ⟨s,m,rfl,hu,hm,_⟩:=oV hg
   obtain ⟨r,hr',e⟩:=List.mem_map.mp (hm s (.head _))
   have h:=Au5 deep r
   rw [e] at h
   refine Cs9 hu h.1 fun hk=>?_
   match d,hd with
   | 0,hd=>have:=h.2.1 hk;exact fkf (I6 (Nat.le_of_eq hd.symm) this)
   | d+1,hd=>exact Cn2 d (deep+1) _ (by exact Nat.le_antisymm (G9 (Nat.le_of_eq hd)) (G9 (Nat.le_of_eq hd.symm)))
noncomputable def nmK:Nat->List Nat
 | 0=>[103,97,112]
 | 1=>[113,117,111,116,101]
 | 2=>[104,101,97,100,105,110,103]
 | 3=>[108,105,115,116]
 | _=>[112,97,114,97]
theorem Az7:∀ a<5,∀ b<5,nmK a=nmK b->a=b:=by decide
theorem Bo6 {rec:List (List Nat)->List Bk}{s:Sh}{m:List Sh}(hk:s.k<=4):nmB (cT rec (s::m))=nmK s.k:=by
 obtain ⟨k,sn,sr⟩:=s
 have h5:k=0∨k=1∨k=2∨k=3∨k=4:=Cb7 hk
 rcases h5 with rfl | rfl | rfl | rfl | rfl<;>rfl
theorem Ct7:∀ b:Bk,nmB b≠[]
 | .gap _=>List.cons_ne_nil _ _
 | .head _ _=>List.cons_ne_nil _ _
 | .bad=>List.cons_ne_nil _ _
 | .list _=>List.cons_ne_nil _ _
 | .para _=>List.cons_ne_nil _ _
 | .quote _=>List.cons_ne_nil _ _
noncomputable def Adj:Option Nat->List (List Sh)->Prop
 | _,[]=>True
 | o,g::gs=>∃ s m,g=s::m/\(∀ k,o=some k->s.k≠k∨k=2)/\Adj (some s.k) gs
theorem Ba1:∀ ss:List Sh,Adj none (grpF ss)
 | []=>trivial
 | s::r=>by
  have ih:=Ba1 r
  show Adj none (match grpF r with
   | []=>[[s]]
   | g::gs=>bif joins s g then (s::g)::gs else [s]::g::gs)
  cases hg:grpF r with
  | nil=>exact ⟨s,[],rfl,(fun k q=>nomatch q),trivial⟩
  | cons g gs =>
   rw [hg] at ih
   obtain ⟨t,m,rfl,_,h2⟩:=ih
   show Adj none (bif joins s (t::m) then (s::t::m)::gs else [s]::(t::m)::gs)
   have hj:joins s (t::m)=(t.k==s.k&&s.k != 2):=rfl
   cases h:joins s (t::m) with
   | true =>
    rw [h] at hj
    have e:=beq_iff_eq.mp (Bool.and_eq_true_iff.mp hj.symm).1
    exact ⟨s,t::m,rfl,(fun k q=>nomatch q),e▸h2⟩
   | false =>
    rw [h] at hj
    refine ⟨s,[],rfl,(fun k q=>nomatch q),t,m,rfl,fun k q=>?_,h2⟩
    cases q
    have:t.k=s.k->s.k=2:=by simpa using hj.symm
    exact (Classical.em (t.k=s.k)).symm.imp id this
theorem Bb8 {rec:List (List Nat)->List Bk}{deep:Nat}:∀ {gs:List (List Sh)}{o:Option Nat}{last:List Nat},Adj o gs->(∀ g∈gs,BO1 deep (cT rec g)/\∀ s∈g,s.k<=4)->(o=none/\last=[]∨∃ k,k<=4/\o=some k/\last=nmK k)->yT deep last (gs.map (cT rec))
 | [],_,_,_,_,_=>trivial
 | g::gs,o,last,h,hg,ho=>by
  obtain ⟨s,m,rfl,h1,h2⟩:=h
  obtain ⟨g1,g2⟩:=hg _ (.head _)
  have hk:=g2 s (.head _)
  refine ⟨g1,?_,Bb8 h2 (fun g hh=>hg g (.tail _ hh)) (Or.inr ⟨s.k,hk,rfl,Bo6 hk⟩)⟩
  rcases ho with ⟨rfl,rfl⟩ | ⟨k,hk4,rfl,rfl⟩
  ·exact Or.inl (Ct7 _)
  ·rw [Bo6 hk]
   rcases h1 k rfl with q | q
   ·exact Or.inl fun e=>q (Az7 _ (Nat.lt_succ_of_le hk) _ (Nat.lt_succ_of_le hk4) e)
   ·rw [q];exact Or.inr rfl
theorem Bw7 {deep:Nat}{row:List Nat}(h:(shp deep row).k=2):1<=(shp deep row).n/\(shp deep row).n<=6:=by
 rcases P3 deep row with ⟨rfl,e⟩ | ⟨h0,⟨hq,e⟩ | ⟨hq,⟨h35,e⟩ | ⟨h35,⟨h45,e⟩ | ⟨h45,e⟩⟩⟩⟩
 ·rw [e] at h;cases h
 ·rw [e] at h;cases h
 ·rw [e]
  obtain ⟨h1,h2⟩:=Bool.and_eq_true_iff.mp h35
  exact ⟨of_decide_eq_true h1,of_decide_eq_true (Bool.and_eq_true_iff.mp h2).1⟩
 ·rw [e] at h;cases h
 ·rw [e] at h;cases h
theorem Cs6 {deep:Nat}{row:List Nat}(h:Sg row):Sg (shp deep row).r:=by
 rcases P3 deep row with ⟨rfl,e⟩ | ⟨h0,⟨hq,e⟩ | ⟨hq,⟨h35,e⟩ | ⟨h35,⟨h45,e⟩ | ⟨h45,e⟩⟩⟩⟩
 ·rw [e];exact h
 ·rw [e];exact h.drop
 ·rw [e];exact h.drop
 ·rw [e];exact h.drop
 ·rw [e];exact h
theorem Bg2 {deep:Nat}{row:List Nat}(h:(shp deep row).k=4):(shp deep row).r=row:=by
 rcases P3 deep row with ⟨rfl,e⟩ | ⟨h0,⟨hq,e⟩ | ⟨hq,⟨h35,e⟩ | ⟨h35,⟨h45,e⟩ | ⟨h45,e⟩⟩⟩⟩
 ·rw [e] at h;cases h
 ·rw [e] at h;cases h
 ·rw [e] at h;cases h
 ·rw [e] at h;cases h
 ·rw [e]
theorem Cv2 {rec:List (List Nat)->List Bk}{deep:Nat}{s:Sh}{m:List Sh}(hu:Uni s m) (hs:∀ x∈s::m,x.k<=4/\(x.k=3->1<=x.n/\x.n<=9)/\(x.k=2->1<=x.n/\x.n<=6)/\(x.k=4->(shp deep x.r).k=4)/\Sg x.r/\x.r.length<=900000)
  (hrec:s.k=1->deep<9/\rec ((s::m).map (·.r))≠[]/\yT (deep+1) [] (rec ((s::m).map (·.r)))):BO1 deep (cT rec (s::m)):=by
 have hx:∀ x∈s::m,x.k=s.k:=fun x hx=>by
  rcases List.mem_cons.mp hx with rfl | hx
  ·rfl
  ·exact hu.same x hx
 have hk:=(hs s (.head _)).1
 obtain ⟨k,sn,sr⟩:=s
 have pf:∀ x∈⟨k,sn,sr⟩::m,Ct (yV x.r):=fun x hx=>Cu9 (hs x hx).2.2.2.2.1 (hs x hx).2.2.2.2.2
 have h5:k=0∨k=1∨k=2∨k=3∨k=4:=Cb7 hk
 rcases h5 with rfl | rfl | rfl | rfl | rfl
 ·exact B3 (B0 _)
 ·exact hrec rfl
 ·exact ⟨(hs _ (.head _)).2.2.1 rfl,pf _ (.head _)⟩
 ·have h9:∀ r∈(⟨3,sn,sr⟩::m).map fJ,(1<=r.1/\r.1<=9)/\Ct r.2:=fun r hr=>by
   obtain ⟨x,h,rfl⟩:=List.mem_map.mp hr
   exact ⟨(hs x h).2.1 (hx x h),pf x h⟩
  refine ⟨fun q=>?_,(Bp1 _ _ rfl h9).1,(Bp0 _ _ rfl fun r hr=>⟨(h9 r hr).1,(h9 r hr).2.fit⟩).dep⟩
  have:=Am3 _ ((⟨3,sn,sr⟩::m).map fJ) rfl
  rw [show (oG ((⟨3,sn,sr⟩::m).map fJ)).1=[] from q] at this
  cases this
 ·refine ⟨List.cons_ne_nil _ _,fun ts hts=>?_⟩
  obtain ⟨x,h,rfl⟩:=List.mem_map.mp hts
  exact ⟨pf x h,by rw [bZ];exact (hs x h).2.2.2.1 (hx x h)⟩
theorem Cn3 {d deep:Nat}{rows:List (List Nat)}(hd:deep+d=9) (h:rows≠[]):rdF d rows≠[]:=fun q=>by
 have:=Cn2 d deep rows hd
 rw [q] at this
 exact h this.symm
theorem Co2:∀ (d deep:Nat) (rows:List (List Nat)),deep+d=9->(∀ r∈rows,Sg r/\r.length<=900000)->yT deep [] (rdF d rows)
 | d,deep,rows,hd,hr=>by
  rw [kW hd]
  refine Bb8 (Ba1 _) (fun g hg=>?_) (Or.inl ⟨rfl,rfl⟩)
  obtain ⟨s,m,rfl,hu,hm,_⟩:=oV hg
  have hs:∀ x∈s::m,(x.k<=4/\(x.k=3->1<=x.n/\x.n<=9)/\(x.k=2->1<=x.n/\x.n<=6)/\(x.k=4->(shp deep x.r).k=4)/\Sg x.r/\x.r.length<=900000)/\(x.k=1->deep<9):=fun x hx=>by
   obtain ⟨r,hr',rfl⟩:=List.mem_map.mp (hm x hx)
   have h:=Au5 deep r
   exact ⟨⟨h.1,Bw6,Bw7,fun q=>by rw [Bg2 q];exact q,Cs6 (hr r hr').1,A3 h.2.2 (hr r hr').2⟩,h.2.1⟩
  refine ⟨Cv2 hu (fun x hx=>(hs x hx).1) fun hk=>?_,fun x hx=>(hs x hx).1.1⟩
  have hdp:=(hs s (.head _)).2 hk
  match d,hd with
  | 0,hd=>exact fkf (I6 (Nat.le_of_eq hd.symm) hdp)
  | d+1,hd =>
   refine ⟨hdp,Cn3 (d:=d) (deep:=deep+1) (by exact Nat.le_antisymm (G9 (Nat.le_of_eq hd)) (G9 (Nat.le_of_eq hd.symm))) (List.cons_ne_nil _ _),Co2 d (deep+1) _ (by exact Nat.le_antisymm (G9 (Nat.le_of_eq hd)) (G9 (Nat.le_of_eq hd.symm))) fun r hr'=>?_⟩
   obtain ⟨x,hx,rfl⟩:=List.mem_map.mp hr'
   exact ⟨(hs x hx).1.2.2.2.2.1,(hs x hx).1.2.2.2.2.2⟩
structure Up (m:Nat) (H G:Heap):Prop where
 len:H.length<=G.length
 eq:∀ b,b≠m->b<H.length->G[b]? = H[b]?
theorem Up.refl {m:Nat}{H:Heap}:Up m H H:=⟨A4 _,fun zz zz zz=>rfl⟩
theorem Up.trans {m:Nat}{A B C:Heap}(h:Up m A B) (k:Up m B C):Up m A C:=⟨A3 h.len k.len,fun b q1 q2=>(k.eq b q1 (A8 q2 h.len)).trans (h.eq b q1 q2)⟩
theorem Up.grow {m:Nat}{H G:Heap}(g:D0 H G):Up m H G:=⟨g.len,fun b zz q=>g.old b (B0 _) q⟩
theorem Up.set {m:Nat}{H:Heap}{l:List V}:Up m H (H.set m l):=⟨by rw [List.length_set];exact A4 _,fun b q zz=>List.getElem?_set_ne (Ne.symm q)⟩
theorem Up.get {m b:Nat}{H G:Heap}{l:List V}(u:Up m H G) (hb:b≠m) (h:H[b]? = some l):G[b]? = some l:=(u.eq b hb (D2 h)).trans h
theorem Up.eqv {m lo hi:Nat}{H G:Heap}(u:Up m H G) (h1:hi<=m) (h2:hi<=H.length):T3 H G lo hi:=fun x zz q=>u.eq x (Nat.ne_of_lt (A8 q h1)) (A8 q h2)
noncomputable def vV (H:Heap) (lo:Nat):List V->List (List Nat)->Prop
 | [],rs=>rs=[]
 | v::l,rs=>∃ b ps r rs',v=.ref b/\lo<=b/\H[b]? = some ps/\Pc ps r/\rs=r::rs'/\vV H lo l rs'
theorem vV.up {m lo lo':Nat}{H G:Heap}(u:Up m H G) (hm:m<lo) (hl:lo'<=lo):∀ {l:List V}{rs:List (List Nat)},vV H lo l rs->vV G lo' l rs
 | [],rs,h=>h
 | v::l,rs,h=>by
  obtain ⟨b,ps,r,rs',e1,h1,h2,h3,e2,h4⟩:=h
  exact ⟨b,ps,r,rs',e1,A3 hl h1,u.get (Nat.ne_of_gt (A8 hm h1)) h2,h3,e2,vV.up u hm hl h4⟩
theorem vV.app {lo:Nat}{H:Heap}{l':List V}{rs':List (List Nat)}(h':vV H lo l' rs'):∀ {l:List V}{rs:List (List Nat)},vV H lo l rs->vV H lo (l++l') (rs++rs')
 | [],rs,h=>by rw [show rs=[] from h];exact h'
 | v::l,rs,h=>by
  obtain ⟨b,ps,r,rs1,e1,h1,h2,h3,e2,h4⟩:=h
  rw [e2]
  exact ⟨b,ps,r,rs1++rs',e1,h1,h2,h3,rfl,vV.app h' h4⟩
theorem vV.len {lo:Nat}{H:Heap}:∀ {l:List V}{rs:List (List Nat)},vV H lo l rs->l.length=rs.length
 | [],rs,h=>by rw [show rs=[] from h];rfl
 | v::l,rs,h=>by
  obtain ⟨b,ps,r,rs1,e1,h1,h2,h3,e2,h4⟩:=h
  rw [e2]
  exact congrArg (· + 1) (vV.len h4)
theorem vV.at {lo:Nat}{H:Heap}:∀ {l:List V}{rs:List (List Nat)}{i:Nat}{v:V},vV H lo l rs->l[i]? = some v->∃ b ps r,v=.ref b/\lo<=b/\H[b]? = some ps/\Pc ps r/\rs[i]? = some r
 | v::l,rs,0,w,h,hv=>by
  obtain ⟨b,ps,r,rs1,e1,h1,h2,h3,e2,h4⟩:=h
  cases hv
  exact ⟨b,ps,r,e1,h1,h2,h3,by rw [e2];rfl⟩
 | v::l,rs,i+1,w,h,hv=>by
  obtain ⟨b,ps,r,rs1,e1,h1,h2,h3,e2,h4⟩:=h
  rw [e2]
  obtain ⟨b',ps',r',g⟩:=vV.at (l:=l) h4 hv
  exact ⟨b',ps',r',g⟩
structure RS (m:Nat) (H:Heap) (l0:List V) (rs:List (List Nat)) (G:Heap):Prop where
 up:Up m H G
 new:∃ l,G[m]? = some (l0++l)/\vV G H.length l rs
theorem RS.nil {m:Nat}{H:Heap}{l0:List V}(h:H[m]? = some l0):RS m H l0 [] H:=⟨.refl,[],by rw [List.append_nil];exact h,rfl⟩
theorem RS.trans {m:Nat}{H G G':Heap}{l0:List V}{rs rs':List (List Nat)}(hm:m<H.length) (h:RS m H l0 rs G) (k:∀ lG,G[m]? = some lG->RS m G lG rs' G'):RS m H l0 (rs++rs') G':=by
 obtain ⟨u,l,e,hl⟩:=h
 obtain ⟨u',l',e',hl'⟩:=k _ e
 exact ⟨u.trans u',l++l',by rw [<- A7];exact e',vV.app (hl'.up .refl (A8 hm u.len) u.len) (hl.up u' hm (A4 _))⟩
theorem RS.one {m b:Nat}{H G:Heap}{l0 ps:List V}{r:List Nat}(hm:H[m]? = some l0) (g:D0 H G) (hb:G[b]? = some ps) (hlb:H.length<=b) (hp:Pc ps r):RS m H l0 [r] (G.set m (l0++[.ref b])):=by
 have hmH:=D2 hm
 refine ⟨(Up.grow g).trans .set,[.ref b],List.getElem?_set_self (A8 hmH g.len),b,ps,r,[],rfl,hlb,?_,hp,rfl,rfl⟩
 rw [List.getElem?_set_ne (Nat.ne_of_lt (A8 hmH hlb))];exact hb
theorem RS.get {m:Nat}{H G:Heap}{l0:List V}{rs:List (List Nat)}(h:RS m H l0 rs G):∃ l,G[m]? = some l/\l.length=l0.length+rs.length:=by
 obtain ⟨u,l,e,hl⟩:=h
 exact ⟨_,e,by rw [A6,hl.len]⟩
theorem lW {C:Calls}{ρ:D7}{H:Heap}{R:E6}{ss:List S}{o e:E}{a:Nat}{v:V}{Φ:Heap->Prop}(ho:Ev C ρ H o (.ref a)) (he:W5 C ρ H e v Φ) (k:∀ G,Φ G->∃ l,G[a]? = some l/\l.length<I3/\C6 C ss ρ R (G.set a (l++[v]))):C6 C (.expr (.append o e)::ss) ρ R H:=ho _ (he _ fun G g=>by
 obtain ⟨l,h1,h2,h3⟩:=k G g
 exact dM (Q:=fun zz H₁=>C6 C ss ρ R H₁) h1 h2 h3)
noncomputable def Co3 (H:Heap) (b:Nat) (r:List Nat) (G:Heap):Prop:=D0 H G/\∃ ps,G[b]? = some ps/\Pc ps r
theorem Bo5 {n a lo hi:Nat}{ρ:D7}{H:Heap}{e1 e2:E}{w:List Nat}{ts:List T}(h1:Ev (callN P (n+28)) ρ H e1 (.str w)) (hw:w≠[]) (h2:∀ l,Ev (callN P (n+28)) ρ (H++[l]) e2 (.ref a)) (hg:aJ 0 ts) (hr:I1 H (.lst (encs ts)) lo hi (.ref a)) (hh:hi<=H.length) (hl:(w++rowTs ts).length<=1000000) :
  W5 (callN P (n+28)) ρ H (.bin .add (.list [.tup [.str [109,97,114,107],e1]]) (.call "pieces_of" [e2])) (.ref (H.length+2)) (Co3 H (H.length+2) (w++rowTs ts)):=fun Q k=>by
 have hlim:I3=16777216:=rfl
 have hl2:(rowTs ts).length<=1000000:=suf hl
 refine iJ (U0 (H9 (v:=.tup [.str [109,97,114,107],.str w]) (T6 (C4 (by exact fun zz h=>h) (C4 h1 J5))) (G8 (K8 (H9 (h2 _) (G8 (cF hg (hr.grow .one hh) (A3 hh D0.one.len) hl2 fun ps hp=>?_)))))))
 have hp':Pc ([.tup [.str [109,97,114,107],.str w]]++ps) (w++rowTs ts):=(Pc.one hw).app hp
 have hpl:=hp'.len
 rw [A6] at hpl
 have el:=Cn8 (H:=H) (l:=[.tup [.str [109,97,114,107],.str w]]) (l':=ps)
 refine dD (l:=[.tup [.str [109,97,114,107],.str w]]) (r:=ps) (D0.one.get D3) D3 (A3 hpl (A3 hl Cx7)) ?_
 rw [el]
 refine k _ ⟨mJ.trans .one,_,?_,hp'⟩
 rw [<- el];exact D3
mutual
noncomputable def GI1:It->Prop
 | .it n ts sub=>n<=100/\aJ 0 ts/\GIs sub
noncomputable def GIs:List It->Prop
 | []=>True
 | i::is=>GI1 i/\GIs is
end
mutual
theorem Cu2:∀ {above most:Nat}{i:It},most<=9->IO1 above most i->GI1 i
 | above,most,.it n ts sub,hm,h=>⟨A3 h.1.2.1 (A3 hm (by decide)),h.2.1.good,xN (A4 _) h.2.2⟩
theorem xN:∀ {above most:Nat}{is:List It},most<=9->fM above most is->GIs is
 | _,_,[],_,_=>trivial
 | above,most,.it n ts sub::is,hm,h=>⟨Cu2 hm h.1,xN (A3 h.1.1.2.1 hm) h.2⟩
end
theorem GIs.get:∀ {is:List It}{k:Nat}{i:It},GIs is->is[k]? = some i->GI1 i
 | j::is,0,i,h,e=>by cases e;exact h.1
 | j::is,k+1,i,h,e=>GIs.get (is:=is) h.2 e
theorem Ay8 {is:List It}{k:Nat}{i:It}(h:is[k]? = some i):rwIs (is.take (k+1))=rwIs (is.take k)++rwI i/\rwIs is=rwIs (is.take k)++(rwI i++rwIs (is.drop (k+1))):=by
 have e:rwIs (is.take (k+1))=rwIs (is.take k)++rwI i:=by rw [List.take_add_one,h,Y4];exact congrArg _ (dN i)
 refine ⟨e,?_⟩
 rw [<- A7,<- e,<- Y4,List.take_append_drop]
theorem zN {c n:Nat}{r:List Nat}:(List.replicate n c++[32])++r=mk c n r:=A7 ..
theorem xR {C:Calls}{ρ:D7}{H:Heap}{e:E}{c n:Nat}(hn:n<=100) (he:Ev C ρ H e (.int (n:Nat))):Ev C ρ H (.bin .add (.bin .mul (.str [c]) e) (.str [32])) (.str (List.replicate n c++[32])):=by
 have hlim:I3=16777216:=rfl
 refine I5 (iB (I5 (fun zz h=>h) he (kS ⟨?_,?_,?_⟩)) (congrArg V.str List.flatten_replicate_singleton)) (fun zz h=>h) (Y1 ?_)
 ·show 1 * n<=I3;rw [Nat.one_mul];exact A3 hn (by show 100<=16777216;decide)
 ·exact Int.lt_of_lt_of_le (by decide) (Int.natCast_nonneg n)
 ·exact Int.lt_of_le_of_lt (Int.ofNat_le.mpr hn) (by decide)
 ·rw [List.length_replicate];show n+1<=I3;exact A3 (B3 hn) (by show 101<=16777216;decide)
noncomputable def PIt (m n:Nat):Prop:=∀ (is:List It) (a lo hi mk:Nat) (H:Heap) (l0:List V) (Q:C2),dIs is<=m->GIs is->I1 H (.lst (U9 is)) lo hi (.ref a)->hi<=mk->H[mk]? = some l0->l0.length+(rwIs is).length<=1000000->(∀ r∈rwIs is,r.length<=1000000)->(∀ G,RS mk H l0 (rwIs is) G->Q .none G)->callN P n "put_items" [.ref a,.ref mk] Q H
theorem eJ {m n:Nat}(ih:∀ m',m=m'+1->PIt m' (n+28)):PIt m (n+29):=by
 intro is a lo hi mk' H l0 Q hd hg hr hh hm hl hrs hQ
 have hlim:I3=16777216:=rfl
 obtain ⟨a',l,p,q,e,hb,ha,hrl⟩:=hr
 cases e
 have hmH:=D2 hm
 have hqm:q<=mk':=A3 hb.qh hh
 have ham:a≠mk':=Nat.ne_of_lt (A8 hb.ah hh)
 refine yC (H5 (cU (σ:=Option V) (fun z=>[some (.ref a),some (.ref mk'),z]) (fun k z G=>RS mk' H l0 (rwIs (is.take k)) G) (l:=l) (fun k z G hI=>hI.up.get ham ha) (fun k z G v hv hI K hK=>?_) (fun z G hI=>?_) none (fun zz h=>h) (RS.nil hm)))
 ·obtain ⟨i,hi1,hri⟩:=Cp8 hrl hv
  have hdk:=A3 (oX hi1) hd
  have hgi:=hg.get hi1
  obtain ⟨e1,e2⟩:=Ay8 hi1
  obtain ⟨c,ts,sub⟩:=i
  obtain ⟨m',rfl⟩:=pT hdk
  have hqH:q<=H.length:=B5 (A9 hqm hmH)
  obtain ⟨a1,b1,rfl,hra,hrb⟩:=xC (hri.to (hI.up.eqv hqm hqH))
  have hqG:q<=G.length:=A3 hqH hI.up.len
  have e3:rwI (.it c ts sub)=mk 45 c (rowTs ts)::rwIs sub:=rfl
  rw [e3] at e1 e2
  have hr0:(mk 45 c (rowTs ts)).length<=1000000:=hrs _ (by rw [e2];exact List.mem_append_right _ (.head _))
  have hlen:l0.length+((rwIs (is.take k)).length+((rwIs sub).length+1))<=1000000:=by
   rw [e2,A6,List.cons_append,List.length_cons,A6] at hl
   exact A3 (Nat.add_le_add_left (Nat.add_le_add_left (B3 (B4 _ _)) _) _) hl
  obtain ⟨lG,hlG,hlGl⟩:=hI.get
  refine lW (fun zz h=>h) (Bo5 (n:=n) (w:=List.replicate c 45++[32]) (ts:=ts) (a:=a1) (xR hgi.1 (by exact fun zz h=>h)) (by simp) (fun l=>by exact fun zz h=>h) hgi.2.1 hra hqG (by rw [zN];exact hr0)) fun G1 g1=>?_
  obtain ⟨gg,ps,hps,hp⟩:=g1
  rw [zN] at hp
  have hone:=RS.one hlG gg hps (B4 _ _) hp
  have hlg:lG.length+((rwIs sub).length+1)<=1000000:=by rw [hlGl,Nat.add_assoc];exact hlen
  refine ⟨lG,gg.get hlG,ltl (A3 (B4 _ _) hlg),P7 (fun zz h=>h) (ih m' rfl sub b1 p q mk' _ _ _ (Nat.le_of_succ_le_succ hdk) hgi.2.2 (hrb.to (hone.up.eqv hqm hqG)) hqm (List.getElem?_set_self (A8 (D2 hlG) gg.len)) ?_ (fun r hr=>hrs r ?_) fun G2 g2=>?_)⟩
  ·rw [A6];show lG.length+1+_<=_;rw [Nat.add_assoc,Nat.add_comm 1];exact hlg
  ·rw [e2];exact List.mem_append_right _ (.tail _ (List.mem_append_left _ hr))
  ·refine hK _ _ ?_
   rw [e1]
   refine hI.trans hmH fun lG' hlG'=>?_
   cases hlG.symm.trans hlG'
   refine RS.trans (rs:=[mk 45 c (rowTs ts)]) (D2 hlG) hone fun l2 hl2=>?_
   rw [List.getElem?_set_self (A8 (D2 hlG) gg.len)] at hl2
   cases hl2
   exact g2
 ·have:=hrl.len
  rw [Y7] at this
  rw [this,List.take_length] at hI
  exact hQ G hI
theorem jS:∀ (m n:Nat),PIt m (n+m+29)
 | 0,n=>eJ fun m' q=>nomatch q
 | m+1,n=>eJ (n:=n+m+1) fun m' q=>by cases q;exact jS m n
mutual
noncomputable def GB1:Nat->Bk->Prop
 | _,.gap n=>True
 | _,.head n ts=>n<=100/\aJ 0 ts
 | _,.bad=>False
 | _,.list is=>GIs is/\dIs is<=9
 | _,.para rs=>∀ ts∈rs,aJ 0 ts
 | d,.quote bs=>∃ d',d=d'+1/\GBs d' bs
noncomputable def GBs:Nat->List Bk->Prop
 | _,[]=>True
 | d,b::bs=>GB1 d b/\GBs d bs
end
mutual
theorem Cu3:∀ {d deep:Nat}{b:Bk},deep+d=9->BO1 deep b->GB1 d b
 | _,_,.gap n,_,_=>trivial
 | _,_,.head n ts,_,h=>⟨A3 h.1.2 (by decide),h.2.good⟩
 | _,_,.bad,_,h=>h.elim
 | _,_,.list is,_,h=>⟨xN (A4 _) h.2.1,h.2.2⟩
 | _,_,.para rs,_,h=>fun ts ht=>(h.2 ts ht).1.good
 | d,deep,.quote bs,hd,h=>by
  obtain ⟨d',rfl⟩:=xI hd h.1
  exact ⟨d',rfl,xO (deep:=deep+1) (pG hd) h.2.2⟩
theorem xO:∀ {d deep:Nat}{last:List Nat}{bs:List Bk},deep+d=9->yT deep last bs->GBs d bs
 | _,_,_,[],_,_=>trivial
 | d,deep,last,b::bs,hd,h=>⟨Cu3 hd h.1,xO hd h.2.2⟩
end
theorem GBs.get {d:Nat}:∀ {bs:List Bk}{k:Nat}{b:Bk},GBs d bs->bs[k]? = some b->GB1 d b
 | j::is,0,i,h,e=>by cases e;exact h.1
 | j::is,k+1,i,h,e=>GBs.get (bs:=is) h.2 e
theorem jF:∀ is js:List Bk,rwBs (is++js)=rwBs is++rwBs js
 | [],js=>rfl
 | i::is,js=>by show rwB i++rwBs (is++js)=(rwB i++rwBs is)++rwBs js;rw [jF is js,A7]
theorem Bx0 (i:Bk):rwBs [i]=rwB i:=List.append_nil _
theorem Ay9 {is:List Bk}{k:Nat}{i:Bk}(h:is[k]? = some i):rwBs (is.take (k+1))=rwBs (is.take k)++rwB i/\rwBs is=rwBs (is.take k)++(rwB i++rwBs (is.drop (k+1))):=by
 have e:rwBs (is.take (k+1))=rwBs (is.take k)++rwB i:=by rw [List.take_add_one,h,jF];exact congrArg _ (Bx0 i)
 refine ⟨e,?_⟩
 rw [<- A7,<- e,<- jF,List.take_append_drop]
noncomputable def RBs (d n:Nat):Prop:=∀ (bs:List Bk) (a lo hi:Nat) (H:Heap) (Q:C2),GBs d bs->I1 H (.lst (bkEs bs)) lo hi (.ref a)->hi<=H.length->(rwBs bs).length<=1000000->(∀ r∈rwBs bs,r.length<=1000000)->(∀ G l,D0 H G->G[H.length]? = some l->vV G (H.length+1) l (rwBs bs)->Q (.ref H.length) G)->callN P n "rows_of" [.ref a] Q H
structure RZ where
 e2:Option V
 e3:Option V
 e4:Option V
 e5:Option V
section
variable {n a m:Nat}{l0:List V}{H:Heap}{C:Calls}{R:E6}
theorem Bz1 {k:Nat}{e0:V}{x3 x4 x5:Option V}(hm:H[m]? = some l0) (hl:l0.length+k<=1000000) (h:∀ x3 G,RS m H l0 (List.replicate k []) G->R .next [some (.ref a),some (.ref m),some (.tup [e0,.int (k:Nat)]),x3,x4,x5] G) :
  C6 C [.forR 3 (.idx (.var 2) (.int 1)) [.expr (.append (.var 1) (.list []))]] [some (.ref a),some (.ref m),some (.tup [e0,.int (k:Nat)]),x3,x4,x5] R H:=by
 have hlim:I3=16777216:=rfl
 have he:Ev C [some (.ref a),some (.ref m),some (.tup [e0,.int (k:Nat)]),x3,x4,x5] H (.idx (.var 2) (.int 1)) (.int (k:Nat)):=fun zz h=>h
 refine H5 (dF (Q:=M6 C [] R) (σ:=Option V) (fun z=>[some (.ref a),some (.ref m),some (.tup [e0,.int (k:Nat)]),z,x4,x5]) (fun i z G=>RS m H l0 (List.replicate i []) G) (n:=k) (by exact G9 hl) (fun i z G hi hI K hK=>?_) (fun z G hI=>h z G hI) x3 he (RS.nil hm))
 obtain ⟨lG,hlG,hlGl⟩:=hI.get
 rw [List.length_replicate] at hlGl
 refine J2 (H1:=G++[[]]) (v:=.ref G.length) (fun zz h=>h) (fun zz h=>h) (D0.one.get hlG) (by exact G9 (I6 (Nat.le_of_eq hlGl) (I6 hl (I6 hi (Nat.le_of_eq hlim.symm))))) (hK _ _ ?_)
 rw [show List.replicate (i+1) ([]:List Nat)=List.replicate i []++[[]] from List.replicate_succ']
 refine hI.trans (D2 hm) fun lG' hlG'=>?_
 cases hlG.symm.trans hlG'
 exact RS.one hlG .one D3 (A4 _) .nil
end
theorem Bo3 {rs:List (List T)}{k:Nat}{ts:List T}(h:rs[k]? = some ts):(rs.take (k+1)).map rowTs=(rs.take k).map rowTs++[rowTs ts]:=by
 rw [List.take_add_one,h,List.map_append];rfl
theorem Bg4 {n a m b lo hi:Nat}{l0:List V}{H:Heap}{R:E6}{rs:List (List T)}{e0:V}{x3 x4 x5:Option V}(hm:H[m]? = some l0) (hr:I1 H (.lst (yW rs)) lo hi (.ref b)) (hh:hi<=m) (hg:∀ ts∈rs,aJ 0 ts) (hl:l0.length+rs.length<=1000000) (hrs:∀ r∈rs.map rowTs,r.length<=1000000) (h:∀ x4 G,RS m H l0 (rs.map rowTs) G->R .next [some (.ref a),some (.ref m),some (.tup [e0,.ref b]),x3,x4,x5] G) :
  C6 (callN P (n+28)) [.forIn 4 (.idx (.var 2) (.int 1)) [.expr (.append (.var 1) (.call "pieces_of" [.var 4]))]] [some (.ref a),some (.ref m),some (.tup [e0,.ref b]),x3,x4,x5] R H:=by
 have hlim:I3=16777216:=rfl
 obtain ⟨a',l,p,q,e,hb,ha,hrl⟩:=hr
 cases e
 have hmH:=D2 hm
 have hqm:q<=m:=A3 hb.qh hh
 have hqH:q<=H.length:=B5 (A9 hqm hmH)
 refine H5 (cU (σ:=Option V) (fun z=>[some (.ref a),some (.ref m),some (.tup [e0,.ref b]),x3,z,x5]) (fun k z G=>RS m H l0 ((rs.take k).map rowTs) G) (l:=l) (fun k z G hI=>hI.up.get (Nat.ne_of_lt (A8 hb.ah hh)) ha) (fun k z G v hv hI K hK=>?_) (fun z G hI=>?_) x4 (fun zz h=>h) (RS.nil hm))
 ·obtain ⟨ts,c,hts,rfl,hrc⟩:=Cp7 hrl hv
  have hmem:=B9 hts
  have hkl:=(List.getElem?_eq_some_iff.mp hts).1
  obtain ⟨lG,hlG,hlGl⟩:=hI.get
  rw [B6,List.length_take] at hlGl
  refine Ab9 (fun zz h=>h) (fun zz h=>h) (cF (n:=n) (hg ts hmem) (hrc.to (hI.up.eqv hqm hqH)) (A3 hqH hI.up.len) (hrs _ (List.mem_map.mpr ⟨ts,hmem,rfl⟩)) fun ps hp=>dM (D0.one.get hlG) (ltl (A3 (Nat.le_of_eq hlGl) (A3 (Nat.add_le_add_left (Nat.min_le_right _ _) _) hl))) (hK _ _ ?_))
  rw [Bo3 hts]
  refine hI.trans hmH fun lG' hlG'=>?_
  cases hlG.symm.trans hlG'
  exact RS.one hlG .one D3 (A4 _) hp
 ·have:=hrl.len
  rw [iT] at this
  rw [this,List.take_length] at hI
  exact h z G hI
theorem Aq8 {n d a m b lo hi:Nat}{l0:List V}{H:Heap}{R:E6}{bs:List Bk}{e0:V}{x3 x4 x5:Option V}(ih:RBs d n) (hm:H[m]? = some l0) (hr:I1 H (.lst (bkEs bs)) lo hi (.ref b)) (hh:hi<=m) (hg:GBs d bs) (hl:l0.length+(rwBs bs).length<=1000000) (hrs:∀ r∈rwBs bs,(62::32::r).length<=1000000) (h:∀ x5 G,RS m H l0 ((rwBs bs).map fun r=>62::32::r) G->R .next [some (.ref a),some (.ref m),some (.tup [e0,.ref b]),x3,x4,x5] G) :
  C6 (callN P n) [.forIn 5 (.call "rows_of" [.idx (.var 2) (.int 1)]) [.expr (.append (.var 1) (.bin .add (.list [.tup [.str [109,97,114,107],.str [62,32]]]) (.var 5)))]] [some (.ref a),some (.ref m),some (.tup [e0,.ref b]),x3,x4,x5] R H:=by
 have hlim:I3=16777216:=rfl
 have hmH:=D2 hm
 refine H5 (Bn6 (K8 (H9 (v:=.ref b) (by exact fun zz h=>h) (G8 (ih bs b lo hi H _ hg hr (B5 (A9 hh hmH)) (A3 (Nat.le_add_left _ _) hl) (fun r hr=>Nat.le_of_succ_le (Nat.le_of_succ_le (hrs r hr))) fun G1 l g1 hl1 hw=>?_)))))
 have hlen:=hw.len
 have hm1:=g1.get hm
 refine Al4 (σ:=Option V) (fun z=>[some (.ref a),some (.ref m),some (.tup [e0,.ref b]),x3,x4,z]) (fun k z G=>RS m G1 l0 (((rwBs bs).take k).map fun r=>62::32::r) G) (l:=l) (fun k z G hI=>hI.up.get (Nat.ne_of_gt hmH) hl1) (fun k z G v hv hI K hK=>?_) (fun z G hI=>?_) x5 (RS.nil hm1)
 ·obtain ⟨c,ps,r,rfl,hc,hps,hp,hrk⟩:=hw.at hv
  have hkl:=(List.getElem?_eq_some_iff.mp hrk).1
  have hr2:=hrs r (B9 hrk)
  obtain ⟨lG,hlG,hlGl⟩:=hI.get
  rw [B6,List.length_take] at hlGl
  have hps1:=hI.up.get (Nat.ne_of_gt (A8 (Nat.lt_succ_of_lt hmH) hc)) hps
  have hp':Pc ([.tup [.str [109,97,114,107],.str [62,32]]]++ps) ([62,32]++r):=(Pc.one (List.cons_ne_nil _ _)).app hp
  have hpl:=hp'.len
  rw [A6] at hpl
  have hr2':([62,32]++r).length<=1000000:=hr2
  have el:=aL (H:=G) (x:=[.tup [.str [109,97,114,107],.str [62,32]]])
  have ev:W5 (callN P n) [some (.ref a),some (.ref m),some (.tup [e0,.ref b]),x3,x4,some (.ref c)] G (.bin .add (.list [.tup [.str [109,97,114,107],.str [62,32]]]) (.var 5)) (.ref (G.length+1)) (Co3 G (G.length+1) ([62,32]++r)):=fun Q k=>by
   refine iJ (U0 (H9 (v:=.tup [.str [109,97,114,107],.str [62,32]]) (by exact fun zz h=>h) (G8 (Z6 rfl (dD (l:=[.tup [.str [109,97,114,107],.str [62,32]]]) (r:=ps) D3 (D0.one.get hps1) (by exact G9 (I6 hpl (I6 hr2' (Nat.le_of_eq hlim.symm)))) ?_)))))
   rw [el]
   refine k _ ⟨mJ,_,?_,hp'⟩
   rw [<- el];exact D3
  refine lW (fun zz h=>h) ev fun G2 g2=>?_
  obtain ⟨gg,ps2,hps2,hp2⟩:=g2
  refine ⟨lG,gg.get hlG,ltl (A3 (Nat.le_of_eq hlGl) (A3 (Nat.add_le_add_left (Nat.min_le_right _ _) _) hl)),hK _ _ ?_⟩
  rw [List.take_add_one,hrk,List.map_append]
  refine hI.trans (D2 hm1) fun lG' hlG'=>?_
  cases hlG.symm.trans hlG'
  exact RS.one hlG gg hps2 (B8 _) hp2
 ·rw [hlen,List.take_length] at hI
  refine h z G ⟨(Up.grow g1).trans hI.up,?_⟩
  obtain ⟨l',h1,h2⟩:=hI.new
  exact ⟨l',h1,h2.up .refl (A8 hmH g1.len) g1.len⟩
theorem uN {n d:Nat}(ih:∀ d',d=d'+1->RBs d' (n+38)):RBs d (n+39):=by
 intro bs a lo hi H Q hg hr hh hl hrs hQ
 have hlim:I3=16777216:=rfl
 obtain ⟨a',l,p,q,e,hb,ha,hrl⟩:=hr
 cases e
 have hq:q<=H.length:=A3 hb.qh hh
 have ea:H.length<(H++[[]]).length:=by rw [aL];exact B1 _
 have haH:a<H.length:=A8 hb.ah hh
 refine Ar4 (I0 (H1:=H++[[]]) (v:=.ref H.length) (fun zz h=>h) (H5 (cU (σ:=RZ) (fun z=>[some (.ref a),some (.ref H.length),z.e2,z.e3,z.e4,z.e5]) (fun k z G=>RS H.length (H++[[]]) [] (rwBs (bs.take k)) G) (l:=l) (fun k z G hI=>hI.up.get (Nat.ne_of_lt haH) (D0.one.get ha)) (fun k z G v hv hI K hK=>?_) (fun z G hI=>?_) ⟨none,none,none,none⟩ (fun zz h=>h) (RS.nil D3))))
 ·obtain ⟨b,hb1,hrb⟩:=Cp9 hrl hv
  have hgb:=hg.get hb1
  obtain ⟨e1,e2⟩:=Ay9 hb1
  rw [e1] at hK
  have hrb:=hrb.to ((D0.one.old.sub (B0 _) hq).trans (hI.up.eqv hq (A3 hq (B5 ea))))
  obtain ⟨lG,hlG,hlGl⟩:=hI.get
  have fin:∀ {G':Heap}{R:E6}{z':RZ},(∀ ρ G,K ρ G->R .next ρ G)->RS H.length G lG (rwB b) G'->R .next [some (.ref a),some (.ref H.length),z'.e2,z'.e3,z'.e4,z'.e5] G':=fun {G' R z'} hR hs=>hR _ _ (hK z' _ (hI.trans ea fun lG' hlG'=>by cases hlG.symm.trans hlG';exact hs))
  have hlen:lG.length+(rwB b).length<=1000000:=by
   rw [e2,A6,A6] at hl
   rw [hlGl];show 0+_+_<=_;rw [Nat.zero_add]
   exact A3 (Nat.add_le_add_left (B4 _ _) _) hl
  have hrb':∀ r∈rwB b,r.length<=1000000:=fun r hr=>hrs r (by rw [e2];exact List.mem_append_right _ (List.mem_append_left _ hr))
  have hqG:q<=G.length:=A3 (A3 hq (B5 ea)) hI.up.len
  cases b with
  | gap k =>
   rw [Am1 hrb]
   rw [show rwB (.gap k)=List.replicate k [] from rfl,List.length_replicate] at hlen
   exact C5 (fun zz h=>h) (Bz1 hlG hlen fun x3 G' hs=>fin (z':=⟨_,x3,_,_⟩) (fun zz zz h=>h) hs)
  | bad=>exact (hgb:False).elim
  | head k ts =>
   obtain ⟨b,rfl,hrc⟩:=xD hrb
   rw [show rwB (.head k ts)=[mk 35 k (rowTs ts)] from rfl] at hlen hrb'
   refine D6 (fun zz h=>h) (C5 (fun zz h=>h) (lW (fun zz h=>h) (Bo5 (n:=n+10) (w:=List.replicate k 35++[32]) (ts:=ts) (a:=b) (xR hgb.1 (by exact fun zz h=>h)) (by simp) (fun l=>by exact fun zz h=>h) hgb.2 hrc hqG (by rw [zN];exact hrb' _ (.head _))) fun G1 g1=>?_))
   obtain ⟨gg,ps,hps,hp⟩:=g1
   rw [zN] at hp
   exact ⟨lG,gg.get hlG,ltl (A3 (B4 _ _) hlen),fin (z':=⟨_,_,_,_⟩) (fun zz zz h=>h) (RS.one hlG gg hps (B4 _ _) hp)⟩
  | list is =>
   obtain ⟨b,rfl,hrc⟩:=bQ hrb
   exact D6 (fun zz h=>h) (D6 (fun zz h=>h) (C5 (fun zz h=>h) (P7 (fun zz h=>h) (jS 9 n is b p q H.length G lG _ hgb.2 hgb.1 hrc hq hlG hlen hrb' fun G' hs=>fin (z':=⟨_,_,_,_⟩) (fun zz zz h=>h) hs))))
  | para rs =>
   obtain ⟨b,rfl,hrc⟩:=bQ hrb
   rw [show rwB (.para rs)=rs.map rowTs from rfl] at hlen hrb'
   rw [B6] at hlen
   exact D6 (fun zz h=>h) (D6 (fun zz h=>h) (D6 (fun zz h=>h) (C5 (fun zz h=>h) (Bg4 (n:=n+10) hlG hrc hq hgb hlen hrb' fun x4 G' hs=>fin (z':=⟨_,_,x4,_⟩) (fun zz zz h=>h) hs))))
  | quote bs' =>
   obtain ⟨b,rfl,hrc⟩:=bQ hrb
   obtain ⟨d',rfl,hgb⟩:=hgb
   rw [show rwB (.quote bs')=(rwBs bs').map fun r=>62::32::r from rfl] at hlen hrb'
   rw [B6] at hlen
   exact D6 (fun zz h=>h) (D6 (fun zz h=>h) (D6 (fun zz h=>h) (D6 (fun zz h=>h) (Aq8 (ih d' rfl) hlG hrc hq hgb hlen (fun r hr=>hrb' _ (List.mem_map.mpr ⟨r,hr,rfl⟩)) fun x5 G' hs=>fin (z':=⟨_,_,_,x5⟩) (fun zz zz h=>h) hs))))
 ·have:=hrl.len
  rw [R8] at this
  rw [this,List.take_length] at hI
  obtain ⟨l',h1,h2⟩:=hI.new
  refine hQ G l' ⟨A3 (B5 ea) hI.up.len,fun x h0 hx=>?_⟩ h1 (by rw [aL] at h2;exact h2)
  exact (hI.up.eq x (Nat.ne_of_lt hx) (Nat.lt_trans hx ea)).trans (D0.one.old x h0 hx)
theorem rM:∀ (d n:Nat),RBs d (n+d+39)
 | 0,n=>uN fun d' q=>nomatch q
 | d+1,n=>uN (n:=n+d+1) fun d' q=>by cases q;exact rM d n
theorem An6 {H:Heap}{a:Nat}{l:List V}(h:H[a]? = some l) (i:Nat):(It.lst a).at H i=l[i]?:=by
 show (match H[a]? with | some l=>l[i]? | none=>none)=_
 rw [h]
theorem Ae6 {C:Calls}{x y:Nat}{b:List S}{Q:E6}{σ:Type}(env:σ->D7) (I:Nat->σ->Heap->Prop) {a:Nat}{l:List V}(hl:∀ i s H,I i s H->H[a]? = some l)
  (step:∀ i s H v,l[i]? = some v->I i s H->∀ K:D7->Heap->Prop,(∀ s' H',I (i+1) s' H'->K (env s') H')->C6 C b (((env s).set x (some (.int (i:Int)))).set y (some v)) (fO Q K) H)
  (fin:∀ s H,I l.length s H->Q .next (env s) H):∀ (m i:Nat) (s:σ) (H:Heap),l.length<m+i->i<=l.length->I i s H->iI (C6 C b) x y (.lst a) m i (env s) Q H
 | 0,i,s,H,h,hi,_=>absurd h (Nat.not_lt_of_le (by rw [Nat.zero_add];exact hi))
 | m+1,i,s,H,h,hi,hI=>by
  show (match (It.lst a).at H i with | none=>_ | some v=>_)
  rw [An6 (hl i s H hI)]
  by_cases hlt:i<l.length
  ·rw [List.getElem?_eq_getElem hlt]
   exact step i s H _ (List.getElem?_eq_getElem hlt) hI (fun ρ' H₂=>iI (C6 C b) x y (.lst a) m (i+1) ρ' Q H₂) fun s' H' hI'=>Ae6 env I hl step fin m (i+1) s' H' (by rw [Nat.add_right_comm] at h;exact h) hlt hI'
  ·have e:i=l.length:=Nat.le_antisymm hi (Nat.le_of_not_lt hlt)
   subst e
   rw [List.getElem?_eq_none (A4 _)]
   exact fin s H hI
theorem Ci8 {C:Calls}{x y:Nat}{e:E}{b:List S}{Q:E6}{ρ:D7}{H:Heap}(h:E2 C e ρ (fun v H₁=>match v with | .ref a=>∃ n,iI (C6 C b) x y (.lst a) n 0 ρ Q H₁ | _=>False) H):iC C (.forEnum x y e b) ρ Q H:=h
theorem Ac3 {C:Calls}{ρ:D7}{H:Heap}{R:E6}{ss:List S}{o e:E}{a b:Nat}{l r:List V}(ho:Ev C ρ H o (.ref a)) (he:Ev C ρ H e (.ref b)) (ha:H[a]? = some l) (hb:H[b]? = some r) (hn:a≠b) (hl:l.length+r.length<=I3) (k:C6 C ss ρ R (H.set a (l++r))):C6 C (.expr (.extend o e)::ss) ρ R H:=ho _ (he _ (by
 show hea ((H[a]?).bind fun l=>(H[b]?).bind fun r=>if a≠b/\l.length+r.length<=I3 then some (H.set a (l++r)) else none) _
 rw [ha,hb]
 show hea (if a≠b/\l.length+r.length<=I3 then some (H.set a (l++r)) else none) _
 rw [if_pos ⟨hn,hl⟩];exact k))
theorem lU {s x:List Nat}:∀ {l:List (List Nat)},l≠[]->D8 s (l++[x])=D8 s l++s++x
 | [w],_=>rfl
 | w::y::l,_=>by
  show w++s++D8 s ((y::l)++[x])=w++s++D8 s (y::l)++s++x
  rw [lU (List.cons_ne_nil y l)]
  simp only [A7]
theorem lV {s:List Nat}{r:List (List Nat)}:∀ {l:List (List Nat)},(D8 s l).length<=(D8 s (l++r)).length
 | []=>B0 _
 | [w]=>by
  cases r with
  | nil=>exact A4 _
  | cons x r =>
   show w.length<=(w++s++D8 s (x::r)).length
   rw [A6,A6];exact fG
 | w::y::l=>by
  have:=lV (s:=s) (r:=r) (l:=y::l)
  show (w++s++D8 s (y::l)).length<=(w++s++D8 s ((y::l)++r)).length
  rw [A6,A6 (bs:=D8 s ((y::l)++r))];exact G9 this
section
variable {n a lo hi:Nat}{bs:List Bk}{H:Heap}
theorem qL {m:Nat}(hb:sV bs) (hm:m<100) (hf:J3 W m (.lst (bkEs bs))) (hr:I1 H (.lst (bkEs bs)) lo hi (.ref a)) (hh:hi<=H.length) (Q:C2) (h:∀ G,D0 H G->Q (.bool (cO (bs≠[]/\yT 0 [] bs))) G):callN P (n+61) "normal" [.ref a] Q H :=
 Bh1 (tO (fun zz h=>h) (gK 9 0 n rfl bs a lo hi m H _ hb hm hf hr hh h))
structure Nrm (bs:List Bk) (m:Nat):Prop where
 ne:bs≠[]
 bo:yT 0 [] bs
 lb:sV bs
 lt:m<100
 fit:J3 W m (.lst (bkEs bs))
theorem Ci5 {m:Nat}{Q:C2}(hb:Nrm bs m) (hr:I1 H (.lst (bkEs bs)) lo hi (.ref a)) (hh:hi<=H.length) (h:∀ G,D0 H G->Q .none G):callN P (n+62) "need_normal" [.ref a] Q H :=
 sQ (S1 (Φ:=D0 H) (mF (t:=true) (V2 (fun zz h=>h) fun Q k=>qL hb.lb hb.lt hb.fit hr hh Q fun G g=>by rw [L8 ⟨hb.ne,hb.bo⟩];exact k G g)) h)
structure EZ where
 e2:Option V
 e3:Option V
theorem Bg3 {m:Nat}{Q:C2}(hb:Nrm bs m) (hr:I1 H (.lst (bkEs bs)) lo hi (.ref a)) (hh:hi<=H.length) (hl:(rwBs bs).length<=1000000) (hrs:∀ r∈rwBs bs,r.length<=1000000) (ht:(D8 [10] (rwBs bs)).length<=16700000) (h:∀ G b ps,D0 H G->G[b]? = some ps->Pc ps (D8 [10] (rwBs bs))->Q (.ref b) G):callN P (n+63) "pieces" [.ref a] Q H:=by
 have hlim:I3=16777216:=rfl
 refine Bh0 (P7 (fun zz h=>h) (Ci5 hb hr hh fun G0 g0=>I0 (H1:=G0++[[]]) (v:=.ref G0.length) (fun zz h=>h) (H5 (Ci8 (K8 (H9 (v:=.ref a) (by exact fun zz h=>h) (G8 (rM 9 (n+14) bs a lo hi (G0++[[]]) _ (xO rfl hb.bo) (hr.grow (g0.trans .one) hh) (A3 hh (g0.trans .one).len) hl hrs fun G1 l g1 hl1 hw=>⟨l.length+1,?_⟩))))))))
 have hm1:G1[G0.length]? = some []:=g1.get D3
 have ea:G0.length<(G0++[[]]).length:=by rw [aL];exact B1 _
 refine Ae6 (σ:=EZ) (fun z=>[some (.ref a),some (.ref G0.length),z.e2,z.e3]) (fun k z G=>Up G0.length G1 G/\∃ ps,G[G0.length]? = some ps/\Pc ps (D8 [10] ((rwBs bs).take k))) (l:=l) (fun k z G hI=>hI.1.get (Nat.ne_of_gt ea) hl1) (fun k z G v hv hI K hK=>?_) (fun z G hI=>?_) (l.length+1) 0 ⟨none,none⟩ G1 (B1 _) (B0 _) ⟨.refl,[],hm1,.nil⟩
 ·obtain ⟨hu,ps,hps,hp⟩:=hI
  obtain ⟨c,qs,r,rfl,hc,hqs,hq,hrk⟩:=hw.at hv
  have hqs':=hu.get (Nat.ne_of_gt (A8 (Nat.lt_succ_of_lt ea) hc)) hqs
  have hcm:G0.length≠c:=Nat.ne_of_lt (A8 (Nat.lt_succ_of_lt ea) hc)
  have hrl:=hq.len
  have hpl:=hp.len
  have hr1:=hrs r (B9 hrk)
  have hp1:(D8 [10] ((rwBs bs).take k)).length<=16700000:=by
   refine A3 ?_ ht
   have:=lV (s:=[10]) (l:=(rwBs bs).take k) (r:=(rwBs bs).drop k)
   rw [List.take_append_drop] at this
   exact this
  have et:(rwBs bs).take (k+1)=(rwBs bs).take k++[r]:=by rw [List.take_add_one,hrk];rfl
  have hsum0:ps.length+qs.length<=16700000:=by
   have h2:=lV (s:=[10]) (l:=(rwBs bs).take (k+1)) (r:=(rwBs bs).drop (k+1))
   rw [List.take_append_drop,et] at h2
   refine A3 (Nat.add_le_add hpl hrl) (A3 ?_ (A3 h2 ht))
   cases hk0:(rwBs bs).take k with
   | nil=>exact Nat.le_of_eq (Nat.zero_add _)
   | cons w l =>
    rw [<- hk0,lU (by rw [hk0];exact List.cons_ne_nil _ _),A6,A6]
    exact Nat.add_le_add_right (B4 _ _) _
  have hsum:ps.length+qs.length<=I3:=A3 hsum0 (by show 16700000<=16777216;decide)
  have hsum1:ps.length+qs.length+1<=I3:=A3 (B3 hsum0) (by show 16700001<=16777216;decide)
  have hGm:=D2 hps
  cases k with
  | zero =>
   refine C1 (fun zz h=>h) (Ac3 (by exact fun zz h=>h) (by exact fun zz h=>h) hps hqs' hcm hsum (hK ⟨_,_⟩ _ ⟨hu.trans .set,_,List.getElem?_set_self hGm,?_⟩))
   rw [et]
   exact hp.app hq
  | succ k =>
   refine C5 (G6 (D9 (fun zz h=>h) (fun zz h=>h) oZ) (decide_eq_true (Int.ofNat_lt.mpr (Nat.succ_pos _)))) (J2 (v:=.tup [.str [101,110,100],.str [10]]) (H1:=G) (fun zz h=>h) (fun zz h=>h) hps (ltL (A3 hpl hp1)) (Ac3 (by exact fun zz h=>h) (by exact fun zz h=>h) (List.getElem?_set_self hGm) (Up.set.get (Ne.symm hcm) hqs') hcm (by rw [A6];show ps.length+1+_<=I3;rw [Nat.add_right_comm];exact hsum1) (hK ⟨_,_⟩ _ ⟨(hu.trans .set).trans .set,_,List.getElem?_set_self (by rw [List.length_set];exact hGm),?_⟩)))
   have hne':(rwBs bs).take (k+1)≠[]:=fun q=>by
    have:=congrArg List.length q
    rw [List.length_take] at this
    have h2:=(List.getElem?_eq_some_iff.mp hrk).1
    exact absurd this (Nat.ne_of_gt (Nat.lt_min.mpr ⟨Nat.succ_pos k,A9 (B0 _) h2⟩))
   rw [et,lU hne']
   exact (hp.app (.one (List.cons_ne_nil _ _))).app hq
 ·obtain ⟨hu,ps,hps,hp⟩:=hI
  rw [hw.len,List.take_length] at hp
  refine h G G0.length ps (g0.trans ⟨A3 (A3 (B5 ea) g1.len) hu.len,fun x h0 hx=>?_⟩) hps hp
  exact (hu.eq x (Nat.ne_of_lt hx) (A8 (Nat.lt_trans hx ea) g1.len)).trans (((D0.one (x:=[])).trans g1).old x h0 hx)
theorem Bw8 {m:Nat}{Q:C2}(hb:Nrm bs m) (hr:I1 H (.lst (bkEs bs)) lo hi (.ref a)) (hh:hi<=H.length) (hl:(rwBs bs).length<=1000000) (hrs:∀ r∈rwBs bs,r.length<=1000000) (ht:(D8 [10] (rwBs bs)).length<=16700000) (h:∀ G,D0 H G->Q (.str (D8 [10] (rwBs bs))) G):callN P (n+64) "shown" [.ref a] Q H :=
 By5 (N9 (Al9 (Au3 ⟨_,rfl,Bo0 (U3 _ _) (fun v=>match v with | .tup [_,w]=>w | _=>.none) (K8 (H9 (v:=.ref a) (fun zz h=>h) (G8 (Bg3 hb hr hh hl hrs ht fun G b ps g hps hp=>Ad7 (by show 1<2;decide) hp ht hps fun l=>h _ (g.trans .one)))))⟩) (U3 _ _)))
end
structure FZ where
 w:List Nat
 e:Option V
theorem uT {g:T->List Nat}{ts:List T}{i:Nat}{t:T}(h:ts[i]? = some t):(ts.take (i+1)).flatMap g=(ts.take i).flatMap g++g t:=by
 rw [List.take_add_one,h,List.flatMap_append];exact congrArg _ (List.append_nil _)
theorem Cj3 {C:Calls}{B:List S}(g:T->List Nat) {ts:List T}{a lo hi:Nat}{Q:C2}{H:Heap}(hr:I1 H (.lst (encs ts)) lo hi (.ref a)) (hl:(ts.flatMap g).length<=1000000)
  (step:∀ (i:Nat) (t:T) (v:V) (w:List Nat) (p q:Nat) (R:E6),ts[i]? = some t->I1 H (enc t) p q v->w.length+(g t).length<=1000000->R .next [some (.ref a),some (.str (w++g t)),some v] H->C6 C B [some (.ref a),some (.str w),some v] R H)
  (h:Q (.str (ts.flatMap g)) H):C6 C [.assign 1 (.str []),.forIn 2 (.var 0) B,.ret (.var 1)] [some (.ref a),none,none] (E1 Q) H:=by
 obtain ⟨a',l,p,q,e,hb,ha,hrl⟩:=hr
 cases e
 refine C9 (fun zz h=>h) (H5 (cU (σ:=FZ) (fun z=>[some (.ref a),some (.str z.w),z.e]) (fun i z G=>G=H/\z.w=(ts.take i).flatMap g) (l:=l) (fun i z G hI=>hI.1▸ha) (fun i z G v hv hI K hK=>?_) (fun z G hI=>?_) ⟨[],none⟩ (fun zz h=>h) ⟨rfl,rfl⟩))
 ·obtain ⟨rfl,hw⟩:=hI
  obtain ⟨t,p',q',ht,_,_,hrt⟩:=Cp6 hrl hv
  have e2:ts.flatMap g=(ts.take (i+1)).flatMap g++(ts.drop (i+1)).flatMap g:=by rw [<- List.flatMap_append,List.take_append_drop]
  rw [e2,uT ht,A6,A6] at hl
  refine step i t v z.w p' q' _ ht hrt (by rw [hw];exact G9 hl) (hK ⟨_,_⟩ _ ⟨rfl,?_⟩)
  rw [uT ht,hw]
 ·obtain ⟨rfl,hw⟩:=hI
  refine E0 (fun zz h=>h) ?_
  show Q (.str z.w) _
  rw [hw,hrl.len,Q6,List.take_length];exact h
theorem Ac6:∀ ts:List T,rowTs ts=ts.flatMap rowT
 | []=>rfl
 | t::ts=>by show rowT t++rowTs ts=_;rw [Ac6 ts];rfl
theorem Bj5 {c:Nat}{b:Bool}{H:Heap}:aO .mul (.str [c]) (.int (if b then 1 else 0)) H=some (.str (if b then [c] else []),H):=by
 cases b with
 | true=>exact kS (n:=1) ⟨by show 1<=I3;decide,by decide,by decide⟩
 | false=>exact kS (n:=0) ⟨B0 _,by decide,by decide⟩
theorem Q0 {C:Calls}{ρ:D7}{H:Heap}{l r:E}{a b:List Nat}(hl:Ev C ρ H l (.str a)) (hr:Ev C ρ H r (.str b)) (h:(a++b).length<=1000000):Ev C ρ H (.bin .add l r) (.str (a++b)):=I5 hl hr (Y1 (by rw [<- A6];exact A3 h Cx7))
theorem xQ {m:Nat}{xs:List X}{y:X}(h:J3 W m (.tup xs)) (hy:y∈xs):∃ m',m=m'+1/\J3 W m' y:=by
 cases m with
 | zero=>exact h.elim
 | succ m=>exact ⟨m,rfl,h.2 y hy⟩
theorem Cu6 {m:Nat}{ts:List T}{i:Nat}{t:T}(h:J3 W m (.lst (encs ts))) (ht:ts[i]? = some t):∃ m',m=m'+1/\J3 W m' (enc t):=by
 cases m with
 | zero=>exact h.elim
 | succ m=>exact ⟨m,rfl,h.2 _ (by rw [dU];exact List.mem_map.mpr ⟨t,B9 ht,rfl⟩)⟩
noncomputable def LRs (m n:Nat):Prop:=∀ (ts:List T) (a lo hi:Nat) (H:Heap) (Q:C2),J3 W m (.lst (encs ts))->I1 H (.lst (encs ts)) lo hi (.ref a)->(rowTs ts).length<=1000000->Q (.str (rowTs ts)) H->callN P n "_law_row" [.ref a] Q H
theorem lS {n m:Nat}(ih:∀ m',m=m'+2->LRs m' n):LRs m (n+1):=by
 intro ts a lo hi H Q hf hr hl h
 rw [Ac6] at h hl
 refine Ar6 (Cj3 rowT hr hl (fun i t v w p q R ht hrt hlen hR=>?_) h)
 obtain ⟨m1,rfl,hft⟩:=Cu6 hf ht
 have hT:(w++rowT t).length<=1000000:=by rw [A6];exact hlen
 clear hlen
 have ih1:∀ {us:List T}{a2:Nat}{u:List Nat}{ρ:D7}{e:E},(∃ m',m1=m'+1/\J3 W m' (.lst (encs us)))->I1 H (.lst (encs us)) p q (.ref a2)->(u++rowTs us).length<=1000000->Ev (callN P n) ρ H e (.ref a2)->Ev (callN P n) ρ H (.call "_law_row" [e]) (.str (rowTs us)):=fun h1 h3 h4 h5=>C8 (C4 h5 J5) fun Q q=>by
  obtain ⟨m',rfl,h2⟩:=h1
  exact ih m' rfl _ _ _ _ H Q h2 h3 (suf h4) q
 cases t with
 | txt s =>
  rw [show v=.str s from hrt] at hR ⊢
  exact C5 (fun zz h=>h) (C9 (Q0 (fun zz h=>h) (fun zz h=>h) hT) hR)
 | kept s =>
  rw [eT hrt] at hR ⊢
  replace hT:(w++([92]++s)).length<=1000000:=hT
  replace hR:R .next [some (.ref a),some (.str (w++([92]++s))),some (Z7 s)] H:=hR
  rw [<- A7] at hR hT
  exact D6 (fun zz h=>h) (C5 (fun zz h=>h) (C9 (Q0 (Q0 (fun zz h=>h) P0 (pre hT)) (fun zz h=>h) hT) hR))
 | code s b =>
  rw [eU hrt] at hR ⊢
  replace hT:(w++([96]++s++(if b then [96] else []))).length<=1000000:=hT
  replace hR:R .next [some (.ref a),some (.str (w++([96]++s++(if b then [96] else [])))),some (cQ s b)] H:=hR
  rw [<- A7,<- A7] at hR hT
  exact D6 (fun zz h=>h) (D6 (fun zz h=>h) (C5 (fun zz h=>h) (C9 (Q0 (Q0 (Q0 (fun zz h=>h) P0 (pre (pre hT))) (fun zz h=>h) (pre hT)) (I5 P0 (O3 (fun zz h=>h)) Bj5) hT) hR)))
 | span c us b =>
  obtain ⟨a2,rfl,hra⟩:=eQ hrt
  replace hT:(w++([c]++([40]++rowTs us)++(if b then [41] else []))).length<=1000000:=hT
  replace hR:R .next [some (.ref a),some (.str (w++([c]++([40]++rowTs us)++(if b then [41] else [])))),some (V1 c a2 b)] H:=hR
  rw [<- A7,<- A7,<- A7] at hR hT
  exact D6 (fun zz h=>h) (D6 (fun zz h=>h) (D6 (fun zz h=>h) (C5 (fun zz h=>h) (C9 (Q0 (Q0 (Q0 (fun zz h=>h) (fun zz h=>h) (pre (pre (pre hT)))) P0 (pre (pre hT))) (ih1 (xQ hft (.tail _ (.tail _ (.head _)))) hra (pre hT) (fun zz h=>h)) (pre hT)) (C9 (Q0 (fun zz h=>h) (I5 P0 (O3 (fun zz h=>h)) Bj5) hT) hR)))))
 | link us g b =>
  obtain ⟨a2,rfl,hra⟩:=eR hrt
  cases g with
  | none =>
   replace hT:(w++([91]++rowTs us++(if b then [93] else []))).length<=1000000:=hT
   replace hR:R .next [some (.ref a),some (.str (w++([91]++rowTs us++(if b then [93] else [])))),some (J6 a2 none b)] H:=hR
   rw [<- A7,<- A7] at hR hT
   exact D6 (fun zz h=>h) (D6 (fun zz h=>h) (D6 (fun zz h=>h) (D6 (fun zz h=>h) (C5 (fun zz h=>h) (C9 (Q0 (Q0 (Q0 (fun zz h=>h) P0 (pre (pre hT))) (ih1 (xQ hft (.tail _ (.head _))) hra (pre hT) (fun zz h=>h)) (pre hT)) (I5 P0 (O3 (fun zz h=>h)) Bj5) hT) hR)))))
  | some g =>
   replace hT:(w++([91]++rowTs us++[93,40]++g++(if b then [41] else []))).length<=1000000:=hT
   replace hR:R .next [some (.ref a),some (.str (w++([91]++rowTs us++[93,40]++g++(if b then [41] else [])))),some (J6 a2 (some g) b)] H:=hR
   rw [<- A7,<- A7,<- A7,<- A7] at hR hT
   exact D6 (fun zz h=>h) (D6 (fun zz h=>h) (D6 (fun zz h=>h) (D6 (fun zz h=>h) (D6 (fun zz h=>h) (C9 (Q0 (Q0 (Q0 (fun zz h=>h) P0 (pre (pre (pre (pre hT))))) (ih1 (xQ hft (.tail _ (.head _))) hra (pre (pre (pre hT))) (fun zz h=>h)) (pre (pre (pre hT)))) P0 (pre (pre hT))) (C9 (Q0 (Q0 (fun zz h=>h) (fun zz h=>h) (pre hT)) (I5 P0 (O3 (fun zz h=>h)) Bj5) hT) hR))))))
theorem iV:∀ (m n:Nat),LRs m (n+m+1)
 | 0,n=>lS fun m' q=>nomatch q
 | 1,n=>lS fun m' q=>nomatch q
 | m+2,n=>lS (n:=n+m+2) fun m' q=>by
   cases q
   have h:=iV m (n+1)
   rw [Nat.add_right_comm n 1 m] at h
   exact h
theorem xF {α:Type}(l:List α):l=[]∨∃ r x,l=r++[x]:=by
 rcases List.eq_nil_or_concat l with h | ⟨r,x,h⟩
 ·exact Or.inl h
 ·exact Or.inr ⟨r,x,by rw [h,List.concat_eq_append]⟩
mutual
noncomputable def flI:It->List (Nat×List T)
 | .it n ts sub=>(n,ts)::sZ sub
noncomputable def sZ:List It->List (Nat×List T)
 | []=>[]
 | i::is=>flI i++sZ is
end
mutual
noncomputable def spI:It->List Nat
 | .it n _ sub=>n::spn sub
noncomputable def spn:List It->List Nat
 | []=>[]
 | i::is=>bif is.isEmpty then spI i else spn is
end
theorem qJ {i:It}:∀ is:List It,spn (is++[i])=spI i
 | []=>rfl
 | [j]=>rfl
 | j::k::is=>qJ (i:=i) (k::is)
abbrev ICx:=List (List It×Nat×List T)
noncomputable def W9:ICx->List It->List It
 | [],c=>c
 | (p,n,ts)::ctx,c=>p++[.it n ts (W9 ctx c)]
noncomputable def vU (ctx:ICx):List Nat:=ctx.map fun x=>x.2.1
theorem hO {p c:List It}{n:Nat}{ts:List T}:∀ ctx:ICx,W9 (ctx++[(p,n,ts)]) c=W9 ctx (p++[.it n ts c])
 | []=>rfl
 | (q,m,us)::ctx=>by
  show q++[It.it m us (W9 (ctx++[(p,n,ts)]) c)]=q++[It.it m us (W9 ctx (p++[.it n ts c]))]
  rw [hO ctx]
theorem rT {c:List It}{x:It}:∀ ctx:ICx,insAt ctx.length (W9 ctx c) x=W9 ctx (c++[x])
 | []=>rfl
 | (q,m,us)::ctx=>by
  show insAt (ctx.length+1) (q++[It.it m us (W9 ctx c)]) x=q++[It.it m us (W9 ctx (c++[x]))]
  rw [S5,rT ctx]
theorem Da2 {N:Nat}{a:List Nat}(h:∀ m∈a,m<N):jO a N=a.length:=by
 rcases xF a with rfl | ⟨r,m,rfl⟩
 ·rfl
 ·rw [eV,if_neg (Nat.not_le_of_lt (h m (List.mem_append.mpr (Or.inr (.head _))))),A6];rfl
theorem Bo9 {N:Nat}{a:List Nat}(h:∀ m∈a,m<N):∀ (k:Nat) (b:List Nat),b.length=k->(∀ m∈b,N<=m)->jO (a++b) N=a.length
 | 0,b,e,_=>by rw [List.length_eq_zero_iff.mp e,List.append_nil];exact Da2 h
 | k+1,b,e,hb=>by
  rcases xF b with rfl | ⟨r,m,rfl⟩
  ·cases e
  ·rw [<- A7,eV,if_pos (hb m (List.mem_append.mpr (Or.inr (.head _))))]
   exact Bo9 h k r (by rw [A6] at e;exact Nat.succ.inj e) fun x hx=>hb x (List.mem_append.mpr (Or.inl hx))
theorem Bg0 {ctx:ICx}{c:List It}{N:Nat}{ts:List T}(h:∀ m∈vU ctx,m<N) (hc:∀ m∈spn c,N<=m):fR (W9 ctx c,vU ctx++spn c) (N,ts)=(W9 ctx (c++[.it N ts []]),vU ctx++[N]):=by
 have e:jO (vU ctx++spn c) N=(vU ctx).length:=Bo9 h _ _ rfl hc
 have e2:(vU ctx).length=ctx.length:=B6 ..
 show (insAt (jO (vU ctx++spn c) N) _ _,(vU ctx++spn c).take (jO (vU ctx++spn c) N)++[N])=_
 rw [e,List.take_left,e2,rT]
mutual
theorem Cs3:∀ {above most:Nat}{i:It},IO1 above most i->∀ m∈spI i,above<m
 | above,most,.it n ts sub,h=>fun m hm=>by
  rcases List.mem_cons.mp hm with rfl | hm
  ·exact h.1.2.2
  ·exact Nat.lt_trans h.1.2.2 (xE (is:=sub) h.2.2 m hm)
theorem xE:∀ {above most:Nat}{is:List It},fM above most is->∀ m∈spn is,above<m
 | _,_,[],_=>fun m hm=>nomatch hm
 | above,most,i::is,h=>fun m hm=>by
  cases is with
  | nil=>exact Cs3 (i:=i) h.1 m hm
  | cons j js=>exact xE (is:=j::js) h.2 m hm
end
mutual
theorem Cu5:∀ (i:It) (ctx:ICx) (c:List It) (above most:Nat),IO1 above most i->(∀ m∈vU ctx,m<=above)->(∀ m∈spn c,most<=m) ->
  (flI i).foldl fR (W9 ctx c,vU ctx++spn c)=(W9 ctx (c++[i]),vU ctx++spn (c++[i]))
 | .it n ts sub,ctx,c,above,most,h,h1,h2=>by
  have e1:=Bg0 (ts:=ts) (fun m hm=>A9 (h1 m hm) h.1.2.2) (fun m hm=>A3 h.1.2.1 (h2 m hm))
  have e2:vU (ctx++[(c,n,ts)])=vU ctx++[n]:=by unfold vU;rw [List.map_append];rfl
  have ih:=xP sub (ctx++[(c,n,ts)]) [] n 9 h.2.2 (fun m hm=>by
   rw [e2] at hm
   rcases List.mem_append.mp hm with hm | hm
   ·exact B5 (A9 (h1 m hm) h.1.2.2)
   ·rw [List.mem_singleton.mp hm];exact A4 _) (fun m hm=>nomatch hm)
  rw [hO,hO,e2,show spn []=[] from rfl,List.append_nil,List.nil_append] at ih
  show (sZ sub).foldl fR (fR (W9 ctx c,vU ctx++spn c) (n,ts))=_
  rw [e1,ih,qJ,A7];rfl
theorem xP:∀ (is:List It) (ctx:ICx) (c:List It) (above most:Nat),fM above most is->(∀ m∈vU ctx,m<=above)->(∀ m∈spn c,most<=m) ->
  (sZ is).foldl fR (W9 ctx c,vU ctx++spn c)=(W9 ctx (c++is),vU ctx++spn (c++is))
 | [],ctx,c,above,most,_,_,_=>by rw [List.append_nil];rfl
 | i::is,ctx,c,above,most,h,h1,h2=>by
  have e1:=Cu5 i ctx c above most h.1 h1 h2
  have hs:∀ m∈spn (c++[i]),dsh i<=m:=fun m hm=>by
   rw [qJ] at hm
   cases i with
   | it n ts sub =>
    rcases List.mem_cons.mp hm with rfl | hm
    ·exact A4 _
    ·exact B5 (xE h.1.2.2 m hm)
  have e2:=xP is ctx (c++[i]) above (dsh i) h.2 h1 hs
  show (flI i++sZ is).foldl fR _=_
  rw [List.foldl_append,e1,e2,A7];rfl
end
theorem Ci9 {is:List It}(h:fM 0 9 is):itF (sZ is)=is:=by
 have:=xP is [] [] 0 9 h (fun m hm=>nomatch hm) (fun m hm=>nomatch hm)
 unfold itF oG
 have e:=congrArg Prod.fst this
 exact e
theorem wL {c:Nat}{r:List Nat}(hc:c≠32):∀ n,runL c (mk c n r)=n
 | 0=>if_neg (Ne.symm hc)
 | n+1=>(if_pos rfl).trans (congrArg (· + 1) (wL hc n))
theorem Ba7 {c:Nat}{r:List Nat}:∀ n,(mk c n r).drop n=32::r
 | 0=>rfl
 | n+1=>Ba7 n
theorem qP {c:Nat}{r:List Nat}:∀ n,(mk c n r).drop (n+1)=r
 | 0=>rfl
 | n+1=>qP n
theorem Ad8 {c m n:Nat}{r:List Nat}(hc:c≠32) (h1:1<=n) (h2:n<=m):isRun c m (mk c n r)=true:=by
 unfold isRun
 rw [wL hc,Ba7,decide_eq_true h1,decide_eq_true h2];rfl
theorem Bq1 {b:Bool}:(b&&false)=false:=Bool.and_false b
theorem Cs8 {deep n:Nat}{r:List Nat}(h1:1<=n) (h2:n<=6):shp deep (mk 35 n r)=⟨2,n,r⟩:=by
 have hr:=Ad8 (r:=r) (by decide:35≠32) h1 h2
 have e1:=wL (r:=r) (by decide:35≠32) n
 have e2:=qP (c:=35) (r:=r) n
 cases n with
 | zero=>cases h1
 | succ n =>
  show shpN deep (mk 35 (n+1) r)=_
  unfold shpN
  rw [show isQ deep (mk 35 (n+1) r)=false from Bq1,hr,e1,e2];rfl
theorem Cs7 {deep n:Nat}{r:List Nat}(h1:1<=n) (h2:n<=9):shp deep (mk 45 n r)=⟨3,n,r⟩:=by
 have hr:=Ad8 (r:=r) (by decide:45≠32) h1 h2
 have e1:=wL (r:=r) (by decide:45≠32) n
 have e2:=qP (c:=45) (r:=r) n
 cases n with
 | zero=>cases h1
 | succ n =>
  show shpN deep (mk 45 (n+1) r)=_
  unfold shpN
  rw [show isQ deep (mk 45 (n+1) r)=false from Bq1,show isRun 35 6 (mk 45 (n+1) r)=false from rfl,hr,e1,e2];rfl
theorem Cz1 {deep:Nat}{r:List Nat}(h:deep<9):shp deep (62::32::r)=⟨1,0,r⟩:=by
 show shpN deep (62::32::r)=_
 unfold shpN
 rw [show isQ deep (62::32::r)=true by unfold isQ;rw [decide_eq_true h];rfl];rfl
theorem Cz2 {deep:Nat}{row:List Nat}(h:(shp deep row).k=4):shp deep row=⟨4,0,row⟩:=by
 rcases P3 deep row with ⟨rfl,e⟩ | ⟨h0,⟨hq,e⟩ | ⟨hq,⟨h35,e⟩ | ⟨h35,⟨h45,e⟩ | ⟨h45,e⟩⟩⟩⟩
 ·rw [e] at h;cases h
 ·rw [e] at h;cases h
 ·rw [e] at h;cases h
 ·rw [e] at h;cases h
 ·exact e
mutual
theorem Ct0:∀ i:It,rwI i=(flI i).map fun p=>mk 45 p.1 (rowTs p.2)
 | .it n ts sub=>congrArg (mk 45 n (rowTs ts)::·) (xG sub)
theorem xG:∀ is:List It,rwIs is=(sZ is).map fun p=>mk 45 p.1 (rowTs p.2)
 | []=>rfl
 | i::is=>by
  show rwI i++rwIs is=(flI i++sZ is).map _
  rw [Ct0 i,xG is,List.map_append]
end
mutual
theorem Da4:∀ {above most:Nat}{i:It},most<=9->IO1 above most i->∀ p∈flI i,(1<=p.1/\p.1<=9)/\Ct p.2
 | above,most,.it n ts sub,hm,h=>fun p hp=>by
  rcases List.mem_cons.mp hp with rfl | hp
  ·exact ⟨⟨h.1.1,A3 h.1.2.1 hm⟩,h.2.1⟩
  ·exact An2 (is:=sub) (A4 _) h.2.2 p hp
theorem An2:∀ {above most:Nat}{is:List It},most<=9->fM above most is->∀ p∈sZ is,(1<=p.1/\p.1<=9)/\Ct p.2
 | _,_,[],_,_=>fun p hp=>nomatch hp
 | above,most,.it n ts sub::is,hm,h=>fun p hp=>by
  rcases List.mem_append.mp hp with hp | hp
  ·exact Da4 hm h.1 p hp
  ·exact An2 (is:=is) (A3 h.1.1.2.1 hm) h.2 p hp
end
structure Df3 (rec:List (List Nat)->List Bk) (deep:Nat) (b:Bk) (s:Sh) (m:List Sh):Prop where
 rows:(rwB b).map (shp deep)=s::m
 uni:Uni s m
 k:s.k<=4
 nm:nmK s.k=nmB b
 bk:cT rec (s::m)=b
theorem oQ {α:Type}{f:α->Sh}{x:α}{l:List α}(h:∀ y,(f y).k=(f x).k) (h2:(f x).k≠2):Uni (f x) (l.map f):=⟨fun t ht=>by
 obtain ⟨y,_,rfl⟩:=List.mem_map.mp ht
 exact h y,fun q=>absurd q h2⟩
noncomputable def f0 (_:List Nat):Sh:=⟨0,0,[]⟩
noncomputable def f1 (r:List Nat):Sh:=⟨1,0,r⟩
noncomputable def f3 (p:Nat×List T):Sh:=⟨3,p.1,rowTs p.2⟩
noncomputable def f4 (ts:List T):Sh:=⟨4,0,rowTs ts⟩
theorem Ch9 {l:List (Nat×List T)}(h:∀ p∈l,Ct p.2):(l.map f3).map fJ=l:=by
 rw [List.map_map]
 exact (List.map_congr_left (g:=id) fun p hp=>congrArg (Prod.mk p.1) (h p hp).eq.symm).trans (List.map_id _)
mutual
theorem An5:∀ {d deep:Nat}(b:Bk),deep+d=9->BO1 deep b->∃ s m,Df3 (Bj3 d) deep b s m
 | d,deep,.gap n,hd,h=>by
  cases n with
  | zero=>cases h
  | succ n =>
   refine ⟨f0 [],(List.replicate n []).map f0,List.map_congr_left fun r hr=>?_,oQ (fun zz=>rfl) (by decide),by decide,rfl,?_⟩
   ·rw [(List.mem_replicate.mp hr).2];rfl
   ·show Bk.gap (((List.replicate n []).map f0).length+1)=_
    rw [B6,List.length_replicate]
 | d,deep,.bad,hd,h=>h.elim
 | d,deep,.head n ts,hd,h=>⟨⟨2,n,rowTs ts⟩,[],congrArg (fun s=>[s]) (Cs8 h.1.1 h.1.2),⟨fun zz q=>(nomatch q),fun zz=>rfl⟩,(by decide:2<=4),rfl,congrArg (Bk.head n) h.2.eq.symm⟩
 | d,deep,.list is,hd,h=>by
  have hb:=Ci9 h.2.1
  have hr:=xG is
  have hc:=An2 (A4 _) h.2.1
  cases hf:sZ is with
  | nil=>rw [hf] at hb;exact absurd hb.symm h.1
  | cons p ps =>
   rw [hf] at hr hc hb
   refine ⟨f3 p,ps.map f3,?_,oQ (fun zz=>rfl) (by show 3≠2;decide),(by decide:3<=4),rfl,?_⟩
   ·show (rwIs is).map (shp deep)=(p::ps).map f3
    rw [hr,List.map_map]
    exact List.map_congr_left fun x hx=>Cs7 (hc x hx).1.1 (hc x hx).1.2
   ·show Bk.list (itF (((p::ps).map f3).map fJ))=_
    rw [Ch9 fun x hx=>(hc x hx).2,hb]
 | d,deep,.para [],hd,h=>absurd rfl h.1
 | d,deep,.para (ts::rs),hd,h=>by
  refine ⟨f4 ts,rs.map f4,?_,oQ (fun zz=>rfl) (by show 4≠2;decide),(by decide:4<=4),rfl,?_⟩
  ·show ((ts::rs).map rowTs).map (shp deep)=(ts::rs).map f4
   rw [List.map_map]
   exact List.map_congr_left fun x hx=>Cz2 (h.2 x hx).2
  ·show Bk.para (((ts::rs).map f4).map fun s=>yV s.r)=_
   rw [List.map_map]
   exact congrArg Bk.para ((List.map_congr_left (g:=id) fun x hx=>(h.2 x hx).1.eq.symm).trans (List.map_id _))
 | d,deep,.quote bs,hd,h=>by
  obtain ⟨d',rfl⟩:=xI hd h.1
  have hd':deep+1+d'=9:=(Nat.add_right_comm deep 1 d').trans hd
  have ih:=xU (d:=d') bs hd' h.2.2
  rw [<- kW hd'] at ih
  have hr:∀ l:List (List Nat),(l.map fun r=>62::32::r).map (shp deep)=l.map f1:=fun l=>by
   rw [List.map_map]
   exact List.map_congr_left fun x zz=>Cz1 h.1
  have h2:=hr (rwBs bs)
  cases hl:rwBs bs with
  | nil =>
   rw [hl] at ih
   exact absurd (ih.symm.trans (by rw [kW hd'];rfl)) h.2.1
  | cons r rs =>
   rw [hl] at ih h2
   refine ⟨f1 r,rs.map f1,?_,oQ (fun zz=>rfl) (by show 1≠2;decide),(by decide:1<=4),rfl,?_⟩
   ·show ((rwBs bs).map fun r=>62::32::r).map (shp deep)=_
    rw [hl];exact h2
   ·show Bk.quote (rdF d' (((r::rs).map f1).map (·.r)))=_
    rw [List.map_map,show (r::rs).map ((·.r) ∘ f1)=r::rs from List.map_id _,ih]
theorem xU:∀ {d deep:Nat}{last:List Nat}(bs:List Bk),deep+d=9->yT deep last bs->(grpF ((rwBs bs).map (shp deep))).map (cT (Bj3 d))=bs
 | _,_,_,[],_,_=>rfl
 | d,deep,last,[b],hd,h=>by
  obtain ⟨s,m,hb⟩:=An5 b hd h.1
  rw [show rwBs [b]=rwB b from List.append_nil _,hb.rows]
  have:=oW (r:=[]) hb.uni trivial
  rw [List.append_nil] at this
  rw [this]
  show [cT _ (s::m)]=_
  rw [hb.bk]
 | d,deep,last,b::b2::bs,hd,h=>by
  obtain ⟨s,m,hb⟩:=An5 b hd h.1
  obtain ⟨s2,m2,hb2⟩:=An5 b2 hd h.2.2.1
  have ih:=xU (b2::bs) hd h.2.2
  have hst:Stp s ((rwBs (b2::bs)).map (shp deep)):=by
   show Stp s ((rwB b2++rwBs bs).map _)
   rw [List.map_append,hb2.rows]
   exact h.2.2.2.1.imp (fun q e=>q (by rw [<- hb2.nm,<- hb.nm,e])) (fun q=>Az7 _ (Nat.lt_succ_of_le hb.k) 2 (by decide) (hb.nm.trans q))
  rw [show rwBs (b::b2::bs)=rwB b++rwBs (b2::bs) from rfl,List.map_append,hb.rows,List.cons_append,oW hb.uni hst,List.map_cons,ih,hb.bk]
end
theorem Ci2 {d deep:Nat}{bs:List Bk}(hd:deep+d=9) (h:yT deep [] bs):rdF d (rwBs bs)=bs:=by
 rw [kW hd];exact xU bs hd h
noncomputable def tot (k:Nat):List (List Nat)->Nat
 | []=>0
 | r::rs=>r.length+k+tot k rs
theorem bY {k:Nat}:∀ as bs:List (List Nat),tot k (as++bs)=tot k as+tot k bs
 | [],bs=>(Nat.zero_add _).symm
 | a::as,bs=>by show a.length+k+tot k (as++bs)=a.length+k+tot k as+tot k bs;rw [bY as bs,Nat.add_assoc (a.length+k)]
theorem Au4 {k:Nat}:∀ rs:List (List Nat),tot k (rs.map fun r=>62::32::r)=tot (k+2) rs
 | []=>rfl
 | r::rs=>by
  show r.length+2+k+tot k (rs.map _)=r.length+(k+2)+tot (k+2) rs
  rw [Au4 rs,Nat.add_assoc r.length,Nat.add_comm 2]
theorem pU {c n:Nat}{r:List Nat}:(mk c n r).length=n+(r.length+1):=by unfold mk;rw [A6,List.length_replicate];rfl
theorem Cn1 {c n:Nat}{r:List Nat}(hc:sgB c=true) (h:Sg r):Sg (mk c n r):=fun x hx=>by
 rcases List.mem_append.mp hx with hx | hx
 ·rw [(List.mem_replicate.mp hx).2];exact hc
 ·rcases List.mem_cons.mp hx with rfl | hx
  ·rfl
  ·exact h x hx
mutual
theorem De1:∀ {i:It},LI i->∀ r∈rwI i,Sg r
 | .it n ts sub,h=>fun r hr=>by
  rcases List.mem_cons.mp hr with q | q
  ·rw [q];exact Cn1 rfl (O8 h.1.lt).1
  ·exact Bk1 (is:=sub) h.2.1 r q
theorem Bk1:∀ {is:List It},vW is->∀ r∈rwIs is,Sg r
 | [],_=>fun r hr=>nomatch hr
 | i::is,h=>fun r hr=>by
  rcases List.mem_append.mp hr with hr | hr
  ·exact De1 h.1 r hr
  ·exact Bk1 h.2 r hr
end
mutual
theorem De2:∀ {b:Bk},LB1 b->∀ r∈rwB b,Sg r
 | .gap n,h=>fun r hr=>by rw [(List.mem_replicate.mp hr).2];exact fun c hc=>nomatch hc
 | .bad,h=>fun r hr=>by rw [List.mem_singleton.mp hr];exact cP (by decide)
 | .head n ts,h=>fun r hr=>by rw [List.mem_singleton.mp hr];exact Cn1 rfl (O8 h.1.lt).1
 | .list is,h=>Bk1 h.1
 | .para rs,h=>fun r hr=>by
  obtain ⟨ts,ht,rfl⟩:=List.mem_map.mp hr
  exact (O8 (h ts ht).lt).1
 | .quote bs,h=>fun r hr=>by
  obtain ⟨q,hq,rfl⟩:=List.mem_map.mp hr
  exact fun c hc=>by
   rcases List.mem_cons.mp hc with rfl | hc
   ·rfl
   ·rcases List.mem_cons.mp hc with rfl | hc
    ·rfl
    ·exact zL (bs:=bs) h q hq c hc
theorem zL:∀ {bs:List Bk},sV bs->∀ r∈rwBs bs,Sg r
 | [],_=>fun r hr=>nomatch hr
 | b::bs,h=>fun r hr=>by
  rcases List.mem_append.mp hr with hr | hr
  ·exact De2 h.1 r hr
  ·exact zL h.2 r hr
end
theorem uM {c:Nat}{t:List Nat}:∀ {w:List Nat},(∀ x∈w,x≠c)->splitAt c (w++c::t)=w::splitAt c t
 | [],_=>if_pos rfl
 | y::w,h=>by
  show (if y=c then []::splitAt c (w++c::t) else match splitAt c (w++c::t) with | []=>[[y]] | w::r=>(y::w)::r)=_
  rw [if_neg (h y (.head _)),uM fun x hx=>h x (.tail _ hx)]
theorem rK {c:Nat}:∀ {w:List Nat},(∀ x∈w,x≠c)->splitAt c w=[w]
 | [],_=>rfl
 | y::w,h=>by
  show (if y=c then []::splitAt c w else match splitAt c w with | []=>[[y]] | w::r=>(y::w)::r)=_
  rw [if_neg (h y (.head _)),rK fun x hx=>h x (.tail _ hx)]
theorem gZ {c:Nat}:∀ {rs:List (List Nat)},rs≠[]->(∀ r∈rs,∀ x∈r,x≠c)->splitAt c (D8 [c] rs)=rs
 | [w],_,h=>rK (h w (.head _))
 | w::v::r,_,h=>by
  show splitAt c (w++[c]++D8 [c] (v::r))=_
  rw [A7]
  exact (uM (h w (.head _))).trans (congrArg (w::·) (gZ (List.cons_ne_nil v r) fun r hr=>h r (.tail _ hr)))
theorem Ad6 {c:Nat}:∀ rs:List (List Nat),(D8 [c] rs).length<=tot 1 rs
 | []=>A4 _
 | [w]=>B8 _
 | w::v::r=>by
  show (w++[c]++D8 [c] (v::r)).length<=w.length+1+tot 1 (v::r)
  rw [A6,A6]
  exact Nat.add_le_add_left (Ad6 (v::r)) _
theorem cA:∀ rs:List (List Nat),rs.length<=tot 1 rs
 | []=>A4 _
 | w::r=>by
  show r.length+1<=w.length+1+tot 1 r
  rw [Nat.add_comm]
  exact Nat.add_le_add (Nat.le_add_left _ _) (cA r)
theorem Az0:∀ {rs:List (List Nat)},∀ r∈rs,r.length<=tot 1 rs
 | w::rs,r,h=>by
  rcases List.mem_cons.mp h with rfl | h
  ·exact A3 (B8 _) (B4 _ _)
  ·exact A3 (Az0 r h) (Nat.le_add_left _ _)
theorem Ac1 {k j:Nat}(h:k<=j):∀ rs:List (List Nat),tot k rs<=tot j rs
 | []=>A4 _
 | r::rs=>Nat.add_le_add (Nat.add_le_add_left h _) (Ac1 h rs)
structure OS (H:Heap) (rs:List (List Nat)) (c:Nat) (G:Heap):Prop where
 gr:D0 H G
 new:H.length<=c
 get:G[c]? = some (rs.map V.str)
theorem zM {C:Calls}{ρ:D7}{G:Heap}{R:E6}{ss:List S}{o e:E}{a:Nat}{l:List V}{rs:List (List Nat)}(ho:Ev C ρ G o (.ref a)) (he:∀ Q:C2,(∀ c G',OS G rs c G'->Q (.ref c) G')->E2 C e ρ Q G) (ha:G[a]? = some l) (hl:l.length+rs.length<=16700000) (k:∀ G',Up a G G'->G'[a]? = some (l++rs.map V.str)->C6 C ss ρ R G'):C6 C (.expr (.extend o e)::ss) ρ R G:=ho _ (he _ fun c G' h=>by
 have hlt:=D2 ha
 show hea ((G'[a]?).bind fun l=>(G'[c]?).bind fun r=>if a≠c/\l.length+r.length<=I3 then some (G'.set a (l++r)) else none) _
 rw [h.gr.get ha,h.get]
 show hea (if a≠c/\l.length+(rs.map V.str).length<=I3 then some (G'.set a (l++rs.map V.str)) else none) _
 rw [if_pos ⟨Nat.ne_of_lt (A8 hlt h.new),by rw [B6];exact A3 hl Ak4⟩]
 exact k _ ((Up.grow h.gr).trans .set) (List.getElem?_set_self (A8 hlt h.gr.len)))
theorem Bk2 {C:Calls}{ρ:D7}{G:Heap}{R:E6}{ss:List S}{o e:E}{a:Nat}{l:List V}{w:List Nat}(ho:Ev C ρ G o (.ref a)) (he:Ev C ρ G e (.str w)) (ha:G[a]? = some l) (hl:l.length+1<=16700000) (k:∀ G',Up a G G'->G'[a]? = some (l++[V.str w])->C6 C ss ρ R G'):C6 C (.expr (.append o e)::ss) ρ R G :=
 J2 ho he ha (ltL (Nat.le_of_succ_le hl)) (k _ .set (List.getElem?_set_self (D2 ha)))
theorem Bp5 {n a lo hi c k:Nat}{ρ:D7}{G:Heap}{e1 e2:E}{ts:List T}(hk:k<=100) (h1:Ev (callN P (n+31)) ρ G e1 (.int (k:Nat))) (h2:Ev (callN P (n+31)) ρ G e2 (.ref a)) (hg:LC ts) (hr:I1 G (.lst (encs ts)) lo hi (.ref a)):Ev (callN P (n+31)) ρ G (.bin .add (.bin .add (.bin .mul (.str [c]) e1) (.str [32])) (.call "_law_row" [e2])) (.str (mk c k (rowTs ts))):=by
 have hl:(mk c k (rowTs ts)).length<=1000000:=by rw [pU];exact A3 (Nat.add_le_add hk (B3 hg.len)) (by decide)
 rw [<- zN] at hl ⊢
 exact Q0 (xR hk h1) (C8 (C4 h2 J5) fun Q q=>iV 30 n ts a lo hi G Q hg.fit hr (suf hl) q) hl
theorem eP {H G:Heap}{l:List V}(u:Up H.length (H++[l]) G):D0 H G:=⟨A3 D0.one.len u.len,fun x h0 hx=>(u.eq x (Nat.ne_of_lt hx) (A8 hx D0.one.len)).trans (D0.one.old x h0 hx)⟩
noncomputable def LU (m n:Nat):Prop:=∀ (is:List It) (a lo hi:Nat) (H:Heap) (Q:C2),dIs is<=m->vW is->I1 H (.lst (U9 is)) lo hi (.ref a)->hi<=H.length->tot 1 (rwIs is)<=16700000->(∀ c G,OS H (rwIs is) c G->Q (.ref c) G)->callN P n "_law_under" [.ref a] Q H
theorem rJ {m n:Nat}(ih:∀ m',m=m'+1->LU m' (n+31)):LU m (n+32):=by
 intro is a lo hi H Q hd hg hr hh ht hQ
 obtain ⟨a',l,p,q,e,hb,ha,hrl⟩:=hr
 cases e
 have hqH:q<=H.length:=A3 hb.qh hh
 refine yE (I0 (H1:=H++[[]]) (v:=.ref H.length) (fun zz h=>h) (H5 (cU (σ:=Option V) (fun z=>[some (.ref a),some (.ref H.length),z]) (fun k z G=>Up H.length (H++[[]]) G/\G[H.length]? = some ((rwIs (is.take k)).map V.str)) (l:=l) (fun k z G hI=>hI.1.get (Nat.ne_of_lt (D2 ha)) (R6 ha)) (fun k z G v hv hI K hK=>?_) (fun z G hI=>?_) none (fun zz h=>h) ⟨.refl,D3⟩)))
 ·obtain ⟨i,hi1,hri⟩:=Cp8 hrl hv
  have hdk:=A3 (oX hi1) hd
  have hgi:=hg.get hi1
  obtain ⟨e1,e2⟩:=Ay8 hi1
  obtain ⟨c,ts,sub⟩:=i
  obtain ⟨m',rfl⟩:=pT hdk
  have hqG:q<=G.length:=A3 hqH (eP hI.1).len
  obtain ⟨a1,b1,rfl,hra,hrb⟩:=xC (hri.grow (eP hI.1) hqH)
  have et:tot 1 (rwIs is)=tot 1 (rwIs (is.take k))+((mk 45 c (rowTs ts)).length+1+tot 1 (rwIs sub)+tot 1 (rwIs (is.drop (k+1)))):=by
   rw [e2,bY,bY];rfl
  rw [et] at ht
  have h1:=cA (rwIs (is.take k))
  have h2:=cA (rwIs sub)
  have hM:=A3 (B4 _ _) (A3 (Nat.le_add_left _ _) ht)
  clear et e2
  refine Bk2 (by exact fun zz h=>h) (Bp5 (n:=n) hgi.2.2 (by exact fun zz h=>h) (by exact fun zz h=>h) hgi.1 hra) hI.2 (by rw [B6];exact A3 (Nat.add_le_add h1 (A3 (Nat.le_add_left 1 _) (A3 (B4 _ _) (B4 _ _)))) ht) fun G1 u1 g1=>?_
  have hqG1:q<=G1.length:=A3 hqG u1.len
  refine zM (rs:=rwIs sub) (by exact fun zz h=>h) (fun Q' q'=>K8 (H9 (v:=.ref b1) (by exact fun zz h=>h) (G8 (ih m' rfl sub b1 p q G1 Q' (Nat.le_of_succ_le_succ hdk) hgi.2.1 (hrb.to (u1.eqv hqH hqG)) hqG1 (A3 (Nat.le_add_left _ _) hM) q')))) g1 (by rw [A6,B6,Nat.add_assoc];exact A3 (Nat.add_le_add h1 (A3 (Nat.add_le_add (Nat.le_add_left 1 _) h2) (B4 _ _))) ht) fun G2 u2 g2=>hK _ _ ⟨(hI.1.trans u1).trans u2,?_⟩
  rw [e1,List.map_append]
  rw [A7] at g2
  exact g2
 ·have:=hrl.len
  rw [Y7] at this
  rw [this,List.take_length] at hI
  exact E0 (by exact fun zz h=>h) (hQ _ _ ⟨eP hI.1,A4 _,hI.2⟩)
theorem Ac0:∀ (m n:Nat),LU m (n+m+32)
 | 0,n=>rJ fun m' q=>nomatch q
 | m+1,n=>rJ (n:=n+m+1) fun m' q=>by cases q;exact Ac0 m n
theorem Cu4 {C:Calls}{ρ:D7}{H:Heap}{e:E}{k:Nat}{Q:C2}(hk:k<=16700000) (he:∀ l,Ev C ρ (H++[l]) e (.int (k:Nat))) (h:∀ c G,OS H (List.replicate k []) c G->Q (.ref c) G):E2 C (.bin .mul (.list [.str []]) e) ρ Q H:=by
 refine iJ (U0 (H9 P0 (G8 (he _ _ ?_))))
 show res (((H++[[V.str []]])[H.length]?).bind fun l=>if l.length * ((k:Nat):Int).toNat<=I3/\-4611686018427387904<((k:Nat):Int)/\((k:Nat):Int)<4611686018427387904 then some (.ref (H++[[V.str []]]).length,(H++[[V.str []]])++[(List.replicate ((k:Nat):Int).toNat l).flatten]) else none) Q
 rw [D3]
 show res (if 1 * k<=I3/\-4611686018427387904<((k:Nat):Int)/\((k:Nat):Int)<4611686018427387904 then some (.ref (H++[[V.str []]]).length,(H++[[V.str []]])++[(List.replicate k [V.str []]).flatten]) else none) Q
 rw [if_pos ⟨by rw [Nat.one_mul];exact A3 hk Ak4,Int.lt_of_lt_of_le (by decide) (Int.natCast_nonneg k),Int.lt_of_le_of_lt (Int.ofNat_le.mpr hk) (by decide)⟩,List.flatten_replicate_singleton]
 exact h _ _ ⟨mJ,by rw [aL];exact B8 _,by rw [List.map_replicate];exact D3⟩
noncomputable def LRw (d n:Nat):Prop:=∀ (bs:List Bk) (a lo hi:Nat) (H:Heap) (Q:C2),sV bs->J3 W d (.lst (bkEs bs))->I1 H (.lst (bkEs bs)) lo hi (.ref a)->hi<=H.length->tot 1 (rwBs bs)<=16700000->(∀ c G,OS H (rwBs bs) c G->Q (.ref c) G)->callN P n "_law_rows" [.ref a] Q H
noncomputable def Ct4 (v:V):V:=match v with
 | .str r=>.str (62::32::r)
 | _=>.none
theorem Cs1 {C:Calls}{ρ:D7}{H:Heap}{l r:E}{a b:List Nat}(hl:Ev C ρ H l (.str a)) (hr:Ev C ρ H r (.str b)) (h:(a++b).length<=16700000):Ev C ρ H (.bin .add l r) (.str (a++b)):=I5 hl hr (Y1 (by rw [<- A6];exact A3 h Ak4))
theorem Bg5 {n d a b lo hi:Nat}{bs:List Bk}{H:Heap}{Q:C2}{ρ:D7}{e:E}(ih:LRw d n) (he:Ev (callN P n) ρ H e (.ref b)) (hv:∀ v,(ρ.set 3 (some v))[3]? = some (some v)) (hg:sV bs) (hf:J3 W d (.lst (bkEs bs))) (hr:I1 H (.lst (bkEs bs)) lo hi (.ref b)) (hh:hi<=H.length) (ht:tot 1 ((rwBs bs).map fun r=>62::32::r)<=16700000) (h:∀ c G,OS H ((rwBs bs).map fun r=>62::32::r) c G->Q (.ref c) G):E2 (callN P n) (.comp (.bin .add (.str [62,32]) (.var 3)) 3 (.call "_law_rows" [e]) []) ρ Q H:=by
 have h1:tot 1 (rwBs bs)<=tot 1 ((rwBs bs).map fun r=>62::32::r):=by
  rw [Au4]
  exact Ac1 (by decide) _
 have key:∀ c G,OS H (rwBs bs) c G->∃ m,S9 (P6 (callN P n) []) (E2 (callN P n) (.bin .add (.str [62,32]) (.var 3))) 3 ρ (.lst c) m 0 [] (fun vs H₂=>Q (.ref H₂.length) (H₂++[vs])) G:=fun c G o=>by
  refine qH ((rwBs bs).map V.str) Ct4 (An6 o.get) (by rw [B6];exact A3 (cA _) (A3 h1 (A3 ht Ak4))) (fun v hm K hK=>?_) ?_
  ·obtain ⟨r,hr',rfl⟩:=List.mem_map.mp hm
   exact Cs1 (a:=[62,32]) (b:=r) P0 (R1 (hv _)) (A3 (Az0 (62::32::r) (List.mem_map.mpr ⟨r,hr',rfl⟩)) ht) K hK
  ·refine h _ _ ⟨o.gr.trans .one,o.gr.len,?_⟩
   rw [List.map_map,List.map_map];exact D3
 exact K8 (Q:=fun v H₁=>match iterV v with | some it=>∃ n',S9 (P6 (callN P n) []) (E2 (callN P n) (.bin .add (.str [62,32]) (.var 3))) 3 ρ it n' 0 [] (fun vs H₂=>Q (.ref H₂.length) (H₂++[vs])) H₁ | none=>False) (H9 he (G8 (ih bs b lo hi H _ hg hf hr hh (A3 h1 ht) key)))
theorem By1 {n b lo hi:Nat}{rs:List (List T)}{H:Heap}{Q:C2}{ρ:D7}{e:E}(he:Ev (callN P (n+31)) ρ H e (.ref b)) (hv:∀ v,(ρ.set 4 (some v))[4]? = some (some v)) (hg:∀ ts∈rs,LC ts) (hr:I1 H (.lst (yW rs)) lo hi (.ref b)) (ht:tot 1 (rs.map rowTs)<=16700000) (h:∀ c G,OS H (rs.map rowTs) c G->Q (.ref c) G):E2 (callN P (n+31)) (.comp (.call "_law_row" [.var 4]) 4 e []) ρ Q H:=by
 obtain ⟨b',l,p,q,e',hb,ha,hrl⟩:=hr
 cases e'
 have hlen:=hrl.len
 rw [iT] at hlen
 have hl1:=cA (rs.map rowTs)
 rw [B6] at hl1
 refine wG he (by rw [hlen];exact A3 hl1 (A3 ht Ak4)) (fun i acc G=>G=H/\acc=((rs.take i).map rowTs).map V.str) (fun i acc G hI=>hI.1▸ha) (fun i acc G v hv' zz hI K hK=>?_) ⟨rfl,rfl⟩ Q fun acc G zz hI=>?_
 ·obtain ⟨rfl,rfl⟩:=hI
  obtain ⟨ts,c,hts,rfl,hrc⟩:=Cp7 hrl hv'
  have hm:=B9 hts
  refine C8 (C4 (R1 (hv _)) J5) (fun Q q=>iV 30 n ts c p _ G Q (hg ts hm).fit hrc (A3 (hg ts hm).len (by decide)) q) K (hK _ _ ⟨rfl,?_⟩)
  rw [Bo3 hts,List.map_append];rfl
 ·obtain ⟨rfl,rfl⟩:=hI
  rw [hlen,List.take_length]
  exact h _ _ ⟨.one,A4 _,D3⟩
theorem Cu7 {m:Nat}{ts:List Bk}{i:Nat}{t:Bk}(h:J3 W m (.lst (bkEs ts))) (ht:ts[i]? = some t):∃ m',m=m'+1/\J3 W m' (bkE t):=by
 cases m with
 | zero=>exact h.elim
 | succ m=>exact ⟨m,rfl,h.2 _ (Ae9 ht)⟩
theorem Ch3 {H:Heap}{lo hi:Nat}{v:V}(h:I1 H (bkE .bad) lo hi v):∃ a,v=.tup [.str [104,101,97,100,105,110,103],.int (-1),.ref a]/\I1 H (.lst (encs [])) lo hi (.ref a):=by
 obtain ⟨l,rfl,h⟩:=h
 replace h:=M2 h;obtain ⟨r,rfl,h⟩:=h
 replace h:=M2 h;obtain ⟨r,rfl,h⟩:=h
 replace h:=dG h;obtain ⟨a,r,rfl,ha,h⟩:=h
 rw [h.2]
 exact ⟨a,rfl,ha⟩
theorem hU {d n:Nat}(ih:∀ d',d=d'+2->LRw d' (n+41)):LRw d (n+42):=by
 intro bs a lo hi H Q hg hf hr hh ht hQ
 obtain ⟨a',l,p,q,e,hb,ha,hrl⟩:=hr
 cases e
 have hqH:q<=H.length:=A3 hb.qh hh
 refine Ah5 (I0 (H1:=H++[[]]) (v:=.ref H.length) (fun zz h=>h) (H5 (cU (σ:=Option V) (fun z=>[some (.ref a),some (.ref H.length),z,none,none]) (fun k z G=>Up H.length (H++[[]]) G/\G[H.length]? = some ((rwBs (bs.take k)).map V.str)) (l:=l) (fun k z G hI=>hI.1.get (Nat.ne_of_lt (D2 ha)) (R6 ha)) (fun k z G v hv hI K hK=>?_) (fun z G hI=>?_) none (fun zz h=>h) ⟨.refl,D3⟩)))
 ·obtain ⟨b,hb1,hrb⟩:=Cp9 hrl hv
  have hgb:=hg.get hb1
  obtain ⟨d1,rfl,hfb⟩:=Cu7 hf hb1
  obtain ⟨e1,e2⟩:=Ay9 hb1
  have hqG:q<=G.length:=A3 hqH (eP hI.1).len
  replace hrb:=hrb.grow (eP hI.1) hqH
  rw [e2,bY,bY] at ht
  have htb:tot 1 (rwB b)<=16700000:=A3 (B4 _ _) (A3 (Nat.le_add_left _ _) ht)
  have hlb:((rwBs (bs.take k)).map V.str).length+(rwB b).length<=16700000:=by
   rw [B6]
   exact A3 (Nat.add_le_add (cA _) (A3 (cA _) (B4 _ _))) ht
  have fin:∀ {G'},Up H.length G G'->G'[H.length]? = some ((rwBs (bs.take k)).map V.str++(rwB b).map V.str)->K [some (.ref a),some (.ref H.length),some v,none,none] G':=fun u g=>hK (some v) _ ⟨hI.1.trans u,by rw [e1,List.map_append];exact g⟩
  clear e1 e2 ht hK
  have hm:=hI.2
  cases b with
  | gap k' =>
   rw [Am1 hrb] at fin ⊢
   have hlk:=hlb
   rw [show (rwB (.gap k')).length=k' from List.length_replicate] at hlk
   exact C5 (fun zz h=>h) (zM (rs:=rwB (.gap k')) (by exact fun zz h=>h) (fun Q' q'=>Cu4 (A3 (Nat.le_add_left _ _) hlk) (fun l=>by exact fun zz h=>h) q') hm hlb fun G' u g=>fin u g)
  | head k' ts =>
   obtain ⟨c,rfl,hrc⟩:=xD hrb
   exact D6 (fun zz h=>h) (C5 (fun zz h=>h) (Bk2 (w:=mk 35 k' (rowTs ts)) (by exact fun zz h=>h) (Bp5 (n:=n+10) hgb.2 (by exact fun zz h=>h) (by exact fun zz h=>h) hgb.1 hrc) hm hlb fun G' u g=>fin u g))
  | bad =>
   obtain ⟨c,rfl,hc⟩:=Ch3 hrb
   refine D6 (fun zz h=>h) (C5 (fun zz h=>h) (Bk2 (w:=[32]) (by exact fun zz h=>h) (iB (I5 (I5 (I5 P0 (by exact fun zz h=>h) (kS (n:=-1) ⟨B0 _,by decide,by decide⟩)) P0 (Y1 (by show 0+1<=I3;decide))) (C8 (v:=.str []) (C4 (by exact fun zz h=>h) J5) fun Q' q'=>iV 30 (n+10) [] c p q G Q' ⟨B0 _,fun y hy=>nomatch hy⟩ hc (B0 _) q') (Y1 (by show 1+0<=I3;decide))) rfl) hm hlb fun G' u g=>fin u g))
  | list is =>
   obtain ⟨c,rfl,hrc⟩:=bQ hrb
   exact D6 (fun zz h=>h) (D6 (fun zz h=>h) (C5 (fun zz h=>h) (zM (rs:=rwIs is) (by exact fun zz h=>h) (fun Q' q'=>K8 (H9 (v:=.ref c) (by exact fun zz h=>h) (G8 (Ac0 9 n is c p q G Q' hgb.2 hgb.1 hrc hqG htb q')))) hm hlb fun G' u g=>fin u g)))
  | quote bs' =>
   obtain ⟨c,rfl,hrc⟩:=bQ hrb
   obtain ⟨d',rfl,hfq⟩:=pW hfb
   exact D6 (fun zz h=>h) (D6 (fun zz h=>h) (D6 (fun zz h=>h) (C5 (fun zz h=>h) (zM (rs:=rwB (.quote bs')) (by exact fun zz h=>h) (fun Q' q'=>Bg5 (a:=0) (ih d' rfl) (by exact fun zz h=>h) (fun zz=>rfl) hgb hfq hrc hqG htb q') hm hlb fun G' u g=>fin u g))))
  | para rs =>
   obtain ⟨c,rfl,hrc⟩:=bQ hrb
   exact D6 (fun zz h=>h) (D6 (fun zz h=>h) (D6 (fun zz h=>h) (D6 (fun zz h=>h) (zM (rs:=rs.map rowTs) (by exact fun zz h=>h) (fun Q' q'=>By1 (n:=n+10) (by exact fun zz h=>h) (fun zz=>rfl) hgb hrc htb q') hm hlb fun G' u g=>fin u g))))
 ·have:=hrl.len
  rw [R8] at this
  rw [this,List.take_length] at hI
  exact E0 (by exact fun zz h=>h) (hQ _ _ ⟨eP hI.1,A4 _,hI.2⟩)
theorem Ad3:∀ (d n:Nat),LRw d (n+d+42)
 | 0,n=>hU fun d' q=>nomatch q
 | 1,n=>hU fun d' q=>nomatch q
 | d+2,n=>hU (n:=n+d+2) fun d' q=>by
   cases q
   have h:=Ad3 d (n+1)
   rw [Nat.add_right_comm n 1 d] at h
   exact h
section
variable {C:Calls}{ρ:D7}{H:Heap}
theorem P5 {e:E}{z n:Int}(h:Ev C ρ H e (.int z)) (hb:0<n):Ev C ρ H (.bin .mod e (.int n)) (.int (z % n)):=I5 h (fun zz h=>h) (Cy3 hb)
theorem R7 {e:E}{z n:Int}(h:Ev C ρ H e (.int z)) (hb:0<n/\n<1073741824):Ev C ρ H (.bin .fdiv e (.int n)) (.int (z / n)):=I5 h (fun zz h=>h) (Cr9 hb)
theorem K4 {e:E}{z n:Int}(h:Ev C ρ H e (.int z)):Ev C ρ H (.cmp .eq e (.int n)) (.bool (z==n)):=D9 h (fun zz h=>h) Cm6
theorem cW {e:E}{z n:Int}(h:Ev C ρ H e (.int z)):Ev C ρ H (.cmp .ne e (.int n)) (.bool (!(z==n))):=D9 h (fun zz h=>h) Au1
theorem fQ {e:E}{z n:Int}(h:Ev C ρ H e (.int z)):Ev C ρ H (.cmp .gt e (.int n)) (.bool (decide (n<z))):=D9 h (fun zz h=>h) oZ
theorem zJ {e:E}{z n:Int}(h:Ev C ρ H e (.int z)):Ev C ρ H (.cmp .lt e (.int n)) (.bool (decide (z<n))):=D9 h (fun zz h=>h) T5
noncomputable def sU (C:Calls) (ρ:D7) (H:Heap) (e:E):Prop:=∃ b:Bool,Ev C ρ H e (.bool b)
theorem K5 {e:E}{b:Bool}(h:Ev C ρ H e (.bool b)):sU C ρ H e:=⟨b,h⟩
theorem T7 {e f:E}{es:List E}(h1:sU C ρ H e) (h2:sU C ρ H (.and (f::es))):sU C ρ H (.and (e::f::es)):=h1.elim fun zz h1=>h2.elim fun zz h2=>⟨_,D1 h1 fun zz=>h2⟩
theorem Ak3 {e f:E}{es:List E}(h1:sU C ρ H e) (h2:sU C ρ H (.or (f::es))):sU C ρ H (.or (e::f::es)):=h1.elim fun zz h1=>h2.elim fun zz h2=>⟨_,K3 h1 fun zz=>h2⟩
theorem S4 {e:E}(h:sU C ρ H e):sU C ρ H (.and [e]):=h
theorem pF {e:E}(h:sU C ρ H e):sU C ρ H (.or [e]):=h
theorem W0 {R:E6}{ss t f:List S}{c:E}(h:sU C ρ H c) (ht:C6 C t ρ (M6 C ss R) H) (hf:C6 C f ρ (M6 C ss R) H):C6 C (.ite c t f::ss) ρ R H:=h.elim fun zz h=>Cy2 h (fun zz=>ht) (fun zz=>hf)
end
theorem M7 (z:Int) {n:Int}(h:0<n):∃ k:Nat,(k:Int)<n/\z % n=(k:Int):=⟨(z % n).toNat,by rw [Int.toNat_of_nonneg (Int.emod_nonneg _ (Int.ne_of_gt h))];exact Int.emod_lt_of_pos _ h,(Int.toNat_of_nonneg (Int.emod_nonneg _ (Int.ne_of_gt h))).symm⟩
theorem Cn5 {C:Calls}{ρ:D7}{H:Heap}{e i:E}{a:Nat}{ws:List (List Nat)}(z:Int) {n:Int}(hn:(ws.length:Int)=n) (h0:0<n) (ha:H[a]? = some (ws.map V.str)) (he:Ev C ρ H e (.ref a)) (hi:Ev C ρ H i (.int z)):∃ s∈ws,Ev C ρ H (.idx e (.bin .mod i (.int n))) (.str s):=by
 obtain ⟨k,hk,e0⟩:=M7 z h0
 have hk':k<ws.length:=Int.ofNat_lt.mp (by rw [hn];exact hk)
 have hg:(ws.map V.str)[k]? = some (.str ws[k]):=by rw [C0,List.getElem?_eq_getElem hk'];rfl
 exact ⟨ws[k],List.getElem_mem hk',F9 he (e0▸P5 hi h0) (L0 ha hg)⟩
theorem Cn6 {C:Calls}{ρ:D7}{H:Heap}{i:E}{w:List Nat}(z:Int) {n:Int}(hn:(w.length:Int)=n) (h0:0<n) (hi:Ev C ρ H i (.int z)):∃ c∈w,Ev C ρ H (.idx (.str w) (.bin .mod i (.int n))) (.str [c]):=by
 obtain ⟨k,hk,e0⟩:=M7 z h0
 have hk':k<w.length:=Int.ofNat_lt.mp (by rw [hn];exact hk)
 exact ⟨w[k],List.getElem_mem hk',F9 (fun zz h=>h) (e0▸P5 hi h0) (cI (List.getElem?_eq_getElem hk'))⟩
noncomputable def kN (z k:Int):Int:=(z+7919 * k+1) * 48271 % 2147483647
theorem gQ {n:Nat}{z k:Int}{H:Heap}(Q:C2) (h:Q (.int (kN z k)) H):callN P (n+1) "_law_mix" [.int z,.int k] Q H :=
 Ar7 (E0 (P5 (I5 (I5 (I5 (fun zz h=>h) (I5 (fun zz h=>h) (fun zz h=>h) (Al3 (Or.inl (by decide)))) Q3) (fun zz h=>h) Q3) (fun zz h=>h) (Al3 (Or.inr (by decide)))) (by decide)) h)
theorem Bk4 {C:Calls}{ρ:D7}{H:Heap}{es:List E}{i:E}{ws:List (List Nat)}(z:Int) {n:Int}(hn:(ws.length:Int)=n) (h0:0<n) (hs:Evs C ρ H es (ws.map V.str)) (hi:Ev C ρ (H++[ws.map V.str]) i (.int z)):∃ s∈ws,W5 C ρ H (.idx (.list es) (.bin .mod i (.int n))) (.str s) (D0 H):=by
 obtain ⟨k,hk,e0⟩:=M7 z h0
 have hk':k<ws.length:=Int.ofNat_lt.mp (by rw [hn];exact hk)
 have hg:(ws.map V.str)[k]? = some (.str ws[k]):=by rw [C0,List.getElem?_eq_getElem hk'];rfl
 refine ⟨ws[k],List.getElem_mem hk',fun Q q=>mG (U0 (hs (fun vs H₁=>E2 C (.bin .mod i (.int n)) ρ (fun vi H₂=>val (X1 (.ref H₁.length) vi H₂) Q H₂) (H₁++[vs])) ((e0▸P5 hi h0) _ ?_)))⟩
 show val (X1 (.ref H.length) (.int (k:Nat)) (H++[ws.map V.str])) Q _
 rw [L0 D3 hg]
 exact q _ .one
noncomputable def okS (m:Nat) (s:List Nat):Bool:=!s.isEmpty&&s.all sgB&&decide (s.length<=m)
structure Wd (m:Nat) (s:List Nat):Prop where
 ne:s≠[]
 sg:Sg s
 len:s.length<=m
theorem Bk0 {m:Nat}{s:List Nat}(h:okS m s=true):Wd m s:=by
 unfold okS at h
 replace h:=C3 h
 exact ⟨fun q=>(by rw [q] at h;exact nomatch (C3 h.1).1),fun c hc=>List.all_eq_true.mp (C3 h.1).2 c hc,of_decide_eq_true h.2⟩
theorem pR {m:Nat}{ws:List (List Nat)}(h:ws.all (okS m)=true) {s:List Nat}(hs:s∈ws):Wd m s:=Bk0 (List.all_eq_true.mp h s hs)
theorem Wd.add {m k:Nat}{s t:List Nat}(h:Wd m s) (ht:Sg t) (hl:t.length<=k):Wd (m+k) (s++t):=⟨fun q=>h.ne (List.append_eq_nil_iff.mp q).1,Q5 h.sg ht,by rw [A6];exact Nat.add_le_add h.len hl⟩
theorem Wd.to {m k:Nat}{s:List Nat}(h:Wd m s) (hk:m<=k):Wd k s:=⟨h.ne,h.sg,A3 h.len hk⟩
noncomputable def ws1:List (List Nat):=[[97],[98,42],[40,99],[100,32,40],[101],[102,32,45],[62,32,103],[104,35],[105,95],[126,106],[107],[108,33],[35,109],[45,32,110],[112,36,113],[35,32,114]]
noncomputable def ws2:List (List Nat):=[[42,40,115],[116,91],[117,96],[118,92],[95,40],[126,40,120],[91],[96],[41],[93],[121,41],[122,93],[97,40,98],[42],[40,40],[92]]
theorem Bh6 {n:Nat}{z odd:Int}{mk:List Nat}{H:Heap}{Q:C2}(h:∀ s G,Wd 5 s->D0 H G->Q (.str s) G):callN P (n+1) "_law_loose_plain" [.int z,.int odd,.str mk] Q H:=by
 refine hV (I0 (H1:=H++[ws1.map V.str]) (v:=.ref H.length) (fun zz h=>h) ?_)
 obtain ⟨s0,hs0,ev0⟩:=Cn5 (C:=callN P n) (ρ:=[some (.int z),some (.int odd),some (.str mk),some (.ref H.length),none]) (H:=H++[ws1.map V.str]) (e:=.var 3) (i:=.var 0) z (n:=16) rfl (by decide) D3 (fun zz h=>h) (fun zz h=>h)
 have p0:Wd 3 s0:=pR (by decide) hs0
 refine C9 ev0 ?_
 clear ev0
 have g1:D0 H (H++[ws1.map V.str]):=.one
 generalize H++[ws1.map V.str]=G1 at g1 ⊢
 have lst:∀ s,Wd 5 s->C6 (callN P n) (U6.drop 3) [some (.int z),some (.int odd),some (.str mk),some (.ref H.length),some (.str s)] (E1 Q) G1:=fun s ps=>by
  refine W0 (T7 (K5 (K4 (fun zz h=>h))) (T7 (K5 (K4 (P5 (R7 (fun zz h=>h) (by decide)) (by decide)))) (S4 (K5 (D9 (fun zz h=>h) (fun zz h=>h) S7))))) ?_ ?_
  ·obtain ⟨s1,hs1,ev1⟩:=Bk4 (C:=callN P n) (ρ:=[some (.int z),some (.int odd),some (.str mk),some (.ref H.length),some (.str s)]) (H:=G1) (es:=[.str [41],.str [121,41],.str [40,122,41],.str [41,119]]) (ws:=[[41],[121,41],[40,122,41],[41,119]]) (i:=.bin .fdiv (.var 0) (.int 256)) (z / 256) (n:=4) rfl (by decide) (fun zz h=>h) (R7 (fun zz h=>h) (by decide))
   exact W7 ev1 fun G g=>h _ _ ((pR (m:=3) (by decide) hs1).to (by decide)) (g1.trans g)
  ·refine W0 (T7 (K5 (K4 (fun zz h=>h))) (T7 (K5 (K4 (P5 (R7 (fun zz h=>h) (by decide)) (by decide)))) (S4 (K5 (D9 (fun zz h=>h) (fun zz h=>h) S7))))) ?_ ?_
   ·obtain ⟨s1,hs1,ev1⟩:=Bk4 (C:=callN P n) (ρ:=[some (.int z),some (.int odd),some (.str mk),some (.ref H.length),some (.str s)]) (H:=G1) (es:=[.str [93],.str [121,93],.str [91],.str [93,119]]) (ws:=[[93],[121,93],[91],[93,119]]) (i:=.bin .fdiv (.var 0) (.int 256)) (z / 256) (n:=4) rfl (by decide) (fun zz h=>h) (R7 (fun zz h=>h) (by decide))
    exact W7 ev1 fun G g=>h _ _ ((pR (m:=3) (by decide) hs1).to (by decide)) (g1.trans g)
   ·refine W0 (T7 (K5 (K4 (fun zz h=>h))) (S4 (K5 (K4 (P5 (R7 (fun zz h=>h) (by decide)) (by decide)))))) ?_ ?_
    ·refine I0 (H1:=G1++[ws2.map V.str]) (v:=.ref G1.length) (fun zz h=>h) ?_
     obtain ⟨s1,hs1,ev1⟩:=Cn5 (C:=callN P n) (ρ:=[some (.int z),some (.int odd),some (.str mk),some (.ref G1.length),some (.str s)]) (H:=G1++[ws2.map V.str]) (e:=.var 3) (i:=.bin .fdiv (.var 0) (.int 256)) (z / 256) (n:=16) rfl (by decide) D3 (fun zz h=>h) (R7 (fun zz h=>h) (by decide))
     refine C9 ev1 ?_
     exact h s1 _ ((pR (m:=3) (by decide) hs1).to (by decide)) (g1.trans .one)
    ·exact h s G1 ps g1
 refine W0 ?_ ?_ ?_
 ·exact T7 (K5 (D9 (fun zz h=>h) (fun zz h=>h) S7)) (S4 (K5 (K4 (P5 (R7 (fun zz h=>h) (by decide)) (by decide)))))
 ·exact C9 (Q0 (fun zz h=>h) P0 (A3 (p0.add (t:=[41,93]) (k:=2) (cP (by decide)) (by decide)).len (by decide))) (lst _ (p0.add (t:=[41,93]) (k:=2) (cP (by decide)) (by decide)))
 ·exact lst _ (p0.to (by decide))
noncomputable def ex (odd:Int):Nat:=if odd=2∨odd=13 then 10 else 6
noncomputable def ML (e:Nat):Nat->Nat
 | 0=>6
 | m+1=>3 * ML e m+e
theorem Da6 (odd:Int):6<=ex odd/\ex odd<=10:=by
 unfold ex
 by_cases h:odd=2∨odd=13
 ·rw [if_pos h];exact ⟨by decide,by decide⟩
 ·rw [if_neg h];exact ⟨by decide,by decide⟩
theorem tQ {e:Nat}:∀ m,6<=ML e m
 | 0=>A4 _
 | m+1=>by
  show 6<=3 * ML e m+e
  have:=tQ (e:=e) m
  exact G9 this
theorem Bc2 {e e':Nat}(h:e<=e'):∀ m,ML e m<=ML e' m
 | 0=>A4 _
 | m+1=>Nat.add_le_add (Nat.mul_le_mul_left 3 (Bc2 h m)) h
theorem Ck5 {e:Nat}:∀ m,ML e m<=ML e (m+1)
 | m=>by show ML e m<=3 * ML e m+e;exact fG
theorem Co5 {e:Nat}{m:Nat}:∀ k,ML e m<=ML e (m+k)
 | 0=>A4 _
 | k+1=>A3 (Co5 k) (Ck5 _)
theorem pY {odd:Int}{m:Nat}(h:m<=5):3 * ML (ex odd) m<=8004:=by
 obtain ⟨k,e⟩:∃ k,m+k=5:=⟨5 - m,by exact Nat.add_sub_cancel' (G9 h)⟩
 have h1:=Co5 (e:=ex odd) (m:=m) k
 rw [e] at h1
 exact A3 (Nat.mul_le_mul_left 3 (A3 h1 (Bc2 (Da6 odd).2 5))) (by decide)
structure PT1 (e m:Nat) (t:T):Prop where
 lt:LT t
 len:(rowT t).length<=ML e m
 fit:J3 W (2 * m+19) (enc t)
 tx:∀ s,t=.txt s->s.length<=5
structure PB (e m:Nat) (ts:List T):Prop where
 lt:iD ts
 len:(rowTs ts).length<=3 * ML e m
 fit:∀ t∈ts,J3 W (2 * m+19) (enc t)
structure Cq2 (odd:Int) (ts ts':List T):Prop where
 lt:iD ts'
 len:(rowTs ts').length<=(rowTs ts).length+(if odd=2 then 4 else 0)
 fit:∀ t∈ts',t∈ts∨J3 W 19 (enc t)
theorem Cj5 {ts:List T}{t:T}(h:iD ts) (h1:LT t) (h2:(rowT t).length<=4) (h3:J3 W 19 (enc t)):Cq2 2 ts (ts++[t]):=⟨h.add h1,by
 rw [L9,A6,K1,if_pos rfl];exact Nat.add_le_add_left h2 _,fun u hu=>(List.mem_append.mp hu).elim Or.inl fun q=>Or.inr (by rw [List.mem_singleton.mp q];exact h3)⟩
theorem Cj4 {k:Nat}(h:(k:Int)<5):k=0∨k=1∨k=2∨k=3∨k=4:=Cb7 (Nat.lt_succ_iff.mp (Int.ofNat_lt.mp h))
theorem Bp7 {n a lo:Nat}{ts:List T}{z odd:Int}{H:Heap}{Q:C2}(hlo:lo<=H.length) (hr:I1 H (.lst (encs ts)) lo H.length (.ref a)) (hlt:iD ts) (hl:ts.length<=100000)
  (h:∀ ts' b G,D0 H G->I1 G (.lst (encs ts')) lo G.length (.ref b)->Cq2 odd ts ts'->Q (.ref b) G):callN P (n+1) "_law_loose_end" [.ref a,.int z,.int odd] Q H:=by
 have same:Q (.ref a) H:=h ts a H .refl hr ⟨hlt,B4 _ _,fun t ht=>Or.inl ht⟩
 refine lY ?_
 by_cases ho:odd=2
 ·subst ho
  refine W0 ?_ ?_ ?_
  ·exact Ak3 (K5 (cW (fun zz h=>h))) (pF (K5 (fQ (P5 (fun zz h=>h) (by decide)))))
  ·exact same
  ·obtain ⟨a',l,p,q,e,hb,ha,hrl⟩:=hr
   cases e
   have hll:l.length<=100000:=by rw [hrl.len,Q6];exact hl
   refine I0 (H1:=H++[[]]++[[V.str [119]]]++[[Z7 [],cQ [119] false,V1 42 H.length false,J6 (H++[[]]:Heap).length none false]]) (v:=.ref (H++[[]]++[[V.str [119]]]:Heap).length) (fun zz h=>h) (N9 ?_)
   have q1:(H++[[]]:Heap)[H.length]? = some []:=D3
   have q2:(H++[[]]++[[V.str [119]]]:Heap)[(H++[[]]:Heap).length]? = some [.str [119]]:=D3
   have g0:D0 H (H++[[]]):=.one
   have g1:D0 (H++[[]]) (H++[[]]++[[V.str [119]]]):=.one
   have g2:D0 (H++[[]]++[[V.str [119]]]) (H++[[]]++[[V.str [119]]]++[[Z7 [],cQ [119] false,V1 42 H.length false,J6 (H++[[]]:Heap).length none false]]):=.one
   have q3:(H++[[]]++[[V.str [119]]]++[[Z7 [],cQ [119] false,V1 42 H.length false,J6 (H++[[]]:Heap).length none false]]:Heap)[(H++[[]]++[[V.str [119]]]:Heap).length]? = some [Z7 [],cQ [119] false,V1 42 H.length false,J6 (H++[[]]:Heap).length none false]:=D3
   have l1:=D2 q1
   have l2:=D2 q2
   have l0:H.length<(H++[[]]:Heap).length:=l1
   generalize H++[[]]++[[V.str [119]]]++[[Z7 [],cQ [119] false,V1 42 H.length false,J6 (H++[[]]:Heap).length none false]]=H1 at q3 g2 ⊢
   replace q2:=g2.get q2
   replace q1:=(g1.trans g2).get q1
   replace g2:=g1.trans g2
   generalize (H++[[]]++[[V.str [119]]]:Heap).length=a3 at q3 ⊢
   have gH:=g0.trans g2
   have hb2:H.length<=(H++[[]]:Heap).length:=B5 l0
   generalize (H++[[]]:Heap).length=b2 at q2 q3 hb2 ⊢
   clear l0 l1 l2 g0 g1 g2
   refine iJ (Z6 rfl (U0 (J1 (mG (iJ (Z6 rfl ?_))))))
   refine dD (H:=H1++[[]]++[[J6 H1.length (some [119]) false]]) (b:=(H1++[[]]).length) (mJ.get q3) D3 (by show 4+1<=I3;decide) ?_
   obtain ⟨k,hk,e0⟩:=M7 (z / 3) (n:=5) (by decide)
   refine (e0▸P5 (R7 (z:=z) (by exact fun zz h=>h) (by decide)) (by decide)) _ ?_
   have q4:(H1++[[]]:Heap)[H1.length]? = some []:=D3
   have g3:D0 H1 (H1++[[]]):=.one
   have g4:D0 (H1++[[]]) (H1++[[]]++[[J6 H1.length (some [119]) false]]++[[Z7 [],cQ [119] false,V1 42 H.length false,J6 b2 none false]++[J6 H1.length (some [119]) false]]):=mJ
   have q5:(H1++[[]]++[[J6 H1.length (some [119]) false]]++[[Z7 [],cQ [119] false,V1 42 H.length false,J6 b2 none false]++[J6 H1.length (some [119]) false]]:Heap)[(H1++[[]]++[[J6 H1.length (some [119]) false]]).length]? = some [Z7 [],cQ [119] false,V1 42 H.length false,J6 b2 none false,J6 H1.length (some [119]) false]:=D3
   show val (X1 (.ref (H1++[[]]++[[J6 H1.length (some [119]) false]]).length) (.int (k:Nat)) _) _ _
   generalize H1++[[]]++[[J6 H1.length (some [119]) false]]++[[Z7 [],cQ [119] false,V1 42 H.length false,J6 b2 none false]++[J6 H1.length (some [119]) false]]=H2 at g4 q5 ⊢
   generalize (H1++[[]]++[[J6 H1.length (some [119]) false]]).length=a5 at q5 ⊢
   replace q4:=g4.get q4
   have g5:=g3.trans g4
   replace q1:=g5.get q1
   replace q2:=g5.get q2
   have gG:=gH.trans g5
   have hb4:H.length<=H1.length:=gH.len
   have fin:∀ t v,LT t->(rowT t).length<=4->J3 W 19 (enc t)->I1 H2 (enc t) lo H2.length v->X1 (.ref a5) (.int (k:Nat)) H2=some v->val (X1 (.ref a5) (.int (k:Nat)) H2) (fun w H₁=>S2 (callN P n) [] [some (.ref a),some (.int z),some (.int 2),some (.ref a3)] (fun vs H₂=>res (aO .add (.ref a) (.ref H₂.length) (H₂++[w::vs])) (fun v H₁=>E1 Q (.ret v) [some (.ref a),some (.int z),some (.int 2),some (.ref a3)] H₁)) H₁) H2:=fun t v t1 t2 t3 t4 t5=>by
    rw [t5]
    show res (aO .add (.ref a) (.ref H2.length) (H2++[[v]])) _
    have g6:D0 H2 (H2++[[v]]):=.one
    refine dD (l:=l) (r:=[v]) ((gG.trans g6).get ha) D3 (A3 (Nat.add_le_add_right hll 1) (by show 100001<=16777216;decide)) ?_
    have g7:D0 (H2++[[v]]) (H2++[[v]]++[l++[v]]):=.one
    have g8:=(gG.trans g6).trans g7
    refine h (ts++[t]) _ _ g8 (J7 (p:=lo) (q:=(H2++[[v]]++[l++[v]]:Heap).length) ⟨A3 hlo (gG.trans g6).len,D2 (D3 (A:=H2++[[v]]) (x:=l++[v])),A4 _,A4 _⟩ D3 ?_) (Cj5 hlt t1 t2 t3)
    rw [qO]
    refine E8.app0 (.one (A3 hlo g8.len) ((t4.grow (g6.trans g7) (A4 _)).wide (A4 _) (g6.trans g7).len)) ((hrl.grow g8 hb.qh).wide hb.lp (A3 hb.qh g8.len))
   have bd:∀ {b:Nat},H.length<=b->b<H2.length->Bd lo H2.length b lo lo:=fun h1 h2=>⟨A3 hlo h1,h2,A4 _,A3 hlo (A3 h1 (B5 h2))⟩
   have ll:∀ {b:Nat}{x:List V},H2[b]? = some x->b<H2.length:=fun h=>D2 h
   have hle:lo<=H2.length:=A3 hlo gG.len
   rcases Cj4 hk with rfl | rfl | rfl | rfl | rfl
   ·exact fin (.kept []) (Z7 []) ⟨B0 _,fun c hc=>nomatch hc⟩ (by decide) bB (aX hle) (L0 q5 rfl)
   ·exact fin (.code [119] false) (cQ [119] false) (cP (by decide)) (by decide) dT (aY hle) (L0 q5 rfl)
   ·exact fin (.span 42 [] false) (V1 42 H.length false) ⟨rfl,trivial⟩ (by decide) (dS (m:=17) (B0 _) fun t ht=>nomatch ht) (jH (bd (A4 _) (ll q1)) q1 (.nil (A4 _))) (L0 q5 rfl)
   ·exact fin (.link [.txt [119]] none false) (J6 b2 none false) ⟨fun s q=>(nomatch q),⟨⟨fun q=>(nomatch q),cP (by decide)⟩,trivial⟩⟩ (by decide) (bA (m:=17) (by show 1<=1000000;decide) fun t ht=>by rw [List.mem_singleton.mp ht];exact U2) (dP (bd hb2 (ll q2)) q2 (.one (A4 _) rfl)) (L0 q5 rfl)
   ·exact fin (.link [] (some [119]) false) (J6 H1.length (some [119]) false) ⟨fun s q=>(by cases q;exact cP (by decide)),trivial⟩ (by decide) (bA (m:=17) (B0 _) fun t ht=>nomatch ht) (dP (bd hb4 (ll q4)) q4 (.nil (A4 _))) (L0 q5 rfl)
 ·exact C5 (K3 (b:=true) (b2:=true) (G6 (cW (fun zz h=>h)) (by simpa using ho)) fun q=>nomatch q) same
section
variable {C:Calls}{ρ:D7}{H:Heap}
noncomputable def vZ (C:Calls) (ρ:D7) (H:Heap) (e:E):Prop:=∀ Q:C2,(∀ b G,D0 H G->Q (.bool b) G)->E2 C e ρ Q H
theorem Cq1 {e:E}{b:Bool}(h:W5 C ρ H e (.bool b) (D0 H)):vZ C ρ H e:=fun Q k=>h Q fun G g=>k b G g
theorem Bj6 {e:E}(h:sU C ρ H e):vZ C ρ H e:=fun Q k=>h.elim fun b h=>h Q (k b H .refl)
theorem pX {e f:E}{es:List E}(h1:vZ C ρ H e) (h2:∀ G,D0 H G->vZ C ρ G (.and (f::es))):vZ C ρ H (.and (e::f::es)):=fun Q k=>h1 _ fun b G g=>by
 cases b with
 | true=>exact h2 G g Q fun b G' g'=>k b G' (g.trans g')
 | false=>exact k false G g
theorem Bq2 {R:E6}{ss t f:List S}{c:E}(h:vZ C ρ H c) (ht:∀ G,D0 H G->C6 C t ρ (M6 C ss R) G) (hf:∀ G,D0 H G->C6 C f ρ (M6 C ss R) G):C6 C (.ite c t f::ss) ρ R H:=h _ fun b G g=>by
 cases b with
 | true=>exact ht G g
 | false=>exact hf G g
end
theorem Cx4 {H:Heap}{ts:List T}{c lo hi a:Nat}{b:Bool}(h:I1 H (.lst (encs ts)) lo hi (.ref a)):I1 H (enc (.span c ts b)) lo hi (V1 c a b):=by
 obtain ⟨a',l,p,q,e,hb,ha,hrl⟩:=h
 cases e
 exact jH hb ha hrl
theorem Cx5 {H:Heap}{ts:List T}{g:Option (List Nat)}{lo hi a:Nat}{b:Bool}(h:I1 H (.lst (encs ts)) lo hi (.ref a)):I1 H (enc (.link ts g b)) lo hi (J6 a g b):=by
 obtain ⟨a',l,p,q,e,hb,ha,hrl⟩:=h
 cases e
 exact dP hb ha hrl
theorem xH {H:Heap}{t:T}{lo:Nat}{v:V}(h:I1 H (enc t) lo H.length v) (hl:lo<=H.length):I1 (H++[[v]]) (.lst (encs [t])) lo (H++[[v]]).length (.ref H.length) :=
 J7 (p:=lo) (q:=H.length) ⟨hl,D2 D3,A4 _,D0.one.len⟩ D3 (.one hl (h.grow .one (A4 _)))
structure DZ where
 a:Nat
 ts:List T
 e:Option V
theorem De6 {e:Nat}:44<=3 * ML e 5:=by
 have h1:=tQ (e:=e) 4
 show 44<=3 * (3 * ML e 4+e)
 lia
theorem Cz3 {C:Calls}{ρ:D7}{H:Heap}{es:List E}{i:E}{ws:List (List Nat)}{k:Nat}(hk:k<ws.length) (hs:Evs C ρ H es (ws.map V.str)) (hi:Ev C ρ (H++[ws.map V.str]) i (.int (k:Nat))):W5 C ρ H (.idx (.list es) i) (.str ws[k]) (D0 H):=by
 have hg:(ws.map V.str)[k]? = some (.str ws[k]):=by rw [C0,List.getElem?_eq_getElem hk];rfl
 refine fun Q q=>mG (U0 (hs (fun vs H₁=>E2 C i ρ (fun vi H₂=>val (X1 (.ref H₁.length) vi H₂) Q H₂) (H₁++[vs])) (hi _ ?_)))
 show val (X1 (.ref H.length) (.int (k:Nat)) (H++[ws.map V.str])) Q _
 rw [L0 D3 hg]
 exact q _ .one
theorem Cj7 {n:Nat}{z odd:Int}{e:Nat}{H:Heap}{Q:C2}(h:∀ ts a G,PB e 5 ts->D0 H G->I1 G (.lst (encs ts)) H.length G.length (.ref a)->Q (.ref a) G):callN P (n+1) "_law_deep_parts" [.int z,.int odd] Q H:=by
 obtain ⟨k2,hk2,e2⟩:=M7 z (n:=2) (by decide)
 obtain ⟨k3,hk3,e3⟩:=M7 (z / 2) (n:=3) (by decide)
 obtain ⟨j,hj,ej⟩:∃ j:Nat,j<=1/\(if (odd==11)=true then (1:Int) else 0)=(j:Int):=by
  by_cases q:(odd==11)=true
  ·exact ⟨1,A4 _,by rw [if_pos q];rfl⟩
  ·exact ⟨0,B0 _,by rw [if_neg q];rfl⟩
 have evm:∀ {C:Calls},Ev C [some (.int z),some (.int odd),none,none,none] H (.bin .add (.bin .add (.int 11) (.bin .mod (.var 0) (.int 2))) (.toInt (.cmp .eq (.var 1) (.int 11)))) (.int ((11+k2+j:Nat):Int)):=iB (I5 (I5 (fun zz h=>h) (P5 (fun zz h=>h) (by decide)) Q3) (O3 (K4 (fun zz h=>h))) Q3) (by rw [e2,ej];rfl)
 refine kF (C9 evm ?_)
 have hm:11+k2+j<=13:=by exact G9 (I6 ((Int.ofNat_lt (m:=2)).mp hk2) hj)
 generalize 11+k2+j=many at hm
 obtain ⟨b,hb⟩:sU (callN P n) [some (.int z),some (.int odd),some (.int (many:Nat)),none,none] (H++[([[112],[113,42,40,114,91],[115]]:List (List Nat)).map V.str]) (.or [.cmp .eq (.var 2) (.int 12),.cmp .eq (.var 1) (.int 11)]):=Ak3 (K5 (K4 (fun zz h=>h))) (pF (K5 (K4 (fun zz h=>h))))
 obtain ⟨kk,hkk,ek⟩:∃ kk:Nat,kk<3/\(k3:Int) * (if b=true then 1 else 0)=(kk:Int):=by
  cases b with
  | true=>exact ⟨k3,Int.ofNat_lt.mp hk3,by simp⟩
  | false=>exact ⟨0,by decide,by simp⟩
 have evi:=Cz3 (C:=callN P n) (ρ:=[some (.int z),some (.int odd),some (.int (many:Nat)),none,none]) (H:=H) (es:=[.str [112],.str [113,42,40,114,91],.str [115]]) (i:=.bin .mul (.bin .mod (.bin .fdiv (.var 0) (.int 2)) (.int 3)) (.toInt (.or [.cmp .eq (.var 2) (.int 12),.cmp .eq (.var 1) (.int 11)]))) (ws:=[[112],[113,42,40,114,91],[115]]) (k:=kk) hkk (fun zz h=>h) (iB (I5 (P5 (R7 (fun zz h=>h) (by decide)) (by decide)) (O3 hb) (Al3 (Or.inr (by cases b<;>decide)))) (by rw [e3,ek]))
 have ws0:Wd 5 ([[112],[113,42,40,114,91],[115]]:List (List Nat))[kk]:=pR (by decide) (List.getElem_mem hkk)
 generalize ([[112],[113,42,40,114,91],[115]]:List (List Nat))[kk]=s at evi ws0
 refine P2 (U0 (J1 (evi _ fun G1 g1=>G8 ?_)))
 refine H5 (dF (σ:=DZ) (fun y=>[some (.int z),some (.int odd),some (.int (many:Nat)),some (.ref y.a),y.e]) (fun i y G=>D0 H G/\I1 G (.lst (encs y.ts)) H.length G.length (.ref y.a)/\iD y.ts/\(rowTs y.ts).length<=5+3 * i/\(∀ t∈y.ts,J3 W (2 * i+1) (enc t))/\y.ts.length=1) (n:=many) (A9 hm (by decide)) (fun i y G hi hI K hK=>?_) (fun y G hI=>?_) ⟨G1.length,[.txt s],none⟩ (by exact fun zz h=>h) ⟨g1.trans .one,xH (t:=.txt s) rfl g1.len,⟨⟨ws0.ne,ws0.sg⟩,trivial⟩,by rw [K1];exact ws0.len,fun t ht=>by rw [List.mem_singleton.mp ht];exact U2,rfl⟩)
 ·obtain ⟨g,hr,hl,hn,hf,h1⟩:=hI
  have h1W:y.ts.length<=W:=by rw [h1];show 1<=1000000;decide
  refine W0 ?_ ?_ ?_
  ·exact K5 (K4 (P5 (I5 (R7 (fun zz h=>h) (by decide)) (fun zz h=>h) Q3) (by decide)))
  ·refine hK ⟨G.length,[.span 95 y.ts true],_⟩ _ ⟨g.trans .one,xH (t:=.span 95 y.ts true) (Cx4 hr) g.len,⟨⟨rfl,hl⟩,trivial⟩,?_,fun t ht=>by rw [List.mem_singleton.mp ht];exact dS h1W hf,rfl⟩
   rw [K1]
   show ([95,40]++rowTs y.ts++[41]).length<=_
   rw [A6,A6]
   show 2+_+1<=_
   exact G9 hn
  ·refine hK ⟨G.length,[.link y.ts none true],_⟩ _ ⟨g.trans .one,xH (t:=.link y.ts none true) (Cx5 hr) g.len,⟨⟨fun s q=>(nomatch q),hl⟩,trivial⟩,?_,fun t ht=>by rw [List.mem_singleton.mp ht];exact bA h1W hf,rfl⟩
   rw [K1]
   show ([91]++rowTs y.ts++[93]).length<=_
   rw [A6,A6]
   show 1+_+1<=_
   exact G9 hn
 ·obtain ⟨g,hr,hl,hn,hf,h1⟩:=hI
  exact h y.ts y.a G ⟨hl,A3 hn (A3 (by exact G9 (I6 hm (I6 hm hm))) De6),fun t ht=>(hf t ht).up (A4 _) (by exact G9 (I6 hm hm))⟩ g hr
theorem Cn7 {α:Type}{f:α->V}{xs:List α}{C:Calls}{ρ:D7}{H:Heap}{es:List E}{i:E}(z:Int) {n:Int}(hn:(xs.length:Int)=n) (h0:0<n) (hs:Evs C ρ H es (xs.map f)) (hi:Ev C ρ (H++[xs.map f]) i (.int z)):∃ x∈xs,W5 C ρ H (.idx (.list es) (.bin .mod i (.int n))) (f x) (D0 H):=by
 obtain ⟨k,hk,e0⟩:=M7 z h0
 have hk':k<xs.length:=Int.ofNat_lt.mp (by rw [hn];exact hk)
 have hg:(xs.map f)[k]? = some (f xs[k]):=by rw [C0,List.getElem?_eq_getElem hk'];rfl
 refine ⟨xs[k],List.getElem_mem hk',fun Q q=>mG (U0 (hs (fun vs H₁=>E2 C (.bin .mod i (.int n)) ρ (fun vi H₂=>val (X1 (.ref H₁.length) vi H₂) Q H₂) (H₁++[vs])) ((e0▸P5 hi h0) _ ?_)))⟩
 show val (X1 (.ref H.length) (.int (k:Nat)) (H++[xs.map f])) Q _
 rw [L0 D3 hg]
 exact q _ .one
noncomputable def LPs (m n:Nat):Prop:=∀ (z odd:Int) (deep:Nat) (mk:List Nat) (last:Bool) (H:Heap) (Q:C2),deep+m=5->(∀ ts a G,PB (ex odd) m ts->D0 H G->I1 G (.lst (encs ts)) H.length G.length (.ref a)->Q (.ref a) G)->callN P n "_law_loose_parts" [.int z,.int (deep:Nat),.int odd,.str mk,.bool last] Q H
noncomputable def PQ1 (e m:Nat) (H:Heap) (Q:C2):Prop:=∀ t v G,PT1 e m t->D0 H G->I1 G (enc t) H.length G.length v->Q v G
structure InB (odd:Int) (m:Nat) (ts:List T):Prop where
 lt:iD ts
 len:(rowTs ts).length<=3 * ML (ex odd) m+(if odd=2 then 4 else 0)
 fit:∀ t∈ts,J3 W (2 * m+19) (enc t)
theorem Bp3 {odd:Int}{m:Nat}{ts ts':List T}(h:PB (ex odd) m ts) (k:Cq2 odd ts ts'):InB odd m ts':=⟨k.lt,A3 k.len (Nat.add_le_add_right h.len _),fun t ht=>(k.fit t ht).elim (h.fit t) fun q=>q.up (A4 _) (Nat.le_add_left _ _)⟩
theorem InB.W {odd:Int}{m:Nat}{ts:List T}(h:InB odd m ts) (hm:m<=5):ts.length<=L09.W:=by
 have h1:=pY (odd:=odd) hm
 refine A3 (O8 h.lt).2 (A3 h.len (A3 (Nat.add_le_add h1 (show _<=4 from ?_)) (by show 8008<=1000000;decide)))
 by_cases q:odd=2
 ·rw [if_pos q];exact A4 _
 ·rw [if_neg q];exact B0 _
theorem PB.n {e m:Nat}{odd:Int}{ts:List T}(h:PB (ex odd) m ts) (hm:m<=5):ts.length<=100000:=A3 (O8 h.lt).2 (A3 h.len (A3 (pY hm) (by decide)))
theorem Cs4 {odd:Int}{m c:Nat}{ts:List T}{b:Bool}(h:InB odd m ts) (hm:m<=5) (hc:[42,95,126].contains c=true):PT1 (ex odd) (m+1) (.span c ts b):=by
 refine ⟨⟨hc,h.lt⟩,?_,dS (h.W hm) h.fit,fun s q=>nomatch q⟩
 have h1:=h.len
 have h2:(if b then [41] else ([]:List Nat)).length<=1:=by cases b<;>decide
 have h3:3+(if odd=2 then 4 else 0)<=ex odd:=by
  unfold ex
  by_cases q:odd=2
  ·rw [if_pos q,if_pos (Or.inl q)];decide
  ·rw [if_neg q]
   by_cases r:odd=2∨odd=13
   ·rw [if_pos r];decide
   ·rw [if_neg r];decide
 show ([c,40]++rowTs ts++(if b then [41] else [])).length<=3 * ML (ex odd) m+ex odd
 rw [A6,A6]
 show 2+_+_<=_
 exact G9 (I6 h1 (I6 h3 h2))
theorem Ct9 {odd:Int}{m:Nat}{ts:List T}{g:Option (List Nat)}{b:Bool}(h:InB odd m ts) (hm:m<=5) (hg:∀ s,g=some s->Sg s/\s.length<=(if odd=13 then 4 else 2)):PT1 (ex odd) (m+1) (.link ts g b):=by
 refine ⟨⟨fun s q=>(hg s q).1,h.lt⟩,?_,bA (h.W hm) h.fit,fun s q=>nomatch q⟩
 have h1:=h.len
 have h4:4+(if odd=13 then 4 else 2)+(if odd=2 then 4 else 0)<=ex odd:=by
  unfold ex
  by_cases q:odd=2
  ·rw [if_pos q,if_pos (Or.inl q),if_neg (by rw [q];decide)];decide
  ·rw [if_neg q]
   by_cases r:odd=13
   ·rw [if_pos r,if_pos (Or.inr r)];decide
   ·rw [if_neg r,if_neg (fun k=>k.elim q r)];decide
 cases g with
 | none =>
  have h2:(if b then [93] else ([]:List Nat)).length<=1:=by cases b<;>decide
  show ([91]++rowTs ts++(if b then [93] else [])).length<=3 * ML (ex odd) m+ex odd
  rw [A6,A6]
  show 1+_+_<=_
  exact G9 (I6 h1 (I6 h4 h2))
 | some s =>
  have h2:(if b then [41] else ([]:List Nat)).length<=1:=by cases b<;>decide
  have h3:=(hg s rfl).2
  show ([91]++rowTs ts++[93,40]++s++(if b then [41] else [])).length<=3 * ML (ex odd) m+ex odd
  rw [A6,A6,A6,A6]
  show 1+_+2+_+_<=_
  exact G9 (I6 h1 (I6 h4 (I6 h2 h3)))
theorem Bz8 {n m deep:Nat}{z odd:Int}{last free:Bool}{H:Heap}{Q:C2}(hm:m<=5) (ih:LPs m (n+1)) (hd:deep+1+m=5) (h:PQ1 (ex odd) (m+1) H Q):callN P (n+2) "_law_loose_link" [.int z,.int (deep:Nat),.int odd,.bool last,.bool free] Q H:=by
 refine kE ?_
 obtain ⟨g0,hg0,ev0⟩:=Cn7 (f:=fun g=>aV (gA g)) (xs:=[none,none,some [116],some [117,40],some [],some [118,42]]) (C:=callN P (n+1)) (ρ:=[some (.int z),some (.int (deep:Nat)),some (.int odd),some (.bool last),some (.bool free),none,none]) (H:=H) (es:=[.none,.none,.str [116],.str [117,40],.str [],.str [118,42]]) (i:=.var 0) z (n:=6) rfl (by decide) (fun zz h=>h) (fun zz h=>h)
 have hg:∀ s,g0=some s->Sg s/\s.length<=2:=by
  simp only [List.mem_cons,List.not_mem_nil,or_false] at hg0
  rcases hg0 with rfl | rfl | rfl | rfl | rfl | rfl<;>intro s q<;>cases q<;>exact ⟨cP (by decide),by decide⟩
 refine Bf7 ev0 fun G1 g1=>?_
 have go:∀ g,(∀ s,g=some s->Sg s/\s.length<=(if odd=13 then 4 else 2))->C6 (callN P (n+1)) (V7.drop 2) [some (.int z),some (.int (deep:Nat)),some (.int odd),some (.bool last),some (.bool free),some (aV (gA g)),none] (E1 Q) G1:=fun g hg'=>by
  obtain ⟨bl,hbl⟩:sU (callN P (n+1)) [some (.int z),some (.int (deep:Nat)),some (.int odd),some (.bool last),some (.bool free),some (aV (gA g)),none] G1 (.and [.var 3,.var 4,.is (.var 5) .none]):=T7 (K5 (b:=last) (fun zz h=>h)) (T7 (K5 (b:=free) (fun zz h=>h)) (S4 (K5 (Bi9 (fun zz h=>h)))))
  refine M8 (vs:=[.int (z / 12),.int ((deep+1:Nat):Int),.int odd,.str [91],.bool bl]) (C4 (R7 (fun zz h=>h) (by decide)) (C4 (fun zz h=>h) (C4 (fun zz h=>h) (C4 (fun zz h=>h) (C4 hbl J5))))) (ih (z / 12) odd (deep+1) [91] bl G1 _ hd fun ts a G2 pb g2 hr=>?_)
  refine N9 (W8 (H9 (v:=.str [108,105,110,107]) (fun zz h=>h) (aB (vs:=[.ref a,.int (z / 6),.int odd]) (C4 (fun zz h=>h) (C4 (R7 (fun zz h=>h) (by decide)) (C4 (fun zz h=>h) J5))) (Bp7 (lo:=G1.length) (ts:=ts) g2.len hr pb.lt (pb.n (e:=0) hm) fun ts' b G3 g3 hr3 he=>H9 (v:=aV (gA g)) (fun zz h=>h) (H9 (v:=.bool (!free)) (fun zz h=>h) (G8 ?_))))))
  have g13:=g1.trans (g2.trans g3)
  exact h (.link ts' g (!free)) _ G3 (Ct9 (Bp3 pb he) hm hg') g13 (Cx5 (hr3.wide g1.len (A4 _)))
 have cnd:∀ {g:Option (List Nat)}{b3:Bool},Ev (callN P (n+1)) [some (.int z),some (.int (deep:Nat)),some (.int odd),some (.bool last),some (.bool free),some (aV (gA g)),none] G1 (.isnot (.var 5) .none) (.bool b3)->Ev (callN P (n+1)) [some (.int z),some (.int (deep:Nat)),some (.int odd),some (.bool last),some (.bool free),some (aV (gA g)),none] G1 (.and [.cmp .eq (.var 2) (.int 13),.cmp .eq (.bin .mod (.bin .fdiv (.var 0) (.int 6)) (.int 2)) (.int 1),.isnot (.var 5) .none]) (.bool (odd==13&&(z / 6 % 2==1&&b3))):=fun h3=>D1 (K4 (fun zz h=>h)) fun zz=>D1 (K4 (P5 (R7 (fun zz h=>h) (by decide)) (by decide))) fun zz=>H8 h3
 cases g0 with
 | none=>exact C1 (G6 (cnd (g:=none) (b3:=false) (fun zz h=>h)) (by rw [Bool.and_false,Bool.and_false])) (go none fun s q=>nomatch q)
 | some s =>
  have hs:=hg s rfl
  by_cases h13:odd=13
  ·refine W0 ⟨_,cnd (g:=some s) (b3:=true) (fun zz h=>h)⟩ ?_ ?_
   ·refine C9 (Q0 (a:=s) (b:=[41,119]) (fun zz h=>h) P0 (by rw [A6];exact A3 (Nat.add_le_add_right hs.2 2) (by decide))) (go (some (s++[41,119])) fun s' q=>?_)
    cases q
    rw [if_pos h13,A6]
    exact ⟨Q5 hs.1 (cP (by decide)),Nat.add_le_add_right hs.2 2⟩
   ·refine go (some s) fun s' q=>?_
    cases q
    rw [if_pos h13]
    exact ⟨hs.1,A3 hs.2 (by decide)⟩
  ·refine C1 (G6 (cnd (g:=some s) (b3:=true) (fun zz h=>h)) (by rw [show (odd==13)=false by simpa using h13];rfl)) (go (some s) fun s' q=>?_)
   cases q
   rw [if_neg h13]
   exact hs
theorem Au9 {e m:Nat}{t:T}(h:LT t) (hl:(rowT t).length<=6) (hf:J3 W 19 (enc t)) (hx:∀ s,t=.txt s->s.length<=5):PT1 e m t:=⟨h,A3 hl (tQ m),hf.up (A4 _) (Nat.le_add_left _ _),hx⟩
noncomputable def LP1 (m n:Nat):Prop:=∀ (z odd:Int) (deep:Nat) (mk:List Nat) (last:Bool) (H:Heap) (Q:C2),deep+m=5->PQ1 (ex odd) m H Q->callN P n "_law_loose_part" [.int z,.int (deep:Nat),.int odd,.str mk,.bool last] Q H
theorem Az4 {n m:Nat}(ih:∀ m',m=m'+1->∀ k,LPs m' (n+1+k)):LP1 m (n+3):=by
 intro z odd deep mk last H Q hd h
 refine kD (C9 (P5 (z:=z) (fun zz h=>h) (by decide)) (C9 (R7 (z:=z) (fun zz h=>h) (by decide)) ?_))
 obtain ⟨bf,hbf⟩:sU (callN P (n+2)) [some (.int z),some (.int (deep:Nat)),some (.int odd),some (.str mk),some (.bool last),some (.int (z % 9)),some (.int (z / 27)),none,none] H (.and [.cmp .eq (.bin .mod (.bin .fdiv (.var 0) (.int 9)) (.int 3)) (.int 0),.or [.var 4,.and [.cmp .eq (.var 2) (.int 2),.cmp .eq (.bin .mod (.var 6) (.int 5)) (.int 0)]]]):=T7 (K5 (K4 (P5 (R7 (fun zz h=>h) (by decide)) (by decide)))) (S4 (Ak3 (K5 (b:=last) (fun zz h=>h)) (pF (T7 (K5 (K4 (fun zz h=>h))) (S4 (K5 (K4 (P5 (fun zz h=>h) (by decide)))))))))
 refine C9 hbf ?_
 generalize z / 27=more
 refine W0 ?_ ?_ ?_
 ·exact T7 (K5 (K4 (fun zz h=>h))) (T7 (K5 (K4 (P5 (R7 (fun zz h=>h) (by decide)) (by decide)))) (S4 (Ak3 (K5 (b:=last) (fun zz h=>h)) (pF (K5 (K4 (fun zz h=>h)))))))
 ·exact h (.kept []) _ H (Au9 ⟨B0 _,fun c hc=>nomatch hc⟩ (by decide) bB fun s q=>nomatch q) .refl (aX (A4 _))
 refine W0 ?_ ?_ ?_
 ·exact K5 (K4 (fun zz h=>h))
 ·obtain ⟨c,hc,ev⟩:=Cn6 (C:=callN P (n+2)) (ρ:=[some (.int z),some (.int (deep:Nat)),some (.int odd),some (.str mk),some (.bool last),some (.int (z % 9)),some (.int more),some (.bool bf),none]) (H:=H) (i:=.var 6) (w:=[97,42,40,92,96,93,41]) more (n:=7) rfl (by decide) (fun zz h=>h)
  have hs:Sg [c]:=fun x hx=>by
   rw [List.mem_singleton.mp hx]
   exact List.all_eq_true.mp (show ([97,42,40,92,96,93,41]:List Nat).all sgB=true by decide) c hc
  exact E0 (T6 (C4 (fun zz h=>h) (C4 ev J5))) (h (.kept [c]) _ H (Au9 ⟨A4 _,hs⟩ (by show 2<=6;decide) bB fun s q=>nomatch q) .refl (aX (A4 _)))
 refine W0 ?_ ?_ ?_
 ·exact K5 (K4 (fun zz h=>h))
 ·obtain ⟨s,hs,ev⟩:=Bk4 (C:=callN P (n+2)) (ρ:=[some (.int z),some (.int (deep:Nat)),some (.int odd),some (.str mk),some (.bool last),some (.int (z % 9)),some (.int more),some (.bool bf),none]) (H:=H) (es:=[.str [],.str [97,42,40],.str [98,41],.str [91,100],.str [99]]) (ws:=[[],[97,42,40],[98,41],[91,100],[99]]) (i:=.var 6) more (n:=5) rfl (by decide) (fun zz h=>h) (fun zz h=>h)
  have h1:Sg s/\s.length<=3:=by
   have:=List.all_eq_true.mp (show ([[],[97,42,40],[98,41],[91,100],[99]]:List (List Nat)).all (fun s=>s.all sgB&&decide (s.length<=3))=true by decide) s hs
   exact ⟨cP (C3 this).1,of_decide_eq_true (C3 this).2⟩
  refine N9 (W8 (H9 (v:=.str [99,111,100,101]) (fun zz h=>h) (J1 (iJ (ev _ fun G g=>?_)))))
  obtain ⟨b,hb⟩:sU (callN P (n+2)) [some (.int z),some (.int (deep:Nat)),some (.int odd),some (.str mk),some (.bool last),some (.int (z % 9)),some (.int more),some (.bool bf),none] G (.and [.cmp .eq (.var 2) (.int 13),.cmp .eq (.bin .mod (.var 6) (.int 2)) (.int 1)]):=T7 (K5 (K4 (fun zz h=>h))) (S4 (K5 (K4 (P5 (fun zz h=>h) (by decide)))))
  refine (I5 (P0 (i:=[96])) (O3 hb) Bj5) _ ?_
  have h2:(if b then [96] else ([]:List Nat)).length<=1:=by cases b<;>decide
  have h3:(if bf then ([]:List Nat) else [96]).length<=1:=by cases bf<;>decide
  have e:aO .add (.str s) (.str (if b then [96] else [])) G=some (.str (s++(if b then [96] else [])),G):=Y1 (A3 (Nat.add_le_add h1.2 h2) (by show 4<=16777216;decide))
  show res (aO .add (.str s) (.str (if b then [96] else [])) G) _
  rw [e]
  show Q (cQ (s++(if b then [96] else [])) (!bf)) G
  refine h (.code (s++(if b then [96] else [])) (!bf)) _ G (Au9 (Q5 h1.1 (zK (by decide))) ?_ dT fun s q=>nomatch q) g (aY g.len)
  show ([96]++(s++(if b then [96] else []))++(if (!bf)=true then [96] else [])).length<=6
  have h4:(if (!bf)=true then [96] else ([]:List Nat)).length<=1:=by cases bf<;>decide
  rw [A6,A6,A6]
  have:=h1.2
  show 1+_+_<=6
  exact G9 (I6 h1.2 (I6 h2 h4))
 have plain:C6 (callN P (n+2)) [.ret (.call "_law_loose_plain" [.var 6,.var 2,.var 3])] [some (.int z),some (.int (deep:Nat)),some (.int odd),some (.str mk),some (.bool last),some (.int (z % 9)),some (.int more),some (.bool bf),none] (E1 Q) H:=tO (fun zz h=>h) (Bh6 fun s G ws g=>h (.txt s) _ G (Au9 ⟨ws.ne,ws.sg⟩ (A3 ws.len (by decide)) U2 fun s' q=>by cases q;exact ws.len) g rfl)
 cases m with
 | zero =>
  refine C5 (G6 (K3 (zJ (fun zz h=>h)) fun zz=>S6 (G6 (fQ (n:=4) (z:=((deep:Nat):Int)) (fun zz h=>h)) (decide_eq_true (by exact Int.ofNat_lt.mpr (G9 (Nat.le_of_eq hd.symm)))))) (Bool.or_true _)) plain
 | succ m =>
  have hm:m<=5:=by exact G9 (Nat.le_of_eq hd)
  have hd':deep+1+m=5:=pG hd
  refine W0 ?_ ?_ ?_
  ·exact Ak3 (K5 (zJ (fun zz h=>h))) (pF (K5 (fQ (fun zz h=>h))))
  ·exact plain
  refine W0 ?_ ?_ ?_
  ·exact K5 (zJ (fun zz h=>h))
  ·refine M8 (vs:=[.int (more / 3),.int ((deep+1:Nat):Int),.int odd,.str [40],.bool (last&&bf)]) (C4 (R7 (fun zz h=>h) (by decide)) (C4 (fun zz h=>h) (C4 (fun zz h=>h) (C4 (fun zz h=>h) (C4 (D1 (b:=last) (b2:=bf) (fun zz h=>h) fun zz=>H8 (fun zz h=>h)) J5))))) (ih m rfl 1 (more / 3) odd (deep+1) [40] (last&&bf) H _ hd' fun ts a G1 pb g1 hr=>?_)
   obtain ⟨c,hc,ev⟩:=Cn6 (C:=callN P (n+2)) (ρ:=[some (.int z),some (.int (deep:Nat)),some (.int odd),some (.str mk),some (.bool last),some (.int (z % 9)),some (.int more),some (.bool bf),some (.ref a)]) (H:=G1) (i:=.var 6) (w:=[42,95,126]) more (n:=3) rfl (by decide) (fun zz h=>h)
   refine N9 (W8 (H9 (v:=.str [115,112,97,110]) (fun zz h=>h) (H9 ev (aB (vs:=[.ref a,.int more,.int odd]) (fun zz h=>h) (Bp7 (lo:=H.length) (ts:=ts) g1.len hr pb.lt (pb.n (e:=0) hm) fun ts' b G2 g2 hr2 he=>?_)))))
   exact h (.span c ts' (!bf)) _ G2 (Cs4 (Bp3 pb he) hm (List.elem_eq_true_of_mem hc)) (g1.trans g2) (Cx4 hr2)
  ·exact tO (ss:=[]) (fun zz h=>h) (Bz8 (n:=n) hm (ih m rfl 0) hd' h)
structure LZ where
 ts:List T
 e7:Option V
 e8:Option V
 e9:Option V
structure LI2 (H:Heap) (e m i:Nat) (ts:List T) (G:Heap):Prop where
 grow:D0 H G
 get:∃ l,G[H.length]? = some l/\E8 G (encs ts) (H.length+1) G.length l
 lt:iD ts
 len:(rowTs ts).length<=i * ML e m
 fit:∀ t∈ts,J3 W (2 * m+19) (enc t)
theorem LI2.add {H G:Heap}{e m i:Nat}{ts:List T}{t:T}{v:V}{l:List V}{G2:Heap}(h:LI2 H e m i ts G) (hl:G[H.length]? = some l) (hr:E8 G (encs ts) (H.length+1) G.length l) (h1:LT t) (h2:(rowT t).length<=ML e m) (h3:J3 W (2 * m+19) (enc t)) (g:D0 G G2) (ht:I1 G2 (enc t) G.length G2.length v):LI2 H e m (i+1) (ts++[t]) (G2.set H.length (l++[v])):=by
 have e:∀ {hi:Nat},T3 G2 (G2.set H.length (l++[v])) (H.length+1) hi:=T3.set (Or.inl (B1 _))
 have hlt:=D2 hl
 refine ⟨⟨by rw [List.length_set];exact A3 h.grow.len g.len,(h.grow.trans g).old.trans (T3.set (Or.inr (A4 _)))⟩,⟨l++[v],tP (g.get hl),?_⟩,h.lt.add h1,?_,fun u hu=>(List.mem_append.mp hu).elim (h.fit u) fun q=>by rw [List.mem_singleton.mp q];exact h3⟩
 ·rw [List.length_set]
  exact E8.addT ((hr.grow g (A4 _)).to e) g.len (ht.to (e.sub hlt (A4 _)))
 ·rw [L9,A6,K1,Nat.succ_mul]
  exact Nat.add_le_add h.len h2
theorem rO {n m:Nat}(hm:m<=5) (hp:LP1 m (n+3)):LPs m (n+4):=by
 intro z odd deep mk last H Q hd h
 refine hX ?_
 have go:C6 (callN P (n+3)) (U7.drop 1) [some (.int z),some (.int (deep:Nat)),some (.int odd),some (.str mk),some (.bool last),none,none,none,none,none] (E1 Q) H:=by
  obtain ⟨k4,hk4,e4⟩:=M7 z (n:=4) (by decide)
  refine I0 (H1:=H++[[]]) (v:=.ref H.length) (fun zz h=>h) (C9 (iB (P5 (z:=z) (fun zz h=>h) (by decide)) (congrArg V.int e4)) ?_)
  have hk3:k4<=3:=Nat.lt_succ_iff.mp (Int.ofNat_lt.mp hk4)
  refine H5 (dF (σ:=LZ) (fun y=>[some (.int z),some (.int (deep:Nat)),some (.int odd),some (.str mk),some (.bool last),some (.ref H.length),some (.int (k4:Nat)),y.e7,y.e8,y.e9]) (fun i y G=>LI2 H (ex odd) m i y.ts G) (n:=k4) (A9 hk3 (by decide)) (fun i y G hi hI K hK=>?_) (fun y G hI=>?_) ⟨[],none,none,none⟩ (by exact fun zz h=>h) ⟨.one,⟨[],D3,.nil (by rw [aL];exact A4 _)⟩,trivial,B0 _,fun t ht=>nomatch ht⟩)
  ·obtain ⟨ts,e7,e8,e9⟩:=y
   obtain ⟨l,hl,hrl⟩:=hI.get
   have hlt:=D2 hl
   have hi3:i<=3:=A3 (B5 hi) hk3
   have hts:ts.length<=100000:=A3 (O8 hI.lt).2 (A3 hI.len (A3 (Nat.mul_le_mul_right _ hi3) (A3 (pY hm) (by decide))))
   have hll:l.length<I3:=A9 (by rw [hrl.len,Q6];exact hts) (by show 100000<16777216;decide)
   have hfl:J3 W (2 * m+20) (.lst (encs ts)):=eX (A3 hts (by show 100000<=1000000;decide)) hI.fit
   obtain ⟨bl,hbl⟩:sU (callN P (n+3)) [some (.int z),some (.int (deep:Nat)),some (.int odd),some (.str mk),some (.bool last),some (.ref H.length),some (.int (k4:Nat)),some (.int (i:Nat)),e8,e9] G (.and [.var 4,.cmp .eq (.var 7) (.bin .sub (.var 6) (.int 1))]):=T7 (K5 (b:=last) (fun zz h=>h)) (S4 (K5 (D9 (fun zz h=>h) (I5 (fun zz h=>h) (fun zz h=>h) Al2) Cm6)))
   refine M8 (vs:=[.int (kN z (i:Nat)),.int (deep:Nat),.int odd,.str mk,.bool bl]) (C4 (C8 (fun zz h=>h) gQ) (C4 (fun zz h=>h) (C4 (fun zz h=>h) (C4 (fun zz h=>h) (C4 hbl J5))))) (hp _ odd deep mk bl G _ hd fun t v G1 pt g1 hrt=>?_)
   have fin:∀ (t':T) (v':V) (G2:Heap) (e:Option V),LT t'->(rowT t').length<=ML (ex odd) m->J3 W (2 * m+19) (enc t')->D0 G1 G2->I1 G2 (enc t') G.length G2.length v'->C6 (callN P (n+3)) [.expr (.append (.var 5) (.var 8))] [some (.int z),some (.int (deep:Nat)),some (.int odd),some (.str mk),some (.bool last),some (.ref H.length),some (.int (k4:Nat)),some (.int (i:Nat)),some v',e] (fO (M6 (callN P (n+3)) [.ret (.var 5)] (E1 Q)) K) G2:=fun t' v' G2 e q1 q2 q3 g2 q4 =>
    J2 (v:=v') (H1:=G2) (fun zz h=>h) (fun zz h=>h) ((g1.trans g2).get hl) hll (hK ⟨ts++[t'],some (.int (i:Nat)),some v',e⟩ _ (hI.add hl hrl q1 q2 q3 (g1.trans g2) q4))
   refine C9 (kQ (by exact fun zz h=>h)) ?_
   have tup:∀ {w:List V},v=.tup w->C6 (callN P (n+3)) [.ite (.and [.var 9,.cmp .ne (.var 5) (.list []),.isinst (.idx (.var 5) (.neg 1)) .str,.cmp .ne (.var 2) (.int 9)]) [.assign 8 (.tup [.str [107,101,112,116],.str [110]])] [.ite (.and [.var 9,.cmp .ne (.var 2) (.int 8),.cmp .ne (.var 5) (.list []),.cmp .eq (.idx (.idx (.var 5) (.neg 1)) (.int 0)) (.str [108,105,110,107]),.is (.idx (.idx (.var 5) (.neg 1)) (.int 2)) .none]) [.assign 8 (.bin .add (.str [120]) (.var 8))] []],.expr (.append (.var 5) (.var 8))] [some (.int z),some (.int (deep:Nat)),some (.int odd),some (.str mk),some (.bool last),some (.ref H.length),some (.int (k4:Nat)),some (.int (i:Nat)),some v,some (.bool (bX v .str))] (fO (M6 (callN P (n+3)) [.ret (.var 5)] (E1 Q)) K) G1:=fun {w} e=>by
    have hfin:=fin t v G1 (some (.bool (bX v .str))) pt.lt pt.len pt.fit .refl hrt
    rw [e] at hfin ⊢
    exact D6 (D1 (b:=false) (b2:=true) (fun zz h=>h) fun q=>nomatch q) (D6 (D1 (b:=false) (b2:=true) (fun zz h=>h) fun q=>nomatch q) hfin)
   cases t with
   | kept s=>exact tup (eT hrt)
   | code s b=>exact tup (eU hrt)
   | span c us b=>obtain ⟨a,ea,_⟩:=eQ hrt;exact tup ea
   | link us g b=>obtain ⟨a,ea,_⟩:=eR hrt;exact tup ea
   | txt s =>
    obtain rfl:v=.str s:=hrt
    have rl:∀ {G':Heap},D0 G1 G'->I1 G' (.lst (encs ts)) H.length G1.length (.ref H.length):=fun {G'} g'=>(J7 (lo:=H.length) (hi:=G1.length) (p:=H.length+1) (q:=G.length) ⟨A4 _,A8 hlt g1.len,B8 _,g1.len⟩ ((g1.trans g').get hl) (hrl.grow (g1.trans g') (A4 _)))
    have fb:∀ {G':Heap},D0 G1 G'->W5 (callN P (n+3)) [some (.int z),some (.int (deep:Nat)),some (.int odd),some (.str mk),some (.bool last),some (.ref H.length),some (.int (k4:Nat)),some (.int (i:Nat)),some (.str s),some (.bool true)] G' (.cmp .ne (.var 5) (.list [])) (.bool (!cO (encs ts=[]))) (D0 G'):=fun {G'} g'=>An1 (a:=H.length) (m:=2 * m+20) (fun zz h=>h) (by exact G9 (I6 hm hm)) hfl (bR hI.lt) (rl g') g'.len
    have e5:∀ {G':Heap}{r:List V}{vl:V},D0 G1 G'->l=r++[vl]->Ev (callN P (n+3)) [some (.int z),some (.int (deep:Nat)),some (.int odd),some (.str mk),some (.bool last),some (.ref H.length),some (.int (k4:Nat)),some (.int (i:Nat)),some (.str s),some (.bool true)] G' (.idx (.var 5) (.neg 1)) vl:=fun {G' r vl} g' el=>F9 (fun zz h=>h) (fun zz h=>h) (gP (by rw [<- el];exact (g1.trans g').get hl))
    have emp:ts=[]->∀ {G':Heap}{f:E}{fs:List E},D0 G1 G'->vZ (callN P (n+3)) [some (.int z),some (.int (deep:Nat)),some (.int odd),some (.str mk),some (.bool last),some (.ref H.length),some (.int (k4:Nat)),some (.int (i:Nat)),some (.str s),some (.bool true)] G' (.and (.cmp .ne (.var 5) (.list [])::f::fs)):=fun q {G' f fs} g'=>Cq1 (gR (h_b (fb g') (by rw [L8 (by rw [q];rfl)];rfl)))
    have c1:vZ (callN P (n+3)) [some (.int z),some (.int (deep:Nat)),some (.int odd),some (.str mk),some (.bool last),some (.ref H.length),some (.int (k4:Nat)),some (.int (i:Nat)),some (.str s),some (.bool true)] G1 (.and [.var 9,.cmp .ne (.var 5) (.list []),.isinst (.idx (.var 5) (.neg 1)) .str,.cmp .ne (.var 2) (.int 9)]):=pX (Bj6 (K5 (b:=true) (fun zz h=>h))) fun Ga ga=>by
     rcases jG hrl with ⟨q,_⟩ | ⟨us,tl,r,vl,eu,el,_,_⟩
     ·exact emp q ga
     ·exact pX (Cq1 (fb ga)) fun Gb gb=>Bj6 (T7 (K5 (kQ (e5 (ga.trans gb) el))) (S4 (K5 (cW (fun zz h=>h)))))
    have c2:∀ Gz,D0 G1 Gz->vZ (callN P (n+3)) [some (.int z),some (.int (deep:Nat)),some (.int odd),some (.str mk),some (.bool last),some (.ref H.length),some (.int (k4:Nat)),some (.int (i:Nat)),some (.str s),some (.bool true)] Gz (.and [.var 9,.cmp .ne (.var 2) (.int 8),.cmp .ne (.var 5) (.list []),.cmp .eq (.idx (.idx (.var 5) (.neg 1)) (.int 0)) (.str [108,105,110,107]),.is (.idx (.idx (.var 5) (.neg 1)) (.int 2)) .none]):=fun Gz gz=>pX (Bj6 (K5 (b:=true) (fun zz h=>h))) fun Ga ga=>pX (Bj6 (K5 (cW (fun zz h=>h)))) fun Gc gc=>by
     rcases jG hrl with ⟨q,_⟩ | ⟨us,tl,r,vl,eu,el,_,hvl⟩
     ·exact emp q ((gz.trans ga).trans gc)
     ·refine pX (Cq1 (fb ((gz.trans ga).trans gc))) fun Gb gb=>Bj6 ?_
      have ev:=e5 (((gz.trans ga).trans gc).trans gb) el
      have ltl:LT tl:=hI.lt.get (i:=us.length) (by rw [eu];simp)
      cases tl with
      | txt s' =>
       obtain rfl:vl=.str s':=hvl
       cases s' with
       | nil=>exact absurd rfl ltl.1
       | cons c s'=>exact ⟨false,G6 (D1 (b:=false) (b2:=true) (G6 (D9 (F9 ev (fun zz h=>h) (cI (i:=0) rfl)) (fun zz h=>h) S7) (beq_eq_false_iff_ne.mpr fun q=>nomatch (List.cons.inj q).2)) fun q=>nomatch q) rfl⟩
      | kept s'=>rw [eT hvl] at ev;exact ⟨false,D1 (b:=false) (b2:=true) (G6 (D9 (F9 ev (fun zz h=>h) rfl) (fun zz h=>h) S7) rfl) fun q=>nomatch q⟩
      | code s' b=>rw [eU hvl] at ev;exact ⟨false,D1 (b:=false) (b2:=true) (G6 (D9 (F9 ev (fun zz h=>h) rfl) (fun zz h=>h) S7) rfl) fun q=>nomatch q⟩
      | span c us' b=>obtain ⟨a,ea,_⟩:=eQ hvl;rw [ea] at ev;exact ⟨false,D1 (b:=false) (b2:=true) (G6 (D9 (F9 ev (fun zz h=>h) rfl) (fun zz h=>h) S7) rfl) fun q=>nomatch q⟩
      | link us' g b=>obtain ⟨a,ea,_⟩:=eR hvl;rw [ea] at ev;exact ⟨_,D1 (b:=true) (G6 (D9 (F9 ev (fun zz h=>h) rfl) (fun zz h=>h) S7) rfl) fun zz=>H8 (Bi9 (F9 (c:=aV (gA g)) ev (fun zz h=>h) rfl))⟩
    refine Bq2 c1 (fun G2 g2=>?_) fun G2 g2=>Bq2 (c2 G2 g2) (fun G3 g3=>?_) fun G3 g3=>?_
    ·exact C9 (T6 (C4 (fun zz h=>h) (C4 (fun zz h=>h) J5))) (fin (.kept [110]) _ G2 _ ⟨A4 _,cP (by decide)⟩ (A3 (by decide) (tQ m)) (bB.up (A4 _) (Nat.le_add_left _ _)) g2 (aX (A3 g1.len g2.len)))
    ·have hs5:=pt.tx s rfl
     have h6:([120]++s).length<=1000000:=by rw [A6];show 1+s.length<=1000000;exact G9 hs5
     refine C9 (Q0 (a:=[120]) (b:=s) P0 (by exact fun zz h=>h) h6) ?_
     exact (fin (.txt ([120]++s)) _ G3 _ ⟨(fun q=>nomatch q),Q5 (a:=[120]) (cP (by decide)) pt.lt.2⟩ (A3 (by show ([120]++s).length<=6;rw [A6];show 1+s.length<=6;exact G9 hs5) (tQ m)) U2 (g2.trans g3) rfl)
    ·exact fin (.txt s) _ G3 _ pt.lt pt.len pt.fit (g2.trans g3) rfl
  ·obtain ⟨l,hl,hrl⟩:=hI.get
   exact h y.ts _ G ⟨hI.lt,A3 hI.len (Nat.mul_le_mul_right _ hk3),hI.fit⟩ hI.grow (kX (k:=0) hl hrl)
 by_cases hz:deep=0
 ·subst hz
  obtain rfl:m=5:=by exact Nat.le_antisymm (G9 hm) (G9 (Nat.le_of_eq hd.symm))
  refine W0 ?_ ?_ ?_
  ·exact T7 (K5 (K4 (z:=((0:Nat):Int)) (fun zz h=>h))) (S4 (K5 (K4 (P5 (R7 (fun zz h=>h) (by decide)) (by decide)))))
  ·exact tO (vs:=[.int (z / 36),.int odd]) (C4 (R7 (fun zz h=>h) (by decide)) (C4 (fun zz h=>h) J5)) (Cj7 fun ts a G pb g hr=>h ts a G pb g hr)
  ·exact go
 ·exact C1 (D1 (b:=false) (b2:=true) (G6 (K4 (z:=((deep:Nat):Int)) (fun zz h=>h)) (by simpa using hz)) fun q=>nomatch q) go
theorem rP:∀ (m n:Nat),m<=5->LPs m (n+3 * m+4)
 | 0,n,hm=>rO hm (Az4 fun m' q=>nomatch q)
 | m+1,n,hm=>rO (n:=n+3 * m+3) hm (Az4 (n:=n+3 * m+3) fun m' q k=>by
   cases q
   have h:=rP m (n+k) (Nat.le_of_succ_le hm)
   rw [show n+k+3 * m+4=n+3 * m+3+1+k by exact Nat.le_antisymm (fG) (fG)] at h
   exact h)
noncomputable def capC (odd:Int):Nat:=3 * ML (ex odd) 5+1
structure CB (odd:Int) (ts:List T):Prop where
 lc:LC ts
 len:(rowTs ts).length<=capC odd
theorem wR (odd:Int):capC odd<=8005:=B3 (pY (A4 _))
theorem zO {odd:Int}{ts:List T}(h1:iD ts) (h2:(rowTs ts).length<=capC odd) (h3:∀ t∈ts,J3 W 29 (enc t)):CB odd ts :=
 ⟨⟨h1,A3 h2 (A3 (wR odd) (by decide)),eX (A3 (O8 h1).2 (A3 h2 (A3 (wR odd) (by show 8005<=1000000;decide)))) h3⟩,h2⟩
theorem PB.cb {odd:Int}{ts:List T}(h:PB (ex odd) 5 ts):CB odd ts:=zO h.lt (Nat.le_succ_of_le h.len) h.fit
theorem xT {n:Nat}{z odd:Int}{H:Heap}{Q:C2}(h:∀ ts a G,PB (ex odd) 5 ts->D0 H G->I1 G (.lst (encs ts)) H.length G.length (.ref a)->Q (.ref a) G):callN P (n+19) "_law_loose_parts" [.int z,.int 0,.int odd,.str [],.bool true] Q H :=
 rP 5 n (A4 _) z odd 0 [] true H Q rfl h
theorem Ct1 {n deep:Nat}{z odd:Int}{H:Heap}{Q:C2}(h:∀ ts a G,CB odd ts->D0 H G->I1 G (.lst (encs ts)) H.length G.length (.ref a)->Q (.ref a) G):callN P (n+34) "_law_loose_row" [.int z,.int (deep:Nat),.int odd] Q H:=by
 have hlim:I3=16777216:=rfl
 refine lX (M8 (fun zz h=>h) (xT (n:=n+14) fun ts a G1 pb g1 hr=>?_))
 have cb:=pb.cb
 have hlen:(rowTs ts).length<=1000000:=A3 cb.lc.len (by decide)
 have hts:ts.length<=8005:=A3 (O8 pb.lt).2 (A3 cb.len (wR odd))
 have ct:sU (callN P (n+33)) [some (.int z),some (.int (deep:Nat)),some (.int odd),some (.ref a)] G1 (.cmp .eq (.idx (.call "_law_cut" [.call "_law_row" [.var 3],.var 1]) (.int 0)) (.str [112,97,114,97])):=K5 (D9 (F9 (C8 (C4 (C8 (fun zz h=>h) fun Q q=>iV 30 (n+2) ts a _ _ G1 Q cb.lc.fit hr hlen q) (C4 (fun zz h=>h) J5)) (Bp8 (n:=n+31))) (fun zz h=>h) kY) (fun zz h=>h) S7)
 refine W0 (Ak3 (T7 (K5 (K4 (fun zz h=>h))) (S4 (K5 (fQ (P5 (R7 (fun zz h=>h) (by decide)) (by decide)))))) (pF ct)) ?_ ?_
 ·exact h ts a G1 cb g1 hr
 have hr':=hr
 obtain ⟨a',l,p,q,e,hb,ha,hrl⟩:=hr
 cases e
 have hll:l.length=ts.length:=hrl.len.trans (Q6 ts)
 have fb:W5 (callN P (n+33)) [some (.int z),some (.int (deep:Nat)),some (.int odd),some (.ref a)] G1 (.cmp .ne (.var 3) (.list [])) (.bool (!cO (encs ts=[]))) (D0 G1):=An1 (m:=30) (by exact fun zz h=>h) (by decide) cb.lc.fit (bR pb.lt) hr' (A4 _)
 have two:∀ G2,D0 G1 G2->C6 (callN P (n+33)) [.ret (.bin .add (.list [.str [122]]) (.var 3))] [some (.int z),some (.int (deep:Nat)),some (.int odd),some (.ref a)] (E1 Q) G2:=fun G2 g2=>by
  refine N9 (iJ (U0 (H9 (v:=.str [122]) (fun zz h=>h) (G8 (Z6 rfl ?_)))))
  have g3:D0 G2 (G2++[[V.str [122]]]):=.one
  refine dD (l:=[.str [122]]) (r:=l) D3 ((g2.trans g3).get ha) (by rw [hll];show 1+_<=_;exact G9 (I6 hts (Nat.le_of_eq hlim.symm))) ?_
  have g4:D0 (G2++[[V.str [122]]]) (G2++[[V.str [122]]]++[[V.str [122]]++l]):=.one
  have g5:=(g2.trans g3).trans g4
  refine h (.txt [122]::ts) _ _ (zO ⟨⟨(fun q=>nomatch q),cP (by decide)⟩,pb.lt⟩ ?_ fun t ht=>?_) (g1.trans g5) (J7 (p:=H.length) (q:=(G2++[[V.str [122]]]++[[V.str [122]]++l]:Heap).length) ⟨(g1.trans (g2.trans g3)).len,D2 (D3 (A:=G2++[[V.str [122]]]) (x:=[V.str [122]]++l)),A4 _,A4 _⟩ D3 ?_)
  ·show ([122]++rowTs ts).length<=_
   rw [A6,Nat.add_comm];exact B3 pb.len
  ·rcases List.mem_cons.mp ht with rfl | ht
   ·exact U2
   ·exact pb.fit t ht
  ·exact ⟨_,_,rfl,rfl,(hrl.grow g5 hb.qh).wide hb.lp (A3 hb.qh g5.len)⟩
 cases ts with
 | nil=>exact S1 (gR (h_b fb (by rw [L8 (show encs []=[] from rfl)];rfl))) two
 | cons t us =>
  obtain ⟨v0,l',rfl,hv0,hrl'⟩:=hrl
  have gv:∀ {G2:Heap},D0 G1 G2->Ev (callN P (n+33)) [some (.int z),some (.int (deep:Nat)),some (.int odd),some (.ref a)] G2 (.idx (.var 3) (.int 0)) v0:=fun g2=>F9 (fun zz h=>h) (fun zz h=>h) (L0 (i:=0) (g2.get ha) rfl)
  have cn:∀ {b:Bool},bX v0 .str=b->W5 (callN P (n+33)) [some (.int z),some (.int (deep:Nat)),some (.int odd),some (.ref a)] G1 (.and [.cmp .ne (.var 3) (.list []),.isinst (.idx (.var 3) (.int 0)) .str]) (.bool b) (D0 G1):=fun {b} e=>pP (h_b fb (by rw [J0 (by exact fun q=>nomatch q)];rfl)) fun G2 g2=>pQ (zA (kL (G6 (kQ (gv g2)) e)) fun G3 g3=>by rw [g3];exact g2)
  cases t with
  | kept s=>rw [eT hv0] at cn;exact S1 (cn rfl) two
  | code s b=>rw [eU hv0] at cn;exact S1 (cn rfl) two
  | span c us' b=>obtain ⟨_,ea,_⟩:=eQ hv0;rw [ea] at cn;exact S1 (cn rfl) two
  | link us' g b=>obtain ⟨_,ea,_⟩:=eR hv0;rw [ea] at cn;exact S1 (cn rfl) two
  | txt s =>
   obtain rfl:v0=.str s:=hv0
   refine V8 (cn rfl) fun G2 g2=>?_
   have hlz:s.length+(rowTs us).length<=3 * ML (ex odd) 5:=by have:=pb.len;rw [show rowTs (.txt s::us)=s++rowTs us from rfl,A6] at this;exact this
   have h6:([122]++s).length<=1000000:=by rw [A6];have:=pY (odd:=odd) (A4 5);show 1+s.length<=1000000;exact G9 (I6 hlz this)
   refine N9 (iJ (U0 (H9 (v:=.str ([122]++s)) (Q0 P0 (gv g2) h6) (G8 ?_))))
   have g3:D0 G2 (G2++[[V.str ([122]++s)]]):=.one
   show res (kK (.ref a) (some 1) none (G2++[[V.str ([122]++s)]])) _
   show res (((G2++[[V.str ([122]++s)]])[a]?).map fun l=>(V.ref (G2++[[V.str ([122]++s)]]).length,(G2++[[V.str ([122]++s)]])++[slice l (some 1) none])) _
   rw [(g2.trans g3).get ha]
   show res (aO .add (.ref G2.length) (.ref (G2++[[V.str ([122]++s)]]).length) (G2++[[V.str ([122]++s)]]++[slice (V.str s::l') (some 1) none])) _
   rw [V6 (by decide),show (V.str s::l').drop (1:Int).toNat=l' from rfl]
   have g4:D0 (G2++[[V.str ([122]++s)]]) (G2++[[V.str ([122]++s)]]++[l']):=.one
   have hl':l'.length<=8005:=A3 (B8 _) (A3 (Nat.le_of_eq hll) hts)
   refine dD (l:=[.str ([122]++s)]) (r:=l') (g4.get D3) D3 (by show 1+l'.length<=_;exact G9 (I6 hl' (Nat.le_of_eq hlim.symm))) ?_
   have g5:D0 (G2++[[V.str ([122]++s)]]++[l']) (G2++[[V.str ([122]++s)]]++[l']++[[V.str ([122]++s)]++l']):=.one
   have g6:=(g2.trans g3).trans (g4.trans g5)
   refine h (.txt ([122]++s)::us) _ _ (zO ⟨⟨(fun q=>nomatch q),Q5 (a:=[122]) (cP (by decide)) pb.lt.1.2⟩,pb.lt.2⟩ ?_ fun t ht=>?_) (g1.trans g6) (J7 (p:=H.length) (q:=(G2++[[V.str ([122]++s)]]++[l']++[[V.str ([122]++s)]++l']:Heap).length) ⟨(g1.trans ((g2.trans g3).trans g4)).len,D2 (D3 (A:=G2++[[V.str ([122]++s)]]++[l']) (x:=[V.str ([122]++s)]++l')),A4 _,A4 _⟩ D3 ?_)
   ·show ([122]++s++rowTs us).length<=3 * ML (ex odd) 5+1
    rw [A6,A6]
    show 1+s.length+_<=_
    exact G9 hlz
   ·rcases List.mem_cons.mp ht with rfl | ht
    ·exact U2
    ·exact pb.fit t (.tail _ ht)
   ·exact ⟨_,_,rfl,rfl,(hrl'.grow g6 hb.qh).wide hb.lp (A3 hb.qh g6.len)⟩
noncomputable def Rk (odd:Int) (k:Nat):Nat:=capC odd+20+k
noncomputable def IWf:Nat->Nat
 | 0=>2
 | 1=>6
 | 2=>14
 | _=>45
noncomputable def Cp5:Nat->Nat
 | 0=>0
 | q+1=>IWf q
structure IB (odd:Int) (q:Nat) (is:List It):Prop where
 li:vW is
 dep:dIs is<=q+1
 fit:J3 W (32+2 * q) (.lst (U9 is))
 wt:∀ k,tot k (rwIs is)<=IWf q * Rk odd k
noncomputable def LIt (q n:Nat):Prop:=∀ (z odd:Int) (least deep:Nat) (H:Heap) (Q:C2),deep+q=3->least<=8+3 * deep->(∀ is a G,IB odd q is->D0 H G->I1 G (.lst (U9 is)) H.length G.length (.ref a)->Q (.ref a) G)->callN P n "_law_loose_items" [.int z,.int (least:Nat),.int (deep:Nat),.int odd] Q H
structure DsB (least c:Nat) (ns:List Int):Prop where
 len:ns.length<=c
 mem:∀ x∈ns,∃ d:Nat,x=(d:Int)/\d<=least+2
theorem Ad9:∀ ns:List Int,intL (ns.map V.int)=some ns
 | []=>rfl
 | x::ns=>by show (intL (ns.map V.int)).map (x::·)=_;rw [Ad9 ns];rfl
theorem Ct2 {G:Heap}{c lo hi a b:Nat}{ts:List T}{sub:List It}(h1:I1 G (.lst (encs ts)) lo hi (.ref a)) (h2:I1 G (.lst (U9 sub)) lo hi (.ref b)) (hh:lo<=hi):I1 G (itE (.it c ts sub)) lo hi (.tup [.int (c:Nat),.ref a,.ref b]):=⟨_,rfl,_,_,rfl,rfl,_,_,rfl,h1,_,_,rfl,h2,hh,rfl⟩
theorem Bz3 {c m:Nat}{ts:List T}{sub:List It}(h1:J3 W m (.lst (encs ts))) (h2:J3 W m (.lst (U9 sub))):J3 W (m+1) (itE (.it c ts sub)):=⟨by show 3<=1000000;decide,fun y hy=>by
 rcases List.mem_cons.mp hy with rfl | hy
 ·exact J3.at
 ·rcases List.mem_cons.mp hy with rfl | hy
  ·exact h1
  ·rw [List.mem_singleton.mp hy];exact h2⟩
structure IZ2 where
 is:List It
 e5:Option V
 e8:Option V
 e9:Option V
structure IV (Hb:Heap) (odd:Int) (q i:Nat) (is:List It) (G:Heap):Prop where
 grow:D0 Hb G
 get:∃ l,G[Hb.length]? = some l/\E8 G (U9 is) (Hb.length+1) G.length l
 li:vW is
 n:is.length<=i
 dep:dIs is<=q+1
 fit:∀ y∈U9 is,J3 W (31+2 * q) y
 wt:∀ k,tot k (rwIs is)<=i * ((1+Cp5 q) * Rk odd k)
theorem vW.add:∀ {is:List It}{i:It},vW is->LI i->vW (is++[i])
 | [],i,_,k=>⟨k,trivial⟩
 | j::is,i,h,k=>⟨h.1,vW.add h.2 k⟩
theorem IV.add {Hb G G2:Heap}{odd:Int}{q i c:Nat}{is sub:List It}{ts:List T}{v:V}{l:List V}(h:IV Hb odd q i is G) (hl:G[Hb.length]? = some l) (hr:E8 G (U9 is) (Hb.length+1) G.length l) (h1:CB odd ts) (hc:c<=19) (hs:vW sub/\dIs sub<=q/\J3 W (30+2 * q) (.lst (U9 sub))/\∀ k,tot k (rwIs sub)<=Cp5 q * Rk odd k) (g:D0 G G2) (ht:I1 G2 (itE (.it c ts sub)) G.length G2.length v):IV Hb odd q (i+1) (is++[.it c ts sub]) (G2.set Hb.length (l++[v])):=by
 have e:∀ {hi:Nat},T3 G2 (G2.set Hb.length (l++[v])) (Hb.length+1) hi:=T3.set (Or.inl (B1 _))
 have hlt:=D2 hl
 have hap:U9 (is++[.it c ts sub])=U9 is++[itE (.it c ts sub)]:=by rw [dR,dR,List.map_append];rfl
 refine ⟨⟨by rw [List.length_set];exact A3 h.grow.len g.len,(h.grow.trans g).old.trans (T3.set (Or.inr (A4 _)))⟩,⟨l++[v],tP (g.get hl),?_⟩,h.li.add ⟨h1.lc,hs.1,A3 hc (by decide)⟩,by rw [A6];exact B3 h.n,?_,fun y hy=>?_,fun k=>?_⟩
 ·rw [List.length_set,hap]
  exact ((hr.grow g (A4 _)).to e).add g.len (ht.to (e.sub hlt (A4 _)))
 ·rw [iX]
  exact Nat.max_le.mpr ⟨h.dep,Nat.max_le.mpr ⟨B3 hs.2.1,B0 _⟩⟩
 ·rw [hap] at hy
  rcases List.mem_append.mp hy with hy | hy
  ·exact h.fit y hy
  ·rw [List.mem_singleton.mp hy,show 31+2 * q=30+2 * q+1 by exact Nat.le_antisymm (fG) (fG)]
   exact Bz3 (h1.lc.fit.up (A4 _) (B4 _ _)) hs.2.2.1
 ·rw [Y4,bY,Nat.succ_mul]
  refine Nat.add_le_add (h.wt k) ?_
  show tot k (L09.mk 45 c (rowTs ts)::rwIs sub++[])<=_
  rw [List.append_nil,Nat.add_mul,Nat.one_mul]
  refine Nat.add_le_add ?_ (hs.2.2.2 k)
  rw [pU]
  have:=h1.len
  show c+((rowTs ts).length+1)+k<=capC odd+20+k
  exact G9 (I6 hc this)
theorem Ba0 {n q:Nat}(ih:∀ q',q=q'+1->LIt q' (n+20)):LIt q (n+21):=by
 intro z odd least deep H Q hd hle h
 have hlim:I3=16777216:=rfl
 obtain ⟨k3,hk3,e3⟩:=M7 z (n:=3) (by decide)
 obtain ⟨bt,hbt,hb0⟩:∃ b:Bool,(∀ {C:Calls}{ρ:D7}{G:Heap},ρ[2]? = some (some (.int (deep:Nat)))->ρ[3]? = some (some (.int odd))->Ev C ρ G (.and [.cmp .eq (.var 2) (.int 0),.cmp .ne (.var 3) (.int 10)]) (.bool b))/\(b=true->deep=0):=⟨(((deep:Nat):Int)==0)&&!(odd==10),fun h1 h2=>D1 (K4 (R1 h1)) fun zz=>H8 (cW (R1 h2)),fun e=>Int.ofNat.inj (eq_of_beq (C3 e).1)⟩
 obtain ⟨c,hc,ec⟩:∃ c:Nat,(k3:Int)+(if bt=true then 1 else 0)=(c:Int)/\c<=2+(if q=3 then 1 else 0):=by
  have h3:k3<=2:=Nat.lt_succ_iff.mp (Int.ofNat_lt.mp hk3)
  cases bt with
  | true =>
   have:=hb0 rfl
   exact ⟨k3+1,by simp,by rw [if_pos (by exact Nat.le_antisymm (G9 (Nat.le_of_eq hd)) (G9 (I6 (Nat.le_of_eq hd.symm) (Nat.le_of_eq this))))];exact G9 h3⟩
  | false=>exact ⟨k3,by simp,A3 h3 (B4 _ _)⟩
 have hc3:c<=3:=A3 ec (by
  by_cases q3:q=3
  ·rw [if_pos q3];decide
  ·rw [if_neg q3];decide)
 refine hY (P2 (Ch0 (n:=c) (fun i=>.int ((least:Int)+kN z (i:Nat) % 3)) (by exact iB (I5 (P5 (z:=z) (fun zz h=>h) (by decide)) (O3 (hbt rfl rfl)) Q3) (by rw [e3,hc])) (by exact G9 (I6 hc3 (Nat.le_of_eq hlim.symm))) (by exact fun i hi=>I5 (fun zz h=>h) (P5 (C8 (vs:=[.int z,.int (i:Nat)]) (fun zz h=>h) gQ) (by decide)) Q3) _ ?_))
 have d0:DsB least c ((List.range c).map fun i=>(least:Int)+kN z (i:Nat) % 3):=⟨by rw [B6,List.length_range];exact A4 _,fun x hx=>by
  obtain ⟨i,_,rfl⟩:=List.mem_map.mp hx
  obtain ⟨k,hk,ek⟩:=M7 (kN z (i:Nat)) (n:=3) (by decide)
  exact ⟨least+k,by rw [ek];rfl,Nat.add_le_add_left (Nat.lt_succ_iff.mp (Int.ofNat_lt.mp hk)) _⟩⟩
 have em:((List.range c).map fun i=>V.int ((least:Int)+kN z (i:Nat) % 3))=((List.range c).map fun i=>(least:Int)+kN z (i:Nat) % 3).map V.int:=by rw [List.map_map];rfl
 rw [em]
 generalize ((List.range c).map fun i=>(least:Int)+kN z (i:Nat) % 3)=ns0 at d0
 have go:∀ (Hb:Heap) (a4:Nat) (ns:List Int),D0 H Hb->Hb[a4]? = some (ns.map V.int)->DsB least c ns->(odd≠10∨True)->C6 (callN P (n+20)) (M9.drop 3) [some (.int z),some (.int (least:Nat)),some (.int (deep:Nat)),some (.int odd),some (.ref a4),none,none,none,none,none] (E1 Q) Hb:=fun Hb a4 ns gb ha4 ds zz=>by
  refine I0 (H1:=Hb++[[]]) (v:=.ref Hb.length) (fun zz h=>h) ?_
  have hnl:(ns.map V.int).length=ns.length:=B6 _
  have ha4l:=D2 ha4
  refine H5 (dF (σ:=IZ2) (fun y=>[some (.int z),some (.int (least:Nat)),some (.int (deep:Nat)),some (.int odd),some (.ref a4),y.e5,none,some (.ref Hb.length),y.e8,y.e9]) (fun i y G=>IV Hb odd q i y.is G) (n:=ns.length) (A9 (A3 ds.len hc3) (by decide)) (fun i y G hi hI K hK=>?_) (fun y G hI=>?_) ⟨[],none,none,none⟩ (iB (P1 (by exact fun zz h=>h) (N0 (R6 ha4))) (by rw [hnl])) ⟨.one,⟨[],D3,.nil (by rw [aL];exact A4 _)⟩,trivial,B0 _,B0 _,(fun y hy=>nomatch hy),fun k=>B0 _⟩)
  ·obtain ⟨is,e5,e8,e9⟩:=y
   obtain ⟨l,hl,hrl⟩:=hI.get
   have hlt:=D2 hl
   have hl4:l.length<I3:=by
    rw [hrl.len,Y7]
    exact A9 (A3 hI.n (A3 (B5 hi) (A3 ds.len hc3))) (by show 3<16777216;decide)
   have hni:ns[i]? = some ns[i]:=List.getElem?_eq_getElem hi
   obtain ⟨d,ed,hd2⟩:=ds.mem ns[i] (List.getElem_mem hi)
   have hdi:∀ {G':Heap}{ρ:D7}{C:Calls},D0 G G'->ρ[4]? = some (some (.ref a4))->ρ[5]? = some (some (.int (i:Nat)))->Ev C ρ G' (.idx (.var 4) (.var 5)) (.int (d:Nat)):=fun g' h4 h5=>F9 (R1 h4) (R1 h5) (L0 ((hI.grow.trans g').get ha4) (by rw [C0,hni,<- ed];rfl))
   refine I0 (H1:=G++[[]]) (v:=.ref G.length) (fun zz h=>h) ?_
   have hd19:d<=19:=by exact G9 (I6 hd2 (I6 hle (I6 (Nat.le_of_eq hd) (I6 (Nat.le_of_eq hd) (Nat.le_of_eq hd)))))
   have fin:∀ (sub:List It) (b:Nat) (G2:Heap) (e:Option V),(vW sub/\dIs sub<=q/\J3 W (30+2 * q) (.lst (U9 sub))/\∀ k,tot k (rwIs sub)<=Cp5 q * Rk odd k)->D0 G G2->I1 G2 (.lst (U9 sub)) G.length G2.length (.ref b)->C6 (callN P (n+20)) [.expr (.append (.var 7) (.tup [.idx (.var 4) (.var 5),.call "_law_loose_parts" [.bin .fdiv (.call "_law_mix" [.var 0,.bin .add (.int 20) (.var 5)]) (.int 11),.int 0,.var 3,.str [],.bool true],.var 8]))] [some (.int z),some (.int (least:Nat)),some (.int (deep:Nat)),some (.int odd),some (.ref a4),some (.int (i:Nat)),none,some (.ref Hb.length),some (.ref b),e] (fO (M6 (callN P (n+20)) [.ret (.var 7)] (E1 Q)) K) G2:=fun sub b G2 e hs g2 hr2=>by
    refine Cf6 ?_
    refine Bw4 (Z6 rfl ⟨Hb.length,rfl,W8 (H9 (v:=.int (d:Nat)) (hdi g2 rfl rfl) (aB (vs:=[.int (kN z (20+(i:Nat)) / 11),.int 0,.int odd,.str [],.bool true]) (C4 (R7 (C8 (C4 (fun zz h=>h) (C4 (I5 (fun zz h=>h) (fun zz h=>h) Q3) J5)) gQ) (by decide)) (by exact fun zz h=>h)) (xT (n:=n+1) fun ts a G3 pb g3 hr3=>H9 (v:=.ref b) (fun zz h=>h) (G8 ?_))))⟩) (U3 _ _)
    refine dM ((g2.trans g3).get hl) hl4 (hK ⟨is++[.it d ts sub],some (.int (i:Nat)),some (.ref b),e⟩ _ (hI.add hl hrl pb.cb hd19 hs (g2.trans g3) (Ct2 (hr3.wide g2.len (A4 _)) ((hr2.grow g3 (A4 _)).wide (A4 _) g3.len) (g2.trans g3).len)))
   cases q with
   | zero =>
    obtain rfl:deep=3:=hd
    refine C1 (by exact fun zz h=>h) (fin [] G.length (G++[[]]) e9 ⟨trivial,A4 _,⟨B0 _,(fun y hy=>nomatch hy)⟩,fun k=>B0 _⟩ .one (J7 (p:=G.length) (q:=G.length) ⟨A4 _,D2 D3,A4 _,D0.one.len⟩ D3 (.nil (A4 _))))
   | succ q =>
    have hd3:deep<3:=by exact G9 (Nat.le_of_eq hd)
    obtain ⟨b5,hb5⟩:sU (callN P (n+20)) [some (.int z),some (.int (least:Nat)),some (.int (deep:Nat)),some (.int odd),some (.ref a4),some (.int (i:Nat)),none,some (.ref Hb.length),some (.ref G.length),e9] (G++[[]]) (.and [.cmp .eq (.var 3) (.int 5),.cmp .eq (.bin .mod (.bin .fdiv (.var 0) (.int 3)) (.int 3)) (.int 0)]):=T7 (K5 (K4 (fun zz h=>h))) (S4 (K5 (K4 (P5 (R7 (fun zz h=>h) (by decide)) (by decide)))))
    obtain ⟨le,hle2,ele⟩:∃ le:Nat,le<=d+1/\((d:Nat):Int)+1 - (if b5=true then 1 else 0)=(le:Int):=by
     cases b5 with
     | true=>exact ⟨d,B8 _,by simp⟩
     | false=>exact ⟨d+1,A4 _,by simp⟩
    refine C5 (G6 (zJ (z:=((deep:Nat):Int)) (by exact fun zz h=>h)) (decide_eq_true (Int.ofNat_lt.mpr hd3))) (C9 (iB (I5 (I5 (hdi .one rfl rfl) (by exact fun zz h=>h) Q3) (O3 hb5) Al2) (by rw [ele])) ?_)
    refine M8 (vs:=[.int (kN z (10+(i:Nat)) / 7),.int (le:Nat),.int ((deep+1:Nat):Int),.int odd]) (C4 (R7 (C8 (C4 (fun zz h=>h) (C4 (I5 (fun zz h=>h) (fun zz h=>h) Q3) J5)) gQ) (by decide)) (C4 (fun zz h=>h) (C4 (fun zz h=>h) (C4 (fun zz h=>h) J5)))) (ih q rfl _ odd le (deep+1) (G++[[]]) _ (pG hd) (by exact G9 (I6 hle2 (I6 hd2 hle))) fun sub b G2 ib g2 hr2=>?_)
    exact fin sub b G2 _ ⟨ib.li,ib.dep,ib.fit.up (A4 _) (by exact fG),ib.wt⟩ (D0.one.trans g2) (hr2.wide D0.one.len (A4 _))
  ·obtain ⟨l,hl,hrl⟩:=hI.get
   have hn:=A3 hI.n ds.len
   refine h y.is _ G ⟨hI.li,hI.dep,by rw [show 32+2 * q=31+2 * q+1 by lia];exact ⟨by rw [Y7];exact A3 hn (A3 hc3 (by show 3<=1000000;decide)),hI.fit⟩,fun k=>?_⟩ (gb.trans hI.grow) ((kX (k:=0) hl hrl).wide gb.len (A4 _))
   refine A3 (hI.wt k) (A3 (Nat.mul_le_mul_right _ (A3 ds.len ec)) ?_)
   rw [<- Nat.mul_assoc]
   refine Nat.mul_le_mul_right _ ?_
   have hq4:q=0∨q=1∨q=2∨q=3:=(by decide:∀ k,k<4->k=0∨k=1∨k=2∨k=3) q (by exact G9 (Nat.le_of_eq hd))
   rcases hq4 with rfl | rfl | rfl | rfl<;>decide
 have flt:∀ (Hb:Heap) (a4:Nat) (ns:List Int),D0 H Hb->Hb[a4]? = some (ns.map V.int)->DsB least c ns->C6 (callN P (n+20)) (M9.drop 2) [some (.int z),some (.int (least:Nat)),some (.int (deep:Nat)),some (.int odd),some (.ref a4),none,none,none,none,none] (E1 Q) Hb:=fun Hb a4 ns gb ha4 ds=>by
  refine W0 ?_ ?_ ?_
  ·exact K5 (cW (fun zz h=>h))
  ·refine P2 ?_
   have key:∃ m,S9 (P6 (callN P (n+20)) [.cmp .lt (.var 6) (.int 10)]) (E2 (callN P (n+20)) (.var 6)) 6 [some (.int z),some (.int (least:Nat)),some (.int (deep:Nat)),some (.int odd),some (.ref a4),none,none,none,none,none] (.lst a4) m 0 [] (fun vs H₂=>C6 (callN P (n+20)) (M9.drop 3) [some (.int z),some (.int (least:Nat)),some (.int (deep:Nat)),some (.int odd),some (.ref H₂.length),none,none,none,none,none] (E1 Q) (H₂++[vs])) Hb:=by
    refine ⟨_,oP (ns.map V.int) (fun v=>match v with | .int x=>decide (x<10) | _=>false) id (An6 ha4) (by rw [B6];exact A3 ds.len (by exact G9 (I6 hc3 (Nat.le_of_eq hlim.symm)))) (fun v hv K hK=>?_) (fun v hv zz K hK=>hK) ?_ ((ns.map V.int).length+1) 0 [] (B1 _) (B0 _) rfl⟩
    ·obtain ⟨x,_,rfl⟩:=List.mem_map.mp hv
     refine (zJ (C:=callN P (n+20)) (ρ:=[some (.int z),some (.int (least:Nat)),some (.int (deep:Nat)),some (.int odd),some (.ref a4),none,some (.int x),none,none,none]) (H:=Hb) (n:=10) (z:=x) (e:=.var 6) (fun zz h=>h)) _ ?_
     show (match decide (x<10) with | true=>K true Hb | false=>K false Hb)
     replace hK:K (decide (x<10)) Hb:=hK
     cases hx:decide (x<10) with
     | true=>rw [hx] at hK;exact hK
     | false=>rw [hx] at hK;exact hK
    ·rw [List.map_id,List.filter_map]
     refine go _ Hb.length (ns.filter _) (gb.trans .one) D3 ⟨A3 (List.length_filter_le _ _) ds.len,fun x hx=>ds.mem x (List.mem_filter.mp hx).1⟩ (Or.inr trivial)
   exact key
  ·exact go Hb a4 ns gb ha4 ds (Or.inr trivial)
 have g0:D0 H (H++[ns0.map V.int]):=.one
 have hget:(H++[ns0.map V.int])[H.length]? = some (ns0.map V.int):=D3
 generalize H++[ns0.map V.int]=H0 at g0 hget ⊢
 refine W0 ?_ ?_ ?_
 ·exact K5 (cW (fun zz h=>h))
 ·refine P2 ?_
  show (match (H0[H.length]?).bind intL with | some l=>l.length<64/\∀ r:List Int,r.Perm l->_ | none=>False)
  rw [hget]
  show (match intL (ns0.map V.int) with | some l=>l.length<64/\∀ r:List Int,r.Perm l->_ | none=>False)
  rw [Ad9]
  refine ⟨A9 (A3 d0.len hc3) (by decide),fun r hr=>?_⟩
  exact flt _ H0.length r (g0.trans .one) D3 ⟨by rw [hr.length_eq];exact d0.len,fun x hx=>d0.mem x (hr.mem_iff.mp hx)⟩
 ·exact flt H0 H.length ns0 g0 hget d0
theorem uS:∀ (q n:Nat),LIt q (n+q+21)
 | 0,n=>Ba0 fun q' e=>nomatch e
 | q+1,n=>Ba0 (n:=n+q+1) fun q' e=>by cases e;exact uS q n
noncomputable def QB (odd:Int):Nat->Nat
 | 0=>45
 | r+1=>if odd=1 then 3 * QB odd r else 2 * QB odd r+45
theorem zP {odd:Int}:∀ r,45<=QB odd r
 | 0=>A4 _
 | r+1=>by
  have:=zP (odd:=odd) r
  show 45<=(if odd=1 then 3 * QB odd r else 2 * QB odd r+45)
  by_cases h:odd=1
  ·rw [if_pos h];exact G9 this
  ·rw [if_neg h];exact fG
noncomputable def qn:List Nat:=[113,117,111,116,101]
noncomputable def wB (odd:Int) (r:Nat) (b:Bk):Nat:=bif nmB b==qn then QB odd r else 45
noncomputable def lastQ (bs:List Bk):Bool:=match bs.getLast? with
 | some b=>nmB b==qn
 | none=>false
noncomputable def bw (q j:Nat) (t:Bool):Nat:=bif t then ((j+1) / 2) * q+(j / 2) * 45 else (j / 2) * q+((j+1) / 2) * 45
noncomputable def bwo (odd:Int) (q:Nat) (bs:List Bk):Nat:=if odd=1 then bs.length * q else bw q bs.length (lastQ bs)
theorem dv2 (h k:Nat):(2 * h+k) / 2=h+k / 2:=Nat.mul_add_div (by decide) h k
theorem Cv1 {q j:Nat}(hq:45<=q) {t t':Bool}(h:t'=true->t=false):bw q j t+(bif t' then q else 45)<=bw q (j+1) t':=by
 have hd:=Nat.div_add_mod j 2
 generalize j / 2=d at hd
 rcases Nat.mod_two_eq_zero_or_one j with e | e
 ·rw [e] at hd
  subst hd
  have e1:(2 * d+0) / 2=d:=dv2 d 0
  have e2:(2 * d+0+1) / 2=d:=dv2 d 1
  have e3:(2 * d+0+1+1) / 2=d+1:=dv2 d 2
  unfold bw
  rw [e1,e2,e3]
  cases t' with
  | true =>
   rw [h rfl]
   show d * q+d * 45+q<=(d+1) * q+d * 45
   rw [Nat.succ_mul]
   exact fG
  | false =>
   cases t with
   | true=>exact fG (L:=d * q+d * 45+45) (R:=d * q+(d+1) * 45)
   | false=>exact fG (L:=d * q+d * 45+45) (R:=d * q+(d+1) * 45)
 ·rw [e] at hd
  subst hd
  have e1:(2 * d+1) / 2=d:=dv2 d 1
  have e2:(2 * d+1+1) / 2=d+1:=dv2 d 2
  have e3:(2 * d+1+1+1) / 2=d+1:=dv2 d 3
  unfold bw
  rw [e1,e2,e3,Nat.succ_mul d q]
  cases t' with
  | true =>
   rw [h rfl]
   exact fG (L:=d * q+(d+1) * 45+q) (R:=d * q+q+(d+1) * 45)
  | false =>
   cases t with
   | true=>exact fG (L:=d * q+q+d * 45+45) (R:=d * q+q+(d+1) * 45)
   | false=>exact G9 (L:=d * q+(d+1) * 45+45) (R:=d * q+q+(d+1) * 45) hq
structure BB (odd:Int) (r:Nat) (b:Bk):Prop where
 lb:LB1 b
 fit:J3 W (39+2 * r) (bkE b)
 wt:∀ k,tot k (rwB b)<=wB odd r b * Rk odd (2 * r+k)
structure BV (Hb:Heap) (odd:Int) (r i:Nat) (bs:List Bk) (G:Heap):Prop where
 grow:D0 Hb G
 get:∃ l,G[Hb.length]? = some l/\E8 G (bkEs bs) (Hb.length+1) G.length l
 lb:sV bs
 n:bs.length<=i
 fit:∀ y∈bkEs bs,J3 W (39+2 * r) y
 wt:∀ k,tot k (rwBs bs)<=bwo odd (QB odd r) bs * Rk odd (2 * r+k)
theorem sV.add:∀ {is:List Bk}{i:Bk},sV is->LB1 i->sV (is++[i])
 | [],i,_,k=>⟨k,trivial⟩
 | j::is,i,h,k=>⟨h.1,sV.add h.2 k⟩
theorem BV.add {Hb G G2:Heap}{odd:Int}{r i:Nat}{bs:List Bk}{b:Bk}{v:V}{l:List V}(h:BV Hb odd r i bs G) (hl:G[Hb.length]? = some l) (hr:E8 G (bkEs bs) (Hb.length+1) G.length l) (hb:BB odd r b) (hq:odd=1∨((nmB b==qn)=true->lastQ bs=false)) (g:D0 G G2) (ht:I1 G2 (bkE b) G.length G2.length v):BV Hb odd r (i+1) (bs++[b]) (G2.set Hb.length (l++[v])):=by
 have e:∀ {hi:Nat},T3 G2 (G2.set Hb.length (l++[v])) (Hb.length+1) hi:=T3.set (Or.inl (B1 _))
 have hlt:=D2 hl
 have hap:bkEs (bs++[b])=bkEs bs++[bkE b]:=by rw [U5,U5,List.map_append];rfl
 refine ⟨⟨by rw [List.length_set];exact A3 h.grow.len g.len,(h.grow.trans g).old.trans (T3.set (Or.inr (A4 _)))⟩,⟨l++[v],tP (g.get hl),?_⟩,h.lb.add hb.lb,by rw [A6];exact B3 h.n,fun y hy=>?_,fun k=>?_⟩
 ·rw [List.length_set,hap]
  exact ((hr.grow g (A4 _)).to e).add g.len (ht.to (e.sub hlt (A4 _)))
 ·rw [hap] at hy
  rcases List.mem_append.mp hy with hy | hy
  ·exact h.fit y hy
  ·rw [List.mem_singleton.mp hy];exact hb.fit
 ·rw [jF,bY]
  have h1:=h.wt k
  have h2:=hb.wt k
  have e3:rwBs [b]=rwB b:=List.append_nil _
  rw [e3]
  refine A3 (Nat.add_le_add h1 h2) ?_
  rw [<- Nat.add_mul]
  refine Nat.mul_le_mul_right _ ?_
  unfold bwo
  by_cases ho:odd=1
  ·rw [if_pos ho,if_pos ho,A6,List.length_singleton,Nat.succ_mul]
   refine Nat.add_le_add_left ?_ _
   unfold wB
   cases nmB b==qn with
   | true=>exact A4 _
   | false=>exact zP r
  ·rw [if_neg ho,if_neg ho,A6,List.length_singleton]
   have el:lastQ (bs++[b])=(nmB b==qn):=by unfold lastQ;rw [List.getLast?_append];rfl
   rw [el]
   exact Cv1 (zP r) (hq.resolve_left ho)
theorem Bb0 {C:Calls}{ρ:D7}{Hb G G1:Heap}{R:E6}{ss:List S}{odd:Int}{r i xl xb xo:Nat}{bs:List Bk}{b:Bk}{v:V}(hr3:r<=3) (hi:i<=100) (h:BV Hb odd r i bs G) (hb:BB odd r b) (g1:D0 G G1) (hrb:I1 G1 (bkE b) G.length G1.length v)
  (h1:ρ[xl]? = some (some (.ref Hb.length))) (h2:ρ[xb]? = some (some v)) (h3:ρ[xo]? = some (some (.int odd))) (k:∀ bs' G',BV Hb odd r (i+1) bs' G'->Up Hb.length G1 G'->C6 C ss ρ R G') :
  C6 C (.ite (.or [.cmp .eq (.var xl) (.list []),.cmp .ne (.idx (.var xb) (.int 0)) (.idx (.idx (.var xl) (.neg 1)) (.int 0)),.cmp .eq (.idx (.var xb) (.int 0)) (.str [104,101,97,100,105,110,103]),.cmp .eq (.var xo) (.int 1)]) [.expr (.append (.var xl) (.var xb))] []::ss) ρ R G1:=by
 obtain ⟨l,hl,hrl⟩:=h.get
 have hlt:=D2 hl
 have hll:l.length=bs.length:=hrl.len.trans (R8 bs)
 have hl4:l.length<I3:=A9 (by rw [hll];exact A3 h.n hi) (by show 100<16777216;decide)
 obtain ⟨w,rfl⟩:=Bk7 hrb
 have hfl:J3 W (39+2 * r+1) (.lst (bkEs bs)):=⟨by rw [R8];exact A3 h.n (A3 hi (by show 100<=1000000;decide)),h.fit⟩
 have fb:W5 C ρ G1 (.cmp .eq (.var xl) (.list [])) (.bool (cO (bkEs bs=[]))) (D0 G1):=zA (xS (a:=Hb.length) (m:=39+2 * r+1) (R1 h1) (by exact G9 (I6 hr3 hr3)) hfl (Au8 h.lb) (J7 (lo:=Hb.length) (hi:=G1.length) (p:=Hb.length+1) (q:=G.length) ⟨A4 _,A8 hlt g1.len,B8 _,g1.len⟩ (g1.get hl) (hrl.grow g1 (A4 _))) (A4 _)) fun G' e=>by rw [e];exact .one
 have app:∀ G2,D0 G1 G2->(odd=1∨((nmB b==qn)=true->lastQ bs=false))->C6 C [.expr (.append (.var xl) (.var xb))] ρ (M6 C ss R) G2:=fun G2 g2 hq=>J2 (v:=.tup (.str (nmB b)::w)) (H1:=G2) (R1 h1) (R1 h2) ((g1.trans g2).get hl) hl4 (k _ _ (h.add hl hrl hb hq (g1.trans g2) ((hrb.grow g2 (A4 _)).wide (A4 _) g2.len)) ((Up.grow g2).trans .set))
 have skp:∀ G2,D0 G1 G2->C6 C ss ρ R G2:=fun G2 g2=>k bs G2 ⟨(h.grow.trans g1).trans g2,⟨l,(g1.trans g2).get hl,(hrl.grow (g1.trans g2) (A4 _)).wide (A4 _) (g1.trans g2).len⟩,h.lb,Nat.le_succ_of_le h.n,h.fit,h.wt⟩ (Up.grow g2)
 have e0:∀ {G2:Heap},Ev C ρ G2 (.idx (.var xb) (.int 0)) (.str (nmB b)):=F9 (R1 h2) (fun zz h=>h) kY
 by_cases hbs:bs=[]
 ·refine V8 (Bk8 (h_b fb (L8 (by rw [hbs];rfl)))) fun G2 g2=>app G2 g2 (Or.inr fun zz=>by rw [hbs];rfl)
 ·rcases xF bs with q | ⟨us,bl,eu⟩
  ·exact absurd q hbs
  have hlast:∃ r0 vl,l=r0++[vl]/\I1 G (bkE bl) (Hb.length+1) G.length vl:=by
   rw [eu,show bkEs (us++[bl])=bkEs us++[bkE bl] by rw [U5,U5,List.map_append];rfl] at hrl
   obtain ⟨a,b',rfl,_,h4⟩:=hrl.cut
   obtain ⟨v,r',rfl,h5,h6⟩:=h4
   rw [h6.2]
   exact ⟨a,v,rfl,h5⟩
  obtain ⟨r0,vl,el,hvl⟩:=hlast
  obtain ⟨wl,rfl⟩:=Bk7 hvl
  have elq:lastQ bs=(nmB bl==qn):=by rw [eu];unfold lastQ;rw [List.getLast?_append];rfl
  have ev:W5 C ρ G1 (.or [.cmp .eq (.var xl) (.list []),.cmp .ne (.idx (.var xb) (.int 0)) (.idx (.idx (.var xl) (.neg 1)) (.int 0)),.cmp .eq (.idx (.var xb) (.int 0)) (.str [104,101,97,100,105,110,103]),.cmp .eq (.var xo) (.int 1)]) (.bool (!(nmB b==nmB bl)||((nmB b==[104,101,97,100,105,110,103])||(odd==1)))) (D0 G1) :=
   zH (h_b fb (J0 fun q=>hbs ((iU (R8 bs)).mp q))) fun G2 g2=>zA (kL (K3 (D9 e0 (F9 (F9 (R1 h1) (fun zz h=>h) (gP (by rw [<- el];exact (g1.trans g2).get hl))) (fun zz h=>h) kY) Au0) fun zz=>K3 (D9 e0 (fun zz h=>h) S7) fun zz=>S6 (K4 (R1 h3)))) fun G3 g3=>by rw [g3];exact g2
  cases hc:(!(nmB b==nmB bl)||((nmB b==[104,101,97,100,105,110,103])||(odd==1))) with
  | false =>
   rw [hc] at ev
   exact S1 ev skp
  | true =>
   rw [hc] at ev
   refine V8 ev fun G2 g2=>app G2 g2 ?_
   rcases Bool.or_eq_true_iff.mp hc with q | q
   ·refine Or.inr fun hn=>?_
    rw [elq]
    have e1:=eq_of_beq hn
    rw [e1] at q
    refine beq_eq_false_iff_ne.mpr fun e2=>?_
    rw [e2] at q
    exact nomatch q
   ·rcases Bool.or_eq_true_iff.mp q with q | q
    ·exact Or.inr fun hn=>by rw [eq_of_beq q] at hn;exact nomatch hn
    ·exact Or.inl (eq_of_beq q)
theorem eW {m:Nat}{a:A}{y:X}(h:J3 W m y):J3 W (m+1) (.tup [.at a,y]):=⟨by show 2<=1000000;decide,fun x hx=>by
 rcases List.mem_cons.mp hx with rfl | hx
 ·exact J3.at
 ·rw [List.mem_singleton.mp hx];exact h⟩
theorem uU {m:Nat}{a b:A}{y:X}(h:J3 W m y):J3 W (m+1) (.tup [.at a,.at b,y]):=⟨by show 3<=1000000;decide,fun x hx=>by
 rcases List.mem_cons.mp hx with rfl | hx
 ·exact J3.at
 ·rcases List.mem_cons.mp hx with rfl | hx
  ·exact J3.at
  ·rw [List.mem_singleton.mp hx];exact h⟩
theorem Bj2 {r m:Nat}{x:X}(h:J3 W m x) (hm:m<=39):J3 W (39+2 * r) x:=h.up (A4 _) (A3 hm (B4 _ _))
theorem kT {odd:Int}{r:Nat}{b:Bk}{w k:Nat}(h:w<=45 * Rk odd k):w<=wB odd r b * Rk odd (2 * r+k):=A3 h (Nat.mul_le_mul (by
 unfold wB
 cases nmB b==qn with
 | true=>exact zP r
 | false=>exact A4 _) (Nat.add_le_add_left (Nat.le_add_left _ _) _))
theorem Bk5 {odd:Int}{w k:Nat}(h:w<=Rk odd k):w<=45 * Rk odd k:=A3 h (by exact fG)
theorem Da3 {odd:Int}{r n:Nat}(hn:n<=4):BB odd r (.gap n):=by
 refine ⟨trivial,Bj2 (eW (m:=0) J3.at) (by decide),fun k=>kT ?_⟩
 have:∀ k n,tot k (List.replicate n [])=n * k:=fun k n=>by
  induction n with
  | zero=>exact (Nat.zero_mul _).symm
  | succ n ih=>show 0+k+tot k (List.replicate n [])=_;rw [ih,Nat.succ_mul];lia
 show tot k (List.replicate n [])<=_
 rw [this]
 exact Nat.mul_le_mul (A3 hn (by decide)) (Nat.le_add_left _ _)
theorem Bp4 {odd:Int}{r n:Nat}{ts:List T}(hn:n<=19) (h:CB odd ts):BB odd r (.head n ts):=by
 refine ⟨⟨h.lc,A3 hn (by decide)⟩,Bj2 (uU h.lc.fit) (by decide),fun k=>kT (Bk5 ?_)⟩
 show (mk 35 n (rowTs ts)).length+k+0<=capC odd+20+k
 rw [pU]
 have:=h.len
 exact G9 (I6 hn this)
theorem Da7 {odd:Int}{r:Nat}:BB odd r .bad:=by
 refine ⟨trivial,Bj2 (uU (m:=1) ⟨B0 _,fun y hy=>nomatch hy⟩) (by decide),fun k=>kT (Bk5 ?_)⟩
 show 1+k+0<=capC odd+20+k
 exact fG
theorem Ct8 {odd:Int}{r:Nat}{is:List It}(h:IB odd 3 is):BB odd r (.list is):=⟨⟨h.li,A3 h.dep (by decide)⟩,Bj2 (eW h.fit) (by decide),fun k=>kT (h.wt k)⟩
theorem Ct5 {odd:Int}{r:Nat}{rs:List (List T)}(h:∀ ts∈rs,CB odd ts) (hn:rs.length<=3):BB odd r (.para rs):=by
 refine ⟨fun ts ht=>(h ts ht).lc,Bj2 (eW (m:=31) ⟨by rw [iT];exact A3 hn (by show 3<=1000000;decide),fun y hy=>?_⟩) (by decide),fun k=>kT ?_⟩
 ·rw [iS] at hy
  obtain ⟨ts,ht,rfl⟩:=List.mem_map.mp hy
  exact (h ts ht).lc.fit
 ·have key:∀ (rs:List (List T)),(∀ ts∈rs,CB odd ts)->tot k (rs.map rowTs)<=rs.length * Rk odd k:=by
   intro rs
   induction rs with
   | nil=>exact fun zz=>B0 _
   | cons ts rs ih =>
    intro h
    have h1:=(h ts (.head _)).len
    have h2:=ih fun x hx=>h x (.tail _ hx)
    show (rowTs ts).length+k+tot k (rs.map rowTs)<=(rs.length+1) * Rk odd k
    rw [Nat.succ_mul rs.length (Rk odd k)]
    refine A3 (Nat.le_of_eq (Nat.add_comm _ _)) (Nat.add_le_add h2 ?_)
    show _<=capC odd+20+k
    exact G9 h1
  exact A3 (key rs h) (Nat.mul_le_mul_right _ (A3 hn (by decide)))
structure BLs (odd:Int) (r:Nat) (bs:List Bk):Prop where
 lb:sV bs
 fit:J3 W (40+2 * r) (.lst (bkEs bs))
 wt:∀ k,tot k (rwBs bs)<=QB odd (r+1) * Rk odd (2 * r+k)
noncomputable def LBk (r n:Nat):Prop:=∀ (z odd:Int) (deep:Nat) (H:Heap) (Q:C2),deep+r=3->(∀ b v G,BB odd r b->D0 H G->I1 G (bkE b) H.length G.length v->Q v G)->callN P n "_law_loose_block" [.int z,.int (deep:Nat),.int odd] Q H
noncomputable def LBL (r n:Nat):Prop:=∀ (z odd:Int) (deep:Nat) (H:Heap) (Q:C2),deep+r=3->(∀ bs a G,BLs odd r bs->D0 H G->I1 G (.lst (bkEs bs)) H.length G.length (.ref a)->Q (.ref a) G)->callN P n "_law_loose_blocks" [.int z,.int (deep:Nat),.int odd] Q H
theorem An4 {C:Calls}{ρ:D7}{H:Heap}{e f:E}{z n:Int}{b:Bool}(he:Ev C ρ H e (.int z)) (h0:0<n) (hf:Ev C ρ H f (.bool b)):∃ c:Nat,(c:Int)<=n/\Ev C ρ H (.bin .add (.bin .mod e (.int n)) (.toInt f)) (.int (c:Nat)):=by
 obtain ⟨k,hk,ek⟩:=M7 z h0
 cases b with
 | true=>exact ⟨k+1,by lia,iB (I5 (P5 he h0) (O3 hf) Q3) (by rw [ek];rfl)⟩
 | false=>exact ⟨k,by lia,iB (I5 (P5 he h0) (O3 hf) Q3) (by rw [ek];exact congrArg V.int (Int.add_zero _))⟩
theorem Cv0 {odd:Int}{r:Nat}{bs:List Bk}(h:bs.length<=3):bwo odd (QB odd r) bs<=QB odd (r+1):=by
 have hq:=zP (odd:=odd) r
 unfold bwo
 show _<=(if odd=1 then 3 * QB odd r else 2 * QB odd r+45)
 by_cases ho:odd=1
 ·rw [if_pos ho,if_pos ho];exact Nat.mul_le_mul_right _ h
 ·rw [if_neg ho,if_neg ho]
  have h4:bs.length=0∨bs.length=1∨bs.length=2∨bs.length=3:=(by decide:∀ k,k<4->k=0∨k=1∨k=2∨k=3) _ (Nat.lt_succ_of_le h)
  rcases h4 with e | e | e | e<;>rw [e]<;>cases lastQ bs
  ·show 0 * QB odd r+0 * 45<=_;exact fG
  ·show 0 * QB odd r+0 * 45<=_;exact fG
  ·show 0 * QB odd r+1 * 45<=_;exact fG
  ·show 1 * QB odd r+0 * 45<=_;exact fG
  ·show 1 * QB odd r+1 * 45<=_;exact fG
  ·show 1 * QB odd r+1 * 45<=_;exact fG
  ·show 1 * QB odd r+2 * 45<=_;exact G9 hq
  ·show 2 * QB odd r+1 * 45<=_;exact fG
structure BZ2 where
 bs:List Bk
 e4:Option V
 e5:Option V
theorem Bz7 {n r:Nat}(hr:r<=3) (hb:LBk r (n+1)):LBL r (n+2):=by
 intro z odd deep H Q hd h
 refine fL (I0 (H1:=H++[[]]) (v:=.ref H.length) (fun zz h=>h) ?_)
 obtain ⟨c,hc,ev⟩:=An4 (C:=callN P (n+1)) (ρ:=[some (.int z),some (.int (deep:Nat)),some (.int odd),some (.ref H.length),none,none]) (H:=H++[[]]) (e:=.var 0) (f:=.cmp .ne (.var 2) (.int 10)) (z:=z) (n:=3) (fun zz h=>h) (by decide) (cW (fun zz h=>h))
 have hc3:c<=3:=Int.ofNat_le.mp hc
 refine H5 (dF (σ:=BZ2) (fun y=>[some (.int z),some (.int (deep:Nat)),some (.int odd),some (.ref H.length),y.e4,y.e5]) (fun i y G=>BV H odd r i y.bs G) (n:=c) (A9 hc3 (by decide)) (fun i y G hi hI K hK=>?_) (fun y G hI=>?_) ⟨[],none,none⟩ ev ⟨.one,⟨[],D3,.nil (by rw [aL];exact A4 _)⟩,trivial,B0 _,(fun y hy=>nomatch hy),fun k=>B0 _⟩)
 ·obtain ⟨bs,e4,e5⟩:=y
  refine M8 (vs:=[.int (kN z (i:Nat) / 3),.int (deep:Nat),.int odd]) (C4 (R7 (C8 (fun zz h=>h) gQ) (by decide)) (fun zz h=>h)) (hb _ odd deep G _ hd fun b v G1 bb g1 hrb=>?_)
  exact Bb0 (Hb:=H) (i:=i) hr (by exact G9 (I6 hi hc3)) hI bb g1 hrb rfl rfl rfl fun bs' G' hI' zz=>hK ⟨bs',_,_⟩ _ hI'
 ·obtain ⟨l,hl,hrl⟩:=hI.get
  have hn:=A3 hI.n hc3
  refine h y.bs _ G ⟨hI.lb,?_,fun k=>A3 (hI.wt k) (Nat.mul_le_mul_right _ (Cv0 hn))⟩ hI.grow (kX (k:=0) hl hrl)
  rw [show 40+2 * r=39+2 * r+1 by lia]
  exact ⟨by rw [R8];exact A3 hn (by show 3<=1000000;decide),hI.fit⟩
theorem Ci0 {G:Heap}{n lo hi:Nat}(h:lo<=hi):I1 G (bkE (.gap n)) lo hi (.tup [.str [103,97,112],.int (n:Nat)]):=⟨_,rfl,.atom (a:=.s _) (.atom (a:=.i _) (.nil h))⟩
theorem Ac8 {G:Heap}{n lo hi a:Nat}{ts:List T}(h:lo<=hi) (hr:I1 G (.lst (encs ts)) lo hi (.ref a)):I1 G (bkE (.head n ts)) lo hi (.tup [.str [104,101,97,100,105,110,103],.int (n:Nat),.ref a]):=⟨_,rfl,.atom (a:=.s _) (.atom (a:=.i _) (.one h hr))⟩
theorem Ci1 {G:Heap}{lo hi a:Nat}(h:lo<=hi) (hr:I1 G (.lst []) lo hi (.ref a)):I1 G (bkE .bad) lo hi (.tup [.str [104,101,97,100,105,110,103],.int (-1),.ref a]):=⟨_,rfl,.atom (a:=.s _) (.atom (a:=.i _) (.one h hr))⟩
theorem Az1 {H:Heap}{lo:Nat}(h:lo<=H.length):I1 (H++[[]]) (.lst []) lo (H++[[]]).length (.ref H.length):=J7 (p:=lo) (q:=lo) ⟨h,D2 D3,A4 _,A3 h D0.one.len⟩ D3 (.nil (A4 _))
theorem Cs5 {k:Nat}(h:(k:Int)<6):k=0∨k=1∨k=2∨k=3∨k=4∨k=5:=(by decide:∀ k,k<6->k=0∨k=1∨k=2∨k=3∨k=4∨k=5) k ((Int.ofNat_lt (m:=6)).mp h)
structure QZ where
 b:Bk
 a:Nat
 e:Option V
structure QV (H:Heap) (i:Nat) (y:QZ) (G:Heap):Prop where
 grow:D0 H G
 get:∃ v,G[y.a]? = some [v]/\I1 G (bkE y.b) H.length G.length v
 new:H.length<=y.a
 lb:LB1 y.b
 fit:J3 W (2 * i+5) (bkE y.b)
 wt:∀ k,tot k (rwB y.b)<=3+2 * i+k
theorem QV.next {H G:Heap}{i:Nat}{y:QZ}{e:Option V}(h:QV H i y G):QV H (i+1) ⟨.quote [y.b],G.length,e⟩ (G++[[.tup [.str [113,117,111,116,101],.ref y.a]]]):=by
 obtain ⟨v,hv,hr⟩:=h.get
 have hl:=D2 hv
 refine ⟨h.grow.trans .one,⟨_,D3,?_⟩,h.grow.len,⟨h.lb,trivial⟩,eW (m:=2 * i+6) ⟨by show 1<=1000000;decide,fun x hx=>by rw [List.mem_singleton.mp hx];exact h.fit⟩,fun k=>?_⟩
 ·refine W2 (h.grow.trans .one).len (J7 (p:=H.length) (q:=G.length) ⟨h.new,A8 hl D0.one.len,A4 _,D0.one.len⟩ (R6 hv) (.one h.grow.len (hr.grow .one (A4 _))))
 ·show tot k ((rwB y.b++[]).map fun r=>62::32::r)<=_
  rw [List.append_nil,Au4]
  have:=h.wt (k+2)
  exact G9 this
theorem Bb1 {n r:Nat}(ih:∀ r',r=r'+1->LBL r' (n+34)):LBk r (n+35):=by
 intro z odd deep H Q hd h
 have hd3:deep<=3:=by exact G9 (Nat.le_of_eq hd)
 have hlim:I3=16777216:=rfl
 obtain ⟨k6,hk6,e6⟩:=M7 z (n:=6) (by decide)
 refine hZ (C9 (iB (P5 (z:=z) (fun zz h=>h) (by decide)) (congrArg V.int e6)) (C9 (R7 (z:=z) (fun zz h=>h) (by decide)) ?_))
 generalize z / 6=more
 have gap:∀ {k:V},C6 (callN P (n+34)) [.ret (.tup [.str [103,97,112],.bin .add (.bin .mod (.var 4) (.int 4)) (.toInt (.cmp .ne (.var 2) (.int 10)))])] [some (.int z),some (.int (deep:Nat)),some (.int odd),some k,some (.int more),none,none,none] (E1 Q) H:=fun {k}=>by
  obtain ⟨c,hc,ev⟩:=An4 (C:=callN P (n+34)) (ρ:=[some (.int z),some (.int (deep:Nat)),some (.int odd),some k,some (.int more),none,none,none]) (H:=H) (e:=.var 4) (f:=.cmp .ne (.var 2) (.int 10)) (z:=more) (n:=4) (fun zz h=>h) (by decide) (cW (fun zz h=>h))
  exact E0 (T6 (C4 (fun zz h=>h) (C4 ev J5))) (h (.gap c) _ H (Da3 (Int.ofNat_le.mp hc)) .refl (Ci0 (A4 _)))
 have par:∀ {k:V},C6 (callN P (n+34)) [.assign 5 (.compR (.call "_law_loose_row" [.bin .fdiv (.call "_law_mix" [.var 4,.var 6]) (.int 5),.var 1,.var 2]) 6 (.bin .add (.bin .mod (.var 4) (.int 3)) (.toInt (.cmp .ne (.var 2) (.int 10)))) []),.ret (.tup [.str [112,97,114,97],.var 5])] [some (.int z),some (.int (deep:Nat)),some (.int odd),some k,some (.int more),none,none,none] (E1 Q) H:=fun {k}=>by
  obtain ⟨c,hc,ev⟩:=An4 (C:=callN P (n+34)) (ρ:=[some (.int z),some (.int (deep:Nat)),some (.int odd),some k,some (.int more),none,none,none]) (H:=H) (e:=.var 4) (f:=.cmp .ne (.var 2) (.int 10)) (z:=more) (n:=3) (fun zz h=>h) (by decide) (cW (fun zz h=>h))
  have hc3:c<=3:=Int.ofNat_le.mp hc
  refine P2 (Bw3 (U3 _ _) (n:=c) (by exact G9 (I6 hc3 (Nat.le_of_eq hlim.symm))) (fun i acc G=>D0 H G/\∃ rs,E8 G (yW rs) H.length G.length acc/\(∀ ts∈rs,CB odd ts)/\rs.length=i) (fun i acc G1 hi hacc hI K hK=>?_) (fun acc G1 hacc hI=>?_) (ev _ ⟨rfl,.refl,[],.nil (A4 _),(fun ts ht=>nomatch ht),rfl⟩))
  ·obtain ⟨g,rs,hrs,hcb,hn⟩:=hI
   refine K8 (H9 (v:=.int (kN more (i:Nat) / 5)) (R7 (C8 (vs:=[.int more,.int (i:Nat)]) (fun zz h=>h) gQ) (by decide)) (H9 (v:=.int (deep:Nat)) (fun zz h=>h) (H9 (v:=.int odd) (fun zz h=>h) (G8 (Ct1 (n:=n) fun ts a G2 cb g2 hr2=>hK _ _ ⟨g.trans g2,rs++[ts],?_,fun t ht=>(List.mem_append.mp ht).elim (hcb t) fun q=>by rw [List.mem_singleton.mp q];exact cb,by rw [A6,hn];rfl⟩)))))
   rw [Az6]
   exact (hrs.grow g2 (A4 _)).add g2.len hr2
  ·obtain ⟨g,rs,hrs,hcb,hn⟩:=hI
   refine h (.para rs) _ _ (Ct5 hcb (by rw [hn];exact hc3)) (g.trans .one) (W2 (g.trans .one).len (J7 (p:=H.length) (q:=G1.length) ⟨g.len,D2 D3,A4 _,D0.one.len⟩ D3 (hrs.grow .one (A4 _))))
 rcases Cs5 hk6 with rfl | rfl | rfl | rfl | rfl | rfl
 ·exact C5 (K3 (b:=true) (b2:=true) (fun zz h=>h) fun q=>nomatch q) gap
 ·refine C1 (K3 (b:=false) (b2:=false) (fun zz h=>h) fun zz=>S6 (D1 (b:=false) (b2:=true) (fun zz h=>h) fun q=>nomatch q)) ?_
  by_cases ho:odd=10
  ·refine C5 (D1 (b:=true) (b2:=true) (fun zz h=>h) fun zz=>H8 (G6 (K4 (fun zz h=>h)) (by rw [ho];rfl))) ?_
   obtain ⟨k9,hk9,e9⟩:=M7 more (n:=9) (by decide)
   refine N9 (W8 (H9 (v:=.str [104,101,97,100,105,110,103]) (fun zz h=>h) (H9 (v:=.int ((k9:Nat) - 1:Int)) (iB (I5 (P5 (z:=more) (fun zz h=>h) (by decide)) (fun zz h=>h) Al2) (by rw [e9])) (Ab8 ?_))))
   cases k9 with
   | zero=>exact h .bad _ _ Da7 .one (Ci1 D0.one.len (Az1 (A4 _)))
   | succ k =>
    have e:(((k+1:Nat):Int) - 1)=(k:Nat):=by lia
    rw [e]
    exact h (.head k []) _ _ (Bp4 (by exact G9 ((Int.ofNat_lt (m:=9)).mp hk9)) (zO trivial (B0 _) fun t ht=>nomatch ht)) .one (Ac8 D0.one.len (Az1 (A4 _)))
  ·refine C1 (D1 (b:=true) (b2:=false) (fun zz h=>h) fun zz=>H8 (G6 (K4 (fun zz h=>h)) (by simpa using ho))) (C5 (fun zz h=>h) ?_)
   obtain ⟨k6,hk6',e6'⟩:=M7 more (n:=6) (by decide)
   refine N9 (W8 (H9 (v:=.str [104,101,97,100,105,110,103]) (fun zz h=>h) (H9 (v:=.int ((1+k6:Nat):Int)) (iB (I5 (fun zz h=>h) (P5 (z:=more) (fun zz h=>h) (by decide)) Q3) (by rw [e6'];rfl)) (aB (vs:=[.int (more / 6),.int 0,.int odd,.str [],.bool true]) (C4 (R7 (fun zz h=>h) (by decide)) (fun zz h=>h)) (xT (n:=n+15) fun ts a G pb g hr=>G8 ?_)))))
   exact h (.head (1+k6) ts) _ G (Bp4 (by exact G9 ((Int.ofNat_lt (m:=6)).mp hk6')) pb.cb) g (Ac8 g.len hr)
 ·refine C1 (K3 (b:=false) (b2:=false) (fun zz h=>h) fun zz=>S6 (D1 (b:=false) (b2:=true) (fun zz h=>h) fun q=>nomatch q)) (C1 (D1 (b:=false) (b2:=true) (fun zz h=>h) fun q=>nomatch q) (C1 (fun zz h=>h) (C5 (fun zz h=>h) ?_)))
  obtain ⟨j,hj,ej⟩:∃ j:Nat,j<=1/\(if (!(odd==10))=true then (1:Int) else 0)=(j:Int):=by
   cases (!(odd==10)) with
   | true=>exact ⟨1,A4 _,rfl⟩
   | false=>exact ⟨0,B0 _,rfl⟩
  obtain ⟨le,hle,ev⟩:=Cn7 (f:=fun d:Nat=>V.int (d:Int)) (xs:=[1,1,2,3,5,7,8,j]) (C:=callN P (n+34)) (ρ:=[some (.int z),some (.int (deep:Nat)),some (.int odd),some (.int ((2:Nat):Int)),some (.int more),none,none,none]) (H:=H) (es:=[.int 1,.int 1,.int 2,.int 3,.int 5,.int 7,.int 8,.toInt (.cmp .ne (.var 2) (.int 10))]) (i:=.var 4) more (n:=8) rfl (by decide) (C4 (fun zz h=>h) (C4 (fun zz h=>h) (C4 (fun zz h=>h) (C4 (fun zz h=>h) (C4 (fun zz h=>h) (C4 (fun zz h=>h) (C4 (fun zz h=>h) (C4 (iB (O3 (cW (fun zz h=>h))) (congrArg V.int ej)) J5)))))))) (fun zz h=>h)
  have hle8:le<=8:=by
   simp only [List.mem_cons,List.not_mem_nil,or_false] at hle
   lia
  refine N9 (W8 (H9 (v:=.str [108,105,115,116]) (fun zz h=>h) (J1 (K8 (H9 (v:=.int (more / 8)) (R7 (fun zz h=>h) (by decide)) (J1 (ev _ fun G1 g1=>H9 (v:=.int ((0:Nat):Int)) (fun zz h=>h) (H9 (v:=.int odd) (fun zz h=>h) (G8 (uS 3 (n+10) _ odd le 0 G1 _ rfl (by exact G9 hle8) fun is a G ib g hr=>G8 ?_))))))))))
  exact h (.list is) _ G (Ct8 ib) (g1.trans g) (W2 (g1.trans g).len (hr.wide g1.len (A4 _)))
 ·exact C1 (K3 (b:=false) (b2:=false) (fun zz h=>h) fun zz=>S6 (D1 (b:=false) (b2:=true) (fun zz h=>h) fun q=>nomatch q)) (C1 (D1 (b:=false) (b2:=true) (fun zz h=>h) fun q=>nomatch q) (C1 (fun zz h=>h) (C1 (fun zz h=>h) (C5 (fun zz h=>h) par))))
 ·exact C1 (K3 (b:=false) (b2:=false) (fun zz h=>h) fun zz=>S6 (D1 (b:=false) (b2:=true) (fun zz h=>h) fun q=>nomatch q)) (C1 (D1 (b:=false) (b2:=true) (fun zz h=>h) fun q=>nomatch q) (C1 (fun zz h=>h) (C1 (fun zz h=>h) (C5 (fun zz h=>h) par))))
 ·cases r with
  | zero =>
   obtain rfl:deep=3:=hd
   exact C5 (K3 (b:=false) (b2:=true) (fun zz h=>h) fun zz=>S6 (D1 (b:=true) (b2:=true) (fun zz h=>h) fun zz=>H8 (fun zz h=>h))) gap
  | succ r =>
   have hd2:deep<=2:=by exact G9 (Nat.le_of_eq hd)
   refine C1 (K3 (b:=false) (b2:=false) (fun zz h=>h) fun zz=>S6 (D1 (b:=true) (b2:=false) (fun zz h=>h) fun zz=>H8 (G6 (fQ (z:=((deep:Nat):Int)) (fun zz h=>h)) (decide_eq_false (by exact Int.not_lt.mpr (Int.ofNat_le.mpr (G9 (Nat.le_of_eq hd)))))))) (C1 (D1 (b:=false) (b2:=true) (fun zz h=>h) fun q=>nomatch q) (C1 (fun zz h=>h) (C1 (fun zz h=>h) (C1 (fun zz h=>h) ?_))))
   have quo:C6 (callN P (n+34)) [.ret (.tup [.str [113,117,111,116,101],.call "_law_loose_blocks" [.bin .fdiv (.var 4) (.int 9),.bin .add (.var 1) (.int 1),.var 2]])] [some (.int z),some (.int (deep:Nat)),some (.int odd),some (.int ((5:Nat):Int)),some (.int more),none,none,none] (E1 Q) H:=by
    refine N9 (W8 (H9 (v:=.str [113,117,111,116,101]) (fun zz h=>h) (aB (vs:=[.int (more / 9),.int ((deep+1:Nat):Int),.int odd]) (C4 (R7 (fun zz h=>h) (by decide)) (fun zz h=>h)) (ih r rfl _ odd (deep+1) H _ (pG hd) fun bs a G bl g hr=>G8 ?_))))
    refine h (.quote bs) _ G ⟨bl.lb,?_,fun k=>?_⟩ g (W2 g.len hr)
    ·rw [show 39+2 * (r+1)=40+2 * r+1 by lia]
     exact eW bl.fit
    ·show tot k ((rwBs bs).map fun r=>62::32::r)<=_
     rw [Au4,show 2 * (r+1)+k=2 * r+(k+2) by lia]
     exact bl.wt (k+2)
   obtain ⟨bt,hbt⟩:sU (callN P (n+34)) [some (.int z),some (.int (deep:Nat)),some (.int odd),some (.int ((5:Nat):Int)),some (.int more),none,none,none] H (.cmp .gt (.bin .mod (.var 4) (.int 9)) (.int 2)):=K5 (fQ (P5 (fun zz h=>h) (by decide)))
   by_cases hz:0<deep
   ·exact C5 (G6 (K3 hbt fun zz=>S6 (G6 (fQ (z:=((deep:Nat):Int)) (fun zz h=>h)) (decide_eq_true (Int.ofNat_lt.mpr hz)))) (Bool.or_true _)) quo
   ·refine W0 ?_ quo ?_
    ·exact Ak3 ⟨bt,hbt⟩ (pF (K5 (fQ (fun zz h=>h))))
    obtain ⟨w,hw,evw⟩:∃ w,Wd 3 w/\Ev (callN P (n+34)) [some (.int z),some (.int (deep:Nat)),some (.int odd),some (.int ((5:Nat):Int)),some (.int more),none,none,none] H (.bin .add (.bin .mul (.str [62,32]) (.toInt (.cmp .eq (.var 2) (.int 12)))) (.str [119])) (.str w):=by
     have ev:=K4 (C:=callN P (n+34)) (ρ:=[some (.int z),some (.int (deep:Nat)),some (.int odd),some (.int ((5:Nat):Int)),some (.int more),none,none,none]) (H:=H) (e:=.var 2) (n:=12) (z:=odd) (fun zz h=>h)
     cases hq:(odd==12) with
     | true=>rw [hq] at ev;exact ⟨[62,32,119],Bk0 (by decide),I5 (I5 P0 (O3 ev) (kS (n:=1) ⟨by show 2<=I3;decide,by decide,by decide⟩)) P0 (Y1 (by show 2+1<=I3;decide))⟩
     | false=>rw [hq] at ev;exact ⟨[119],Bk0 (by decide),I5 (I5 P0 (O3 ev) (kS (n:=0) ⟨B0 _,by decide,by decide⟩)) P0 (Y1 (by show 0+1<=I3;decide))⟩
    refine I0 (H1:=H++[[.str w]]++[[.ref H.length]]++[[.tup [.str [112,97,114,97],.ref (H++[[V.str w]]:Heap).length]]]) (v:=.ref (H++[[V.str w]]++[[V.ref H.length]]:Heap).length) (fun Q k=>U0 (J1 (W8 (H9 (v:=.str [112,97,114,97]) (fun zz h=>h) (J1 (U0 (J1 (U0 (H9 evw (G8 (G8 (G8 (G8 k))))))))))))) ?_
    obtain ⟨k2,hk2,e2⟩:=M7 (more / 9) (n:=2) (by decide)
    have g3:D0 H (H++[[V.str w]]++[[V.ref H.length]]):=mJ
    have q1:(H++[[V.str w]]++[[V.ref H.length]]:Heap)[H.length]? = some [.str w]:=R6 D3
    have q2:(H++[[V.str w]]++[[V.ref H.length]]:Heap)[(H++[[V.str w]]:Heap).length]? = some [.ref H.length]:=D3
    have q3:H.length<=(H++[[V.str w]]:Heap).length:=D0.one.len
    generalize (H++[[V.str w]]:Heap).length=a2 at q2 q3 ⊢
    generalize H++[[V.str w]]++[[V.ref H.length]]=H3 at g3 q1 q2 ⊢
    have hw0:LC [.txt w]:=(zO (odd:=0) (ts:=[.txt w]) ⟨⟨hw.ne,hw.sg⟩,trivial⟩ (by rw [K1];exact A3 hw.len (by decide)) fun t ht=>by rw [List.mem_singleton.mp ht];exact U2).lc
    have st:QV H 0 ⟨.para [[.txt w]],H3.length,none⟩ (H3++[[.tup [.str [112,97,114,97],.ref a2]]]):=by
     refine ⟨g3.trans .one,⟨_,D3,W2 (g3.trans .one).len ((J7 (p:=H.length) (q:=H3.length) ⟨q3,D2 q2,A4 _,A4 _⟩ q2 (.one g3.len (J7 (p:=H.length) (q:=H.length) ⟨A4 _,D2 q1,A4 _,g3.len⟩ q1 (.one (x:=.at (.s w)) (A4 _) rfl)))).grow .one (A4 _) |>.wide (A4 _) D0.one.len)⟩,g3.len,fun ts ht=>by rw [List.mem_singleton.mp ht];exact hw0,eW (m:=4) ⟨by show 1<=1000000;decide,fun x hx=>?_⟩,fun k=>?_⟩
     ·rw [List.mem_singleton.mp hx]
      exact eX (m:=2) (by show 1<=1000000;decide) fun t ht=>by rw [List.mem_singleton.mp ht];exact U2
     ·show (rowTs [.txt w]).length+k+0<=_
      rw [K1]
      have:=hw.len
      show w.length+k+0<=_
      exact G9 this
    obtain ⟨b1,hb1⟩:sU (callN P (n+34)) [some (.int z),some (.int (deep:Nat)),some (.int odd),some (.int ((5:Nat):Int)),some (.int more),none,none,some (.ref H3.length)] (H3++[[.tup [.str [112,97,114,97],.ref a2]]]) (.and [.cmp .eq (.var 2) (.int 12),.cmp .eq (.bin .mod (.bin .fdiv (.var 4) (.int 18)) (.int 2)) (.int 1)]):=T7 (K5 (K4 (fun zz h=>h))) (S4 (K5 (K4 (P5 (R7 (fun zz h=>h) (by decide)) (by decide)))))
    obtain ⟨c,hc,ec⟩:∃ c:Nat,c<=10/\(8:Int)+(k2:Nat)+(if b1=true then 1 else 0)=(c:Nat):=by
     cases b1 with
     | true=>exact ⟨8+k2+1,by exact G9 ((Int.ofNat_lt (m:=2)).mp hk2),rfl⟩
     | false=>exact ⟨8+k2,by exact G9 ((Int.ofNat_lt (m:=2)).mp hk2),Int.add_zero _⟩
    refine H5 (dF (σ:=QZ) (fun y=>[some (.int z),some (.int (deep:Nat)),some (.int odd),some (.int ((5:Nat):Int)),some (.int more),none,y.e,some (.ref y.a)]) (fun i y G=>QV H i y G) (n:=c) (A9 hc (by decide)) (fun i y G hi hI K hK=>?_) (fun y G hI=>?_) ⟨.para [[.txt w]],H3.length,none⟩ (iB (I5 (I5 (by exact fun zz h=>h) (P5 (R7 (by exact fun zz h=>h) (by decide)) (by decide)) Q3) (O3 hb1) Q3) (by rw [e2,ec])) st)
    ·exact hK ⟨.quote [y.b],G.length,some (.int (i:Nat))⟩ _ hI.next
    obtain ⟨v,hv,hr⟩:=hI.get
    refine E0 (F9 (by exact fun zz h=>h) (by exact fun zz h=>h) (L0 (i:=0) hv rfl)) (h y.b v G ⟨hI.lb,hI.fit.up (A4 _) (by exact G9 (I6 hc hc)),fun k=>kT (Bk5 (A3 (hI.wt k) ?_))⟩ hI.grow hr)
    have:1<=capC odd:=B3 (B0 _)
    have h6:=tQ (e:=ex odd) 5
    show 3+2 * c+k<=3 * ML (ex odd) 5+1+20+k
    exact G9 (I6 hc (I6 hc h6))
theorem Bq0:∀ (r n:Nat),r<=3->LBk r (n+2 * r+35)
 | 0,n,_=>Bb1 fun r' q=>nomatch q
 | r+1,n,h=>Bb1 (n:=n+2 * r+2) fun r' q=>by
   cases q
   have:=Bz7 (n:=n+2 * r+34) (Nat.le_of_succ_le h) (Bq0 r n (Nat.le_of_succ_le h))
   exact this
theorem Am2 (k:Nat):∀ rs:List (List Nat),tot k rs=(rs.map List.length).sum+rs.length * k
 | []=>by show 0=0+0 * k;rw [Nat.zero_mul]
 | r::rs=>by
  show r.length+k+tot k rs=(r.length+(rs.map List.length).sum)+(rs.length+1) * k
  rw [Am2 k rs,Nat.succ_mul]
  lia
theorem Bx1 {rs:List (List Nat)}{w a:Nat}(h:∀ k,tot k rs<=w * (a+k)):rs.length<=w:=by
 refine Nat.not_lt.mp fun q=>?_
 have h1:=h (w * a+1)
 rw [Am2,Nat.mul_add] at h1
 have h2:=Nat.mul_le_mul_right (w * a+1) q
 rw [Nat.succ_mul] at h2
 lia
theorem Cv3 {odd:Int}{bs:List Bk}(h0:odd=0->bs.length<=5) (h1:odd≠0->bs.length<=2):bwo odd (QB odd 3) bs<=2430/\bwo odd (QB odd 3) bs * Rk odd 7<=16000000:=by
 have hR:∀ {odd:Int},Rk odd 7<=8032:=fun {odd}=>A3 (Nat.add_le_add_right (Nat.add_le_add_right (wR odd) 20) 7) (A4 _)
 by_cases ho:odd=1
 ·subst ho
  have hl:=h1 (by decide)
  have e:bwo 1 (QB 1 3) bs<=2430:=by
   show bs.length * 1215<=2430
   lia
  refine ⟨e,A3 (Nat.mul_le_mul_right _ e) ?_⟩
  decide
 ·have hq:QB odd 3=675:=by
   show (if odd=1 then 3 * (if odd=1 then 3 * (if odd=1 then 3 * 45 else 2 * 45+45) else 2 * (if odd=1 then 3 * 45 else 2 * 45+45)+45) else 2 * (if odd=1 then 3 * (if odd=1 then 3 * 45 else 2 * 45+45) else 2 * (if odd=1 then 3 * 45 else 2 * 45+45)+45)+45)=675
   simp only [if_neg ho]
  have eb:bwo odd (QB odd 3) bs=bw 675 bs.length (lastQ bs):=by unfold bwo;rw [if_neg ho,hq]
  rw [eb]
  have key:∀ n,n<=5->∀ t,bw 675 n t<=2115:=by decide
  have key2:∀ n,n<=2->∀ t,bw 675 n t<=720:=by decide
  by_cases hz:odd=0
  ·have e:=key _ (h0 hz) (lastQ bs)
   refine ⟨A3 e (by decide),A3 (Nat.mul_le_mul_right _ e) ?_⟩
   subst hz
   decide
  ·have e:=key2 _ (h1 hz) (lastQ bs)
   exact ⟨A3 e (by decide),A3 (Nat.mul_le_mul e hR) (by decide)⟩
theorem qN {ts us:List T}(h:encs ts=encs us):ts=us:=iW ts us (by rw [h];exact fD _)
noncomputable def els:X->List X
 | .tup l=>l
 | .lst l=>l
 | .at _=>[]
noncomputable def atm:X->A
 | .at a=>a
 | _=>.n
noncomputable def aI:A->Int
 | .i z=>z
 | _=>0
noncomputable def aS:A->Nat
 | .s (c::_)=>c
 | _=>0
noncomputable def nth (j:Nat) (x:X):X:=((els x).drop j).headD x
theorem gI {x y:X}(j:Nat) (h:x=y):aI (atm (nth j x))=aI (atm (nth j y)):=congrArg (fun x=>aI (atm (nth j x))) h
theorem gL {x y:X}(j:Nat) (h:x=y):els (nth j x)=els (nth j y):=congrArg (fun x=>els (nth j x)) h
theorem nob {x y:X}{p:Prop}(h:x=y) (q:Nat.beq (aS (atm (nth 0 x))) (aS (atm (nth 0 y)))=false):p:=by
 rw [h] at q
 exact nomatch q.symm.trans (Nat.beq_refl _)
mutual
theorem Cj0:∀ {i j:It},itE i=itE j->i=j
 | .it n ts sub,.it m us sub',h=>by
  rw [show n=m from Int.ofNat.inj (gI 0 h),qN (gL 1 h),qM (gL 2 h)]
theorem qM:∀ {is js:List It},U9 is=U9 js->is=js
 | [],js,h=>by
  cases js with
  | nil=>rfl
  | cons _ _=>exact nomatch congrArg List.length h
 | i::is,js,h=>by
  cases js with
  | nil=>exact nomatch congrArg List.length h
  | cons j js=>rw [Cj0 (List.head_eq_of_cons_eq h),qM (List.tail_eq_of_cons_eq h)]
end
theorem Az5:∀ {rs qs:List (List T)},yW rs=yW qs->rs=qs
 | [],js,h=>by
  cases js with
  | nil=>rfl
  | cons _ _=>exact nomatch congrArg List.length h
 | i::is,js,h=>by
  cases js with
  | nil=>exact nomatch congrArg List.length h
  | cons j js=>rw [qN (congrArg els (List.head_eq_of_cons_eq h)),Az5 (List.tail_eq_of_cons_eq h)]
mutual
theorem Cj9:∀ {b c:Bk},bkE b=bkE c->b=c
 | .gap n,c,h=>by
  cases c with
  | gap m=>exact congrArg _ (Int.ofNat.inj (gI 1 h))
  | _=>exact nob h rfl
 | .head n ts,c,h=>by
  cases c with
  | head m us=>rw [show n=m from Int.ofNat.inj (gI 1 h),qN (gL 2 h)]
  | bad=>exact nomatch gI 1 h
  | _=>exact nob h rfl
 | .bad,c,h=>by
  cases c with
  | bad=>rfl
  | head m us=>exact nomatch gI 1 h
  | _=>exact nob h rfl
 | .list is,c,h=>by
  cases c with
  | list js=>exact congrArg _ (qM (gL 1 h))
  | _=>exact nob h rfl
 | .para rs,c,h=>by
  cases c with
  | para qs=>exact congrArg _ (Az5 (gL 1 h))
  | _=>exact nob h rfl
 | .quote bs,c,h=>by
  cases c with
  | quote cs=>exact congrArg _ (qS (gL 1 h))
  | _=>exact nob h rfl
theorem qS:∀ {bs cs:List Bk},bkEs bs=bkEs cs->bs=cs
 | [],js,h=>by
  cases js with
  | nil=>rfl
  | cons _ _=>exact nomatch congrArg List.length h
 | i::is,js,h=>by
  cases js with
  | nil=>exact nomatch congrArg List.length h
  | cons j js=>rw [Cj9 (List.head_eq_of_cons_eq h),qS (List.tail_eq_of_cons_eq h)]
end
mutual
theorem Cz5:∀ {i:It},LI i->∀ r∈rwI i,r.length<=100101
 | .it n ts sub,h=>fun r hr=>by
  rcases List.mem_cons.mp hr with q | q
  ·rw [q,pU];exact Nat.add_le_add h.2.2 (B3 h.1.len)
  ·exact Am8 (is:=sub) h.2.1 r q
theorem Am8:∀ {is:List It},vW is->∀ r∈rwIs is,r.length<=100101
 | [],_=>fun r hr=>nomatch hr
 | i::is,h=>fun r hr=>by
  rcases List.mem_append.mp hr with hr | hr
  ·exact Cz5 h.1 r hr
  ·exact Am8 h.2 r hr
end
mutual
theorem Cz6:∀ {b:Bk}{m:Nat},LB1 b->J3 W m (bkE b)->∀ r∈rwB b,r.length<=100101+m
 | .gap n,m,h,_=>fun r hr=>by rw [(List.mem_replicate.mp hr).2];exact B0 _
 | .bad,m,h,_=>fun r hr=>by rw [List.mem_singleton.mp hr];show 1<=_;exact fG
 | .head n ts,m,h,_=>fun r hr=>by
  rw [List.mem_singleton.mp hr,pU]
  exact A3 (Nat.add_le_add h.2 (B3 h.1.len)) (B4 _ _)
 | .list is,m,h,_=>fun r hr=>A3 (Am8 h.1 r hr) (B4 _ _)
 | .para rs,m,h,_=>fun r hr=>by
  obtain ⟨ts,ht,rfl⟩:=List.mem_map.mp hr
  exact A3 (h ts ht).len (by exact fG)
 | .quote bs,m,h,hf=>fun r hr=>by
  obtain ⟨q,hq,rfl⟩:=List.mem_map.mp hr
  obtain ⟨m',em,hf2⟩:=pW hf
  subst em
  cases m' with
  | zero=>exact hf2.elim
  | succ m' =>
   have:=Am9 (bs:=bs) h hf2.2 q hq
   show q.length+2<=_
   exact G9 this
theorem Am9:∀ {bs:List Bk}{m:Nat},sV bs->(∀ y∈bkEs bs,J3 W m y)->∀ r∈rwBs bs,r.length<=100101+m
 | [],_,_,_=>fun r hr=>nomatch hr
 | b::bs,m,h,hf=>fun r hr=>by
  rcases List.mem_append.mp hr with hr | hr
  ·exact Cz6 h.1 (hf _ (.head _)) r hr
  ·exact Am9 h.2 (fun y hy=>hf y (.tail _ hy)) r hr
end
theorem rL {bs:List Bk}(hlb:sV bs):splitAt 10 (D8 [10] (rwBs bs))=rwBs bs∨splitAt 10 (D8 [10] (rwBs bs))=[[]]:=by
 by_cases hr:rwBs bs=[]
 ·rw [hr];exact Or.inr rfl
 ·exact Or.inl (gZ hr fun r hr x hx q=>by
   have:=zL hlb r hr x hx
   rw [q] at this
   exact nomatch this)
theorem qK {P:Prg}{c:String}{n:Nat}{f:String}{vs:List V}{fn:Fn}{R:Heap->Prop}{H:Heap}(hf:P f=some fn) (hl:vs.length=fn.params) (h:vY (callN P n) (X9 P c n) c fn.body (frame fn vs) R H):X9 P c (n+1) f vs R H:=by
 show (match P f with | some fn=>_ | none=>_)
 rw [hf]
 exact ⟨hl,h⟩
theorem Cj6 {bs:List Bk}(hlb:sV bs) (hl:∀ r∈splitAt 10 (D8 [10] (rwBs bs)),Sg r/\r.length<=900000):X.lst (bkEs (rdF 9 (splitAt 10 (D8 [10] (rwBs bs)))))=.lst (bkEs bs)↔(bs≠[]/\yT 0 [] bs):=by
 constructor
 ·intro h
  injection h with h
  have e:=qS h
  have h1:=Co2 9 0 _ rfl hl
  have h2:=Cn3 (d:=9) (deep:=0) rfl (uL (c:=10) (s:=D8 [10] (rwBs bs))).1
  rw [e] at h1 h2
  exact ⟨h2,h1⟩
 ·intro h
  have hb:=Ci2 (d:=9) rfl h.2
  have hr:rwBs bs≠[]:=fun q=>by
   rw [q] at hb
   exact h.1 hb.symm
  have e:splitAt 10 (D8 [10] (rwBs bs))=rwBs bs:=gZ hr fun r hr x hx q=>by
   have:=zL hlb r hr x hx
   rw [q] at this
   exact nomatch this
  rw [e,hb]
theorem Ba9 {n k:Nat}{ns:List Int}{H:Heap}:∃ c:Int,∀ Q:C2,Q (.int c) H->callN P (n+1) "_law_cell_at" [.frz ns,.int (k:Nat)] Q H:=by
 by_cases hk:k<ns.length
 ·refine ⟨ns[k],fun Q h=>eK (C5 (G6 (D9 (fun zz h=>h) (P1 (fun zz h=>h) Bn3) T5) (decide_eq_true (Int.ofNat_lt.mpr hk))) (E0 (F9 (fun zz h=>h) (fun zz h=>h) ?_) h))⟩
  show (K6 (k:Int) ns.length).bind (fun k=>(ns[k]?).map V.int)=some (.int ns[k])
  rw [X5 hk]
  show (ns[k]?).map V.int=_
  rw [List.getElem?_eq_getElem hk];rfl
 ·exact ⟨0,fun Q h=>eK (C1 (G6 (D9 (fun zz h=>h) (P1 (fun zz h=>h) Bn3) T5) (decide_eq_false fun q=>hk (Int.ofNat_lt.mp q))) (E0 (fun zz h=>h) h))⟩
theorem Ch4 {m n:Nat}:min (min (3+m) n) n - min 2 n<=m+1:=by
 rw [Nat.min_assoc,Nat.min_self]
 by_cases h:n<=2
 ·rw [Nat.min_eq_right h]
  exact A3 (Nat.sub_le_sub_right (Nat.min_le_right _ _) n) (A3 (Nat.le_of_eq (Nat.sub_self n)) (B0 _))
 ·rw [Nat.min_eq_left (Nat.le_of_not_le h)]
  exact A3 (Nat.sub_le_sub_right (Nat.min_le_left _ _) 2) (by rw [Nat.add_comm];exact A4 _)
theorem Ch5 {ns:List Int}{m:Nat}:(slice ns (some 2) (some (3+(m:Int)))).length<=m+1:=by
 show ((ns.take (if 3+(m:Int)<0 then (3+(m:Int)+ns.length).toNat else min (3+(m:Int)).toNat ns.length)).drop (if (2:Int)<0 then (2+(ns.length:Int)).toNat else min (2:Int).toNat ns.length)).length<=m+1
 rw [if_neg (show ¬ (2:Int)<0 by decide),if_neg (show ¬ 3+(m:Int)<0 from Int.not_lt.mpr (Int.natCast_nonneg (3+m))),List.length_drop,List.length_take]
 exact Ch4
theorem Ct3 {N lo hi a m:Nat}{bs:List Bk}{R:Heap->Prop}{H:Heap}(hb:sV bs) (hm:m<100) (hf:J3 W m (.lst (bkEs bs))) (hr:I1 H (.lst (bkEs bs)) lo hi (.ref a)) (hh:hi<=H.length) (hn:¬ (bs≠[]/\yT 0 [] bs)) (h:∀ G,D0 H G->R G):X9 P "BadTree" (N+61+1+1+1) "shown" [.ref a] R H:=by
 have ev:W5 (callN P (N+61)) [some (.ref a)] H (.not (.call "normal" [.var 0])) (.bool true) (D0 H):=mF (t:=false) (V2 (fun zz h=>h) fun Q k=>qL (n:=N) hb hm hf hr hh Q fun G g=>by rw [J0 hn];exact k G g)
 have h1:X9 P "BadTree" (N+61+1) "need_normal" [.ref a] R H:=qK gM rfl (oO (Cr7 (ev _ fun G g=>oO (Bu4 (h G g)))))
 have h2:X9 P "BadTree" (N+61+1+1) "pieces" [.ref a] R H:=qK Af8 rfl (oO (Cf8 (wY (H9 (v:=.ref a) (fun zz h=>h) (G8 h1)))))
 exact qK Bc0 rfl (oO (Cr6 (Cf7 (Au3 ⟨⟨_,rfl⟩,Cf9 (wY (H9 (v:=.ref a) (fun zz h=>h) (G8 h2)))⟩))))
structure TZ where
 bs:List Bk
 e4:Option V
 e5:Option V
theorem Cu0 (ns:List Int):Cp4 (callN P 100) (X9 P "BadTree" 100) "BadTree" Bk9 (.assign 9 (.call "shown" [.var 2])) Co1 Bk3 [some (.frz ns),none,none,none,none,none,none,none,none,none] (fun fl zz zz=>fl=.ret (.bool true)) []:=by
 have hlim:I3=16777216:=rfl
 obtain ⟨c0,hc0⟩:=Ba9 (n:=99) (k:=0) (ns:=ns) (H:=[])
 obtain ⟨c1,hc1⟩:=Ba9 (n:=99) (k:=1) (ns:=ns) (H:=[[]])
 refine C9 (P5 (C8 (vs:=[.frz ns,.int ((0:Nat):Int)]) (fun zz h=>h) hc0) (by decide)) ?_
 have hodd:0<=c0 % 14:=Int.emod_nonneg _ (by decide)
 generalize c0 % 14=odd at hodd
 refine I0 (H1:=[[]]) (v:=.ref 0) (fun zz h=>h) (C9 (P5 (C8 (vs:=[.frz ns,.int ((1:Nat):Int)]) (fun zz h=>h) hc1) (by decide)) ?_)
 obtain ⟨k5,hk5,e5⟩:=M7 c1 (n:=5) (by decide)
 rw [e5]
 have go:∀ m:Nat,(odd=0->m<=4)->(odd≠0->m<=1)->C6 (callN P 100) (Bk9.drop 4) [some (.frz ns),some (.int odd),some (.ref 0),some (.int (m:Nat)),none,none,none,none,none,none] (fun fl ρ' H₁=>match fl with | .next=>Cx0 (callN P 100) (X9 P "BadTree" 100) "BadTree" (.assign 9 (.call "shown" [.var 2])) Co1 Bk3 ρ' (fun fl zz zz=>fl=.ret (.bool true)) H₁ | fl=>fl=.ret (.bool true)) [[]]:=fun m hm0 hm1=>by
  have hsl:=Ch5 (ns:=ns) (m:=m)
  generalize hsl0:slice ns (some 2) (some (3+(m:Int)))=cs at hsl
  have hm4:m<=4:=by
   by_cases q:odd=0
   ·exact hm0 q
   ·exact A3 (hm1 q) (by decide)
  have hcl:(cs.map V.int).length=cs.length:=B6 _
  refine H5 (Bn6 ?_)
  show ∃ n,aK _ 4 (.lst 1) n 0 _ _ ([[]]++[(slice ns (some 2) (some (3+(m:Int)))).map V.int])
  rw [hsl0]
  refine Al4 (σ:=TZ) (fun y=>[some (.frz ns),some (.int odd),some (.ref 0),some (.int (m:Nat)),y.e4,y.e5,none,none,none,none]) (fun i y G=>BV [] odd 3 i y.bs G/\i<=cs.length/\G[1]? = some (cs.map V.int)) (l:=cs.map V.int) (fun i y G hI=>hI.2.2) (fun i y G v hv hI K hK=>?_) (fun y G hI=>?_) ⟨[],none,none⟩ ⟨⟨⟨B0 _,fun x zz q=>absurd q (Nat.not_lt_zero x)⟩,⟨[],rfl,.nil (by show 1<=2;decide)⟩,trivial,B0 _,(fun y hy=>nomatch hy),fun k=>B0 _⟩,B0 _,rfl⟩
  ·obtain ⟨hI,hil,hg1⟩:=hI
   obtain ⟨bs,e4,e5⟩:=y
   have hi:i<cs.length:=hcl▸(List.getElem?_eq_some_iff.mp hv).1
   rw [C0] at hv
   obtain ⟨x,_,rfl⟩:=Option.map_eq_some_iff.mp hv
   obtain ⟨l,hl,hrl⟩:=hI.get
   refine M8 (vs:=[.int (kN x (l.length:Nat) / 3),.int ((0:Nat):Int),.int odd]) (C4 (R7 (C8 (C4 (fun zz h=>h) (C4 (P1 (fun zz h=>h) (N0 hl)) J5)) gQ) (by decide)) (fun zz h=>h)) (Bq0 3 59 (A4 _) _ odd 0 G _ rfl fun b v G1 bb g1 hrb=>?_)
   exact Bb0 (Hb:=[]) (xl:=2) (xb:=5) (xo:=1) (i:=i) (A4 _) (by exact G9 (I6 hil (I6 hsl hm4))) hI bb g1 hrb rfl rfl rfl fun bs' G' hI' u=>hK ⟨bs',_,_⟩ _ ⟨hI',hi,u.get (by decide) (g1.get hg1)⟩
  ·obtain ⟨hI,hil,_⟩:=hI
   obtain ⟨bs,e4,e5⟩:=y
   rw [hcl] at hI
   obtain ⟨l,hl,hrl⟩:=hI.get
   have hr:I1 G (.lst (bkEs bs)) 0 G.length (.ref 0):=kX (k:=0) hl hrl
   have hbn:bs.length<=cs.length:=hI.n
   have hbig:=Cv3 (odd:=odd) (bs:=bs) (fun q=>A3 hbn (A3 hsl (B3 (hm0 q)))) (fun q=>A3 hbn (A3 hsl (B3 (hm1 q))))
   have hwt:∀ k,tot k (rwBs bs)<=bwo odd (QB odd 3) bs * (capC odd+26+k):=fun k=>by
    have:=hI.wt k
    rw [show capC odd+26+k=Rk odd (2 * 3+k) by show _=capC odd+20+(2 * 3+k);lia]
    exact this
   have hcnt:(rwBs bs).length<=2430:=A3 (Bx1 hwt) hbig.1
   have htot:tot 1 (rwBs bs)<=16000000:=A3 (hI.wt 1) hbig.2
   have hfit:J3 W 46 (.lst (bkEs bs)):=⟨by rw [R8];exact A3 hbn (A3 hsl (A3 (B3 hm4) (by show 5<=1000000;decide))),hI.fit⟩
   have hlb:=hI.lb
   have hjl:(D8 [10] (rwBs bs)).length<=16700000:=A3 (Ad6 _) (A3 htot (by decide))
   have hrl1:∀ r∈rwBs bs,r.length<=900000:=fun r hr=>A3 (Am9 hlb hfit.2 r hr) (by decide)
   have hspl:∀ r∈splitAt 10 (D8 [10] (rwBs bs)),Sg r/\r.length<=900000:=by
    rcases rL hlb with e | e
    ·rw [e];exact fun r hr=>⟨zL hlb r hr,hrl1 r hr⟩
    ·rw [e];exact fun r hr=>by rw [List.mem_singleton.mp hr];exact ⟨fun c hc=>(nomatch hc),B0 _⟩
   have hsn:(splitAt 10 (D8 [10] (rwBs bs))).length<=900000:=by
    rcases rL hlb with e | e
    ·rw [e];exact A3 hcnt (by decide)
    ·rw [e];decide
   have hdue:=Cj6 hlb hspl
   clear hI hrl hl hwt hbig
   refine P2 (Al9 (Au3 ⟨[10],rfl,K8 (H9 (v:=.ref 0) (by exact fun zz h=>h) (G8 (Ad3 46 12 bs 0 0 G.length G _ hlb hfit hr (A4 _) (A3 htot (by decide)) fun c G1 o=>Cm7 (rwBs bs) o.get ?_ ?_)))⟩) (U3 _ _))
   ·show _+_ * 1<=I3
    rw [<- Am2 1]
    exact A3 htot (by decide)
   have g1:=o.gr
   clear o
   generalize htt:D8 [10] (rwBs bs)=t at hspl hsn hdue ⊢
   refine P2 (K8 (J1 (K8 (J1 (Cg9 (s:=t) (c:=10) (by exact fun zz h=>h) (by exact fun zz h=>h) (by rw [<- htt];exact ltL hjl) _ (H9 (v:=.int ((0:Nat):Int)) (by exact fun zz h=>h) (G8 (rQ 9 0 38 rfl G1.length (splitAt 10 t) _ _ D3 hsn (fun r hr=>⟨(hspl r hr).2,fS (hspl r hr).1⟩) fun v2 G2 g2 r2=>?_))))))))
   have g12:D0 G G2:=g1.trans (D0.one.trans g2)
   refine H9 (v:=.ref 0) (by exact fun zz h=>h) (G8 (Ck1 (k:=53) (w:=W) (by decide) 46 _ _ _ _ _ _ _ _ hfit r2 (hr.grow g12 (A4 _)) _ ?_))
   rw [U1 hdue]
   refine M8 (fun zz h=>h) (qL (n:=39) hlb (m:=46) (by decide) hfit (hr.grow g12 (A4 _)) g12.len _ fun G3 g3=>?_)
   generalize hp:(bs≠[]/\yT 0 [] bs)=p
   refine C1 (K3 (b:=false) (b2:=false) (fun zz h=>h) fun zz=>S6 (G6 (D9 (fun zz h=>h) (fun zz h=>h) (t:=!(cO p==cO p)) rfl) (by rw [beq_self_eq_true];rfl))) ?_
   have gz:=g12.trans g3
   by_cases hn:p
   ·rw [L8 hn]
    rw [<- hp] at hn
    refine Or.inl ?_
    show callN P 100 "shown" [.ref 0] (fun v H₁=>C6 (callN P 100) Bk3 [some (.frz ns),some (.int odd),some (.ref 0),some (.int (m:Nat)),e4,e5,some (.str t),some (.bool true),some (.bool true),some v] (fun fl zz zz=>fl=.ret (.bool true)) H₁) G3
    refine Bw8 (n:=36) (m:=46) ⟨hn.1,hn.2,hlb,by decide,hfit⟩ (hr.grow gz (A4 _)) gz.len (A3 hcnt (by decide)) (fun r hr=>A3 (hrl1 r hr) (by decide)) hjl fun G4 g4=>?_
    rw [htt]
    exact E0 (D1 (b:=true) (b2:=true) (fun zz h=>h) fun zz=>D1 (b:=true) (b2:=true) (fun zz h=>h) fun zz=>H8 (G6 (D9 (fun zz h=>h) (fun zz h=>h) S7) (beq_self_eq_true _))) rfl
   ·rw [J0 hn]
    rw [<- hp] at hn
    refine Or.inr ?_
    refine Be6 rfl (wY (H9 (v:=.ref 0) (by exact fun zz h=>h) (G8 ?_)))
    exact Ct3 (N:=36) hlb (m:=46) (by decide) hfit (hr.grow gz (A4 _)) gz.len hn fun G4 g4=>rfl
 have hk4:k5<=4:=Nat.lt_succ_iff.mp (Int.ofNat_lt.mp hk5)
 by_cases hz:odd=0
 ·refine C1 (G6 (fQ (n:=0) (z:=odd) (fun zz h=>h)) (decide_eq_false (by lia))) (go k5 (fun zz=>hk4) fun q=>absurd hz q)
 ·obtain ⟨k2,hk2,e2⟩:=M7 ((k5:Nat):Int) (n:=2) (by decide)
  refine C5 (G6 (fQ (n:=0) (z:=odd) (fun zz h=>h)) (decide_eq_true (by lia))) (C9 (iB (P5 (z:=((k5:Nat):Int)) (fun zz h=>h) (by decide)) (congrArg V.int e2)) ?_)
  exact go k2 (fun q=>absurd q hz) fun zz=>Nat.lt_succ_iff.mp (Int.ofNat_lt.mp hk2)
end L09
open PySem PySem.W PyProof.Rows
namespace L09
end L09
set_option maxHeartbeats 8000000 in
theorem PySem.Challenge.cw_uf010012_09_holds : PySem.Challenge.rw_uf010012_09.Holds := by
 refine holds_law L09.said fun said=>?_
 refine holds_open (q:=L09.vw) (loose:=[]) (Xt:=fun s=>xlAt L09.vw [] s&&recOk [] s) (XP:=XL L09.vw []) (Yf:=Hook.obs Hook.none) (Ya:=Hook.val Hook.none) (YP:=Hook.says Hook.none) (N:=3000) L09.left (Hook.of Hook.none) (Hook.keeps Hook.none) (fun s e=>xl_of s (Bool.and_eq_true_iff.mp e).1) XL.keeps (by rfl) (by rfl) (by rfl) (fun s e=>recFacts_of (Bool.and_eq_true_iff.mp e).2) (by rfl) said (by decide +kernel) ⟨rfl,rfl,rfl,rfl,rfl,by decide +kernel⟩ ?hw ?hc
 case hw=>w_witness2
 intro w s₀ s₁ mg mb G Y fa o pm cd doc dV kV ho hd hcd hD hmg hg args vals as hpre hlay hrd hwl hlo
 exact MiniS.Be0 (l:=PySem.Challenge.rw_uf010012_09) rfl G.T hg hmg hpre hrd L09.gl L09.prg 100 (by decide) (by decide +kernel) (fn:=L09.Da5) (c := "BadTree") (newId := "ValueError.__new__") (bm:=[.type "ValueError",.type "Exception",.type "BaseException",.type "object"]) (by decide +kernel) (by decide +kernel) F.excBase_ValueError (by decide +kernel) F.excBase_ValueError (by decide +kernel) rfl rfl rfl rfl (fun ns zz=>L09.Cu0 ns)
