import PyProof.Rows.All
import KE.KItem
import Open.Line
import PySem.Challenge.RW_uf010012_13
set_option tactic.hygienic false
set_option Elab.async false
set_option maxRecDepth 100000
set_option genSizeOf false
set_option genInjectivity false
universe u v
theorem A3 {n m k:Nat}(h:n≤m) (g:m≤k):n≤k:=Nat.le_trans h g
theorem A4 (a:Nat):a≤a:=Nat.le_refl a
theorem A6 {α:Type u}{as bs:List α}:(as++bs).length=as.length+bs.length:=List.length_append
theorem A7 {α:Type u}(as bs cs:List α):as++bs++cs=as++(bs++cs):=List.append_assoc as bs cs
theorem A8 {a b c:Nat}(h:a<b) (k:b≤c):a<c:=Nat.lt_of_lt_of_le h k
theorem A9 {a b c:Nat}(h:a≤b) (k:b<c):a<c:=Nat.lt_of_le_of_lt h k
theorem B0 (a:Nat):0≤a:=Nat.zero_le a
theorem B1 (a:Nat):a<a+1:=Nat.lt_succ_self a
theorem B3 {a b:Nat}(h:a≤b):a+1≤b+1:=Nat.succ_le_succ h
theorem B4 (a b:Nat):a≤a+b:=Nat.le_add_right a b
theorem B5 {a b:Nat}(h:a<b):a≤b:=Nat.le_of_lt h
theorem B6 {α:Type u}{β:Type v}{l:List α}(f:α → β):(l.map f).length=l.length:=List.length_map f
theorem B8 (a:Nat):a≤a+1:=Nat.le_succ a
theorem B9 {α:Type u}{l:List α}{i:Nat}{a:α}(e:l[i]? = some a):a∈l:=List.mem_of_getElem? e
theorem C0 {α:Type u}{β:Type v}{f:α → β}{l:List α}{i:Nat}:(l.map f)[i]? = (l[i]?).map f:=List.getElem?_map
namespace Mini
theorem M4 {A B L R:Nat}(h:A<=B) (e:L+B<=R+A:=by simp +arith only):L<=R:=Nat.le_of_add_le_add_right (A3 e (Nat.add_le_add_left h R))
theorem fkz {L R:Nat}(e:L<=R:=by simp +arith only):L<=R:=e
theorem fkf {A B:Nat}{p:Prop}(h:A<=B) (e:B+1<=A:=by simp +arith only):p:=absurd (A3 e h) (Nat.not_succ_le_self B)
theorem M9 {a b c d:Nat}(h:a<=b) (k:c<=d):a+c<=b+d:=Nat.add_le_add h k
inductive V where
 | none
 | bool (b:Bool)
 | int (i:Int)
 | str (s:List Nat)
 | ref (a:Nat)
 | tup (vs:List V)
 | frz (ns:List Int)
abbrev Heap:=List (List V)
abbrev D7:=List (Option V)
noncomputable def I8:Nat:=16777216
inductive Op where
 | add | sub | mul | fdiv | mod | pow
inductive Cmp where
 | eq | ne | lt | le | gt | ge | isin | notin
inductive xJ where
 | none | tt | ff
inductive Ty where
 | str | int | bool | list | tuple
inductive E where
 | none
 | bool (b:Bool)
 | int (i:Int)
 | str (s:List Nat)
 | var (x:Nat)
 | glob (g:String) (i:Int)
 | bin (o:Op) (l r:E)
 | neg (i:Int)
 | cmp (o:Cmp) (l r:E)
 | cmp2 (o₁ o₂:Cmp) (a b c:E)
 | is (e:E) (c:xJ)
 | isnot (e:E) (c:xJ)
 | and (es:List E)
 | or (es:List E)
 | not (e:E)
 | idx (o i:E)
 | slc (o l h:E)
 | slcL (o l:E)
 | slcH (o h:E)
 | call (f:String) (es:List E)
 | isinst (e:E) (t:Ty)
 | len (e:E)
 | toInt (e:E)
 | ord (e:E)
 | append (o e:E)
 | extend (o e:E)
 | pop (o:E)
 | find (o a b:E)
 | replace (o a b:E)
 | join (o a:E)
 | split (o a:E)
 | lstrip (o a:E)
 | list (es:List E)
 | tup (es:List E)
 | comp (elt:E) (x:Nat) (src:E) (ifs:List E)
 | compR (elt:E) (x:Nat) (n:E) (ifs:List E)
inductive S where
 | assign (x:Nat) (e:E)
 | setIdx (o i e:E)
 | expr (e:E)
 | ite (c:E) (t f:List S)
 | whl (c:E) (b:List S)
 | forIn (x:Nat) (e:E) (b:List S)
 | forR (x:Nat) (e:E) (b:List S)
 | forEnum (x y:Nat) (e:E) (b:List S)
 | ret (e:E)
 | retNone
 | cont
 | pass
 | raise (c:String) (m:List Nat)
structure Fn where
 names:List String
 params:Nat
 lits:List Nat:=[]
 bump:Bool:=false
 body:List S
abbrev Prg:=String->Option Fn
noncomputable def K3 (i:Int) (n:Nat):Option Nat :=
 if 0<=i then (if i<n then some i.toNat else none)
 else if -(n:Int)<=i then some (i+n).toNat else none
noncomputable def mU (i:Int) (n:Nat):Nat :=
 if i<0 then (i+n).toNat else min i.toNat n
noncomputable def Ai5 (lo:Option Int) (n:Nat):Nat:=match lo with
 | some i=>mU i n
 | none=>0
noncomputable def xR (hi:Option Int) (n:Nat):Nat:=match hi with
 | some i=>mU i n
 | none=>n
noncomputable def slice {α:Type}(l:List α) (lo hi:Option Int):List α:=(l.take (xR hi l.length)).drop (Ai5 lo l.length)
noncomputable def idx? (c:Nat):List Nat->Option Nat
 | []=>none
 | x::l=>if x=c then some 0 else (idx? c l).map (· + 1)
noncomputable def rO (s:List Nat) (c:Nat) (i:Nat):Int:=match idx? c (s.drop i) with
 | some k=>((i+k:Nat):Int)
 | none=>-1
noncomputable def T5 (s:List Nat) (a b:Nat):List Nat:=s.map fun c=>if c=a then b else c
noncomputable def splitAt (c:Nat):List Nat->List (List Nat)
 | []=>[[]]
 | x::l=>if x=c then []::splitAt c l else match splitAt c l with
  | []=>[[x]]
  | w::r=>(x::w)::r
noncomputable def joinWith (sep:List Nat):List (List Nat)->List Nat
 | []=>[]
 | [w]=>w
 | w::r=>w++sep++joinWith sep r
noncomputable def qR:List V->Option (List (List Nat))
 | []=>some []
 | .str s::r=>(qR r).map (s::·)
 | _::_=>Option.none
noncomputable def intL:List V->Option (List Int)
 | []=>some []
 | .int s::r=>(intL r).map (s::·)
 | _::_=>Option.none
inductive D where
 | none
 | bool (b:Bool)
 | int (i:Int)
 | str (s:List Nat)
 | list (l:List D)
 | tup (l:List D)
noncomputable def xH (f:V->Option D):List V->Option (List D)
 | []=>some []
 | v::l=>match f v with
  | some d=>(xH f l).map (d::·)
  | Option.none=>Option.none
noncomputable def rd (H:Heap):Nat->V->Option D
 | 0,_=>Option.none
 | n+1,v=>match v with
  | .none=>some .none
  | .bool b=>some (.bool b)
  | .int i=>some (.int i)
  | .str s=>if s.all (fun c=>decide (c<1114112)) then some (.str s) else Option.none
  | .tup l=>(xH (rd H n) l).map .tup
  | .ref a=>match H[a]? with
   | some l=>(xH (rd H n) l).map .list
   | Option.none=>Option.none
  | .frz _=>Option.none
mutual
noncomputable def xI:D->D->Bool
 | .none,e=>match e with | .none=>true | _=>false
 | .bool a,e=>match e with | .bool b=>a==b | .int j=>(if a then 1 else 0)==j | _=>false
 | .int i,e=>match e with | .int j=>i==j | .bool b=>i==(if b then 1 else 0) | _=>false
 | .str a,e=>match e with | .str b=>a==b | _=>false
 | .list a,e=>match e with | .list b=>Az4 a b | _=>false
 | .tup a,e=>match e with | .tup b=>Az4 a b | _=>false
noncomputable def Az4:List D->List D->Bool
 | [],e=>match e with | []=>true | _=>false
 | x::l,e=>match e with | y::r=>xI x y&&Az4 l r | _=>false
end
noncomputable def K7:Nat:=100
abbrev Res:=Option (V×Heap)
section
variable {α:Type}
noncomputable def N7 (v:V) (f:Int->Option α):Option α:=match v with
 | .int i=>f i
 | _=>Option.none
noncomputable def As5 (v:V) (f:List Nat->Option α):Option α:=match v with
 | .str i=>f i
 | _=>Option.none
noncomputable def xX (v:V) (f:Nat->Option α):Option α:=match v with
 | .ref i=>f i
 | _=>Option.none
noncomputable def Bj4 (v:V) (f:Bool->Option α):Option α:=match v with
 | .bool i=>f i
 | _=>Option.none
noncomputable def Cg8 (s:List Nat) (f:Nat->Option α):Option α:=match s with
 | [c]=>f c
 | _=>Option.none
theorem I9 {v:V}{f:Int->Option α}{r:α}(h:N7 v f=some r):∃ i,v=.int i/\f i=some r:=by
 cases v with
 | int i=>exact ⟨i,rfl,h⟩
 | _=>exact nomatch (show Option.none=some r from h)
theorem nR {v:V}{f:List Nat->Option α}{r:α}(h:As5 v f=some r):∃ i,v=.str i/\f i=some r:=by
 cases v with
 | str i=>exact ⟨i,rfl,h⟩
 | _=>exact nomatch (show Option.none=some r from h)
theorem gI {v:V}{f:Nat->Option α}{r:α}(h:xX v f=some r):∃ i,v=.ref i/\f i=some r:=by
 cases v with
 | ref i=>exact ⟨i,rfl,h⟩
 | _=>exact nomatch (show Option.none=some r from h)
theorem Bc0 {v:V}{f:Bool->Option α}{r:α}(h:Bj4 v f=some r):∃ i,v=.bool i/\f i=some r:=by
 cases v with
 | bool i=>exact ⟨i,rfl,h⟩
 | _=>exact nomatch (show Option.none=some r from h)
theorem Bp8 {s:List Nat}{f:Nat->Option α}{r:α}(h:Cg8 s f=some r):∃ c,s=[c]/\f c=some r:=by
 match s,h with
 | [c],h=>exact ⟨c,rfl,h⟩
 | [],h=>exact nomatch (show Option.none=some r from h)
 | _::_::_,h=>exact nomatch (show Option.none=some r from h)
theorem X4 {c:Prop} [Decidable c] {x r:α}(h:(if c then some x else Option.none)=some r):c/\x=r:=by
 by_cases hc:c
 ·rw [if_pos hc] at h;cases h;exact ⟨hc,rfl⟩
 ·rw [if_neg hc] at h;cases h
end
noncomputable def xP (v:V) (f:Nat->Prop):Prop:=match v with
 | .str [c]=>f c
 | _=>False
noncomputable def Cp4 (v:V) (f:Int->Prop):Prop:=match v with
 | .int c=>f c
 | _=>False
theorem Q2 {v:V}{f:Nat->Prop}(h:xP v f):∃ c,v=.str [c]/\f c:=by
 cases v with
 | str s =>
  match s,h with
  | [c],h=>exact ⟨c,rfl,h⟩
  | [],h=>exact False.elim h
  | _::_::_,h=>exact False.elim h
 | _=>exact False.elim h
theorem Cg7 {v:V}{f:Nat->Prop}(h:match v with | .str [c]=>f c | _=>False):xP v f:=h
theorem Av6 {v:V}{f:Int->Prop}(h:Cp4 v f):∃ c,v=.int c/\f c:=by
 cases v with
 | int i=>exact ⟨i,rfl,h⟩
 | _=>exact False.elim h
noncomputable def Cp6 (a b:V) (H:Heap):Res:=match a with
 | .int a=>N7 b fun b=>some (.int (a+b),H)
 | .str a=>As5 b fun b=>if a.length+b.length<=I8 then some (.str (a++b),H) else Option.none
 | .ref a=>xX b fun b=>(H[a]?).bind fun l=>(H[b]?).bind fun r=>if l.length+r.length<=I8 then some (.ref H.length,H++[l++r]) else Option.none
 | _=>Option.none
noncomputable def Cp5 (a b:V) (H:Heap):Res:=match a with
 | .int a=>N7 b fun b=>if a.natAbs<1152921504606846976∨b.natAbs<1152921504606846976 then some (.int (a * b),H) else Option.none
 | .str a=>N7 b fun n=>if a.length * n.toNat<=I8/\-4611686018427387904<n/\n<4611686018427387904 then some (.str (List.replicate n.toNat a).flatten,H) else Option.none
 | .ref a=>N7 b fun n=>(H[a]?).bind fun l=>if l.length * n.toNat<=I8/\-4611686018427387904<n/\n<4611686018427387904 then some (.ref H.length,H++[(List.replicate n.toNat l).flatten]) else Option.none
 | _=>Option.none
noncomputable def eK (o:Op) (a b:V) (H:Heap):Res :=
 match o with
 | .add=>Cp6 a b H
 | .sub=>N7 a fun a=>N7 b fun b=>some (.int (a - b),H)
 | .mul=>Cp5 a b H
 | .fdiv=>N7 a fun a=>N7 b fun b=>if 0<b/\b<1073741824 then some (.int (a / b),H) else Option.none
 | .mod=>N7 a fun a=>N7 b fun b=>if 0<b then some (.int (a % b),H) else Option.none
 | .pow=>Option.none
noncomputable def uK (a b:V):Option Bool:=match a with
 | .int a=>N7 b fun b=>some (a==b)
 | .bool a=>Bj4 b fun b=>some (a==b)
 | .str a=>As5 b fun b=>some (a==b)
 | _=>Option.none
noncomputable def uL (a b:V) (H:Heap):Option Bool:=(rd H K7 a).bind fun x=>(rd H K7 b).bind fun y=>some (xI x y)
noncomputable def eqV (a b:V) (H:Heap):Option Bool:=match uK a b with
 | some t=>some t
 | Option.none=>uL a b H
noncomputable def memV (a t:V) (H:Heap):Option Bool :=
 match rd H K7 a,rd H K7 t with
 | some x,some (.tup l)=>some (l.any fun y=>xI y x)
 | _,_=>Option.none
noncomputable def inV (a b:V) (H:Heap):Option Bool:=match b with
 | .str b=>As5 a fun s=>Cg8 s fun c=>some (b.contains c)
 | .tup l=>memV a (.tup l) H
 | _=>Option.none
noncomputable def Q6 (o:Cmp) (a b:V) (H:Heap):Option Bool :=
 match o with
 | .eq=>eqV a b H
 | .ne=>(eqV a b H).map (!·)
 | .lt=>N7 a fun a=>N7 b fun b=>some (decide (a<b))
 | .le=>N7 a fun a=>N7 b fun b=>some (decide (a<=b))
 | .gt=>N7 a fun a=>N7 b fun b=>some (decide (b<a))
 | .ge=>N7 a fun a=>N7 b fun b=>some (decide (b<=a))
 | .isin=>inV a b H
 | .notin=>(inV a b H).map (!·)
noncomputable def isV (a:V) (c:xJ):Bool :=
 match a,c with
 | .none,.none=>true
 | .bool true,.tt=>true
 | .bool false,.ff=>true
 | _,_=>false
noncomputable def cR (a:V) (t:Ty):Bool :=
 match a,t with
 | .str _,.str=>true
 | .int _,.int=>true
 | .bool _,.int=>true
 | .bool _,.bool=>true
 | .ref _,.list=>true
 | .frz _,.list=>true
 | .tup _,.tuple=>true
 | _,_=>false
noncomputable def uA (a:V) (H:Heap):Option Int :=
 match a with
 | .str s=>some (s.length:Int)
 | .tup l=>some (l.length:Int)
 | .frz l=>some (l.length:Int)
 | .ref a=>(H[a]?).map fun l=>(l.length:Int)
 | _=>Option.none
noncomputable def X9 (o i:V) (H:Heap):Option V:=N7 i fun i=>match o with
 | .str s=>(K3 i s.length).bind fun k=>(s[k]?).map fun c=>.str [c]
 | .tup l=>(K3 i l.length).bind fun k=>l[k]?
 | .frz l=>(K3 i l.length).bind fun k=>(l[k]?).map .int
 | .ref a=>(H[a]?).bind fun l=>(K3 i l.length).bind fun k=>l[k]?
 | _=>Option.none
noncomputable def dL (o:V) (lo hi:Option Int) (H:Heap):Res :=
 match o with
 | .str s=>some (.str (slice s lo hi),H)
 | .frz l=>some (.ref H.length,H++[(slice l lo hi).map .int])
 | .ref a=>(H[a]?).map fun l=>(.ref H.length,H++[slice l lo hi])
 | _=>Option.none
noncomputable def Cj0 (o i v:V) (H:Heap):Option Heap:=xX o fun a=>N7 i fun i =>
 (H[a]?).bind fun l=>(K3 i l.length).map fun k=>H.set a (l.set k v)
noncomputable def X1 (o v:V) (H:Heap):Option Heap :=
 match o with
 | .ref a=>(H[a]?).bind fun l=>if l.length<I8 then some (H.set a (l++[v])) else Option.none
 | _=>Option.none
noncomputable def vL (o v:V) (H:Heap):Option Heap:=xX o fun a=>xX v fun b =>
 (H[a]?).bind fun l=>(H[b]?).bind fun r=>if a≠b/\l.length+r.length<=I8 then some (H.set a (l++r)) else Option.none
noncomputable def Ai3 (o:V) (H:Heap):Res :=
 match o with
 | .ref a=>(H[a]?).bind fun l=>(l.getLast?).map fun v=>(v,H.set a l.dropLast)
 | _=>Option.none
inductive It where
 | lst (a:Nat)
 | fix (vs:List V)
noncomputable def It.at (it:It) (H:Heap) (i:Nat):Option V :=
 match it with
 | .lst a=>match H[a]? with
  | some l=>l[i]?
  | Option.none=>Option.none
 | .fix vs=>vs[i]?
noncomputable def iterV (v:V):Option It :=
 match v with
 | .ref a=>some (.lst a)
 | .frz l=>some (.fix (l.map .int))
 | .str s=>some (.fix (s.map fun c=>.str [c]))
 | _=>Option.none
noncomputable def rangeV (v:V):Option It :=
 match v with
 | .int n=>@ite _ (-4611686018427387904<=n/\n<4611686018427387904) (Classical.propDecidable _) (some (.fix ((List.range n.toNat).map fun k:Nat=>V.int (k:Int)))) Option.none
 | _=>Option.none
abbrev C2:=V->Heap->Prop
abbrev Calls:=String->List V->C2->Heap->Prop
noncomputable def res (r:Res) (Q:C2):Prop:=match r with
 | some (v,H)=>Q v H
 | Option.none=>False
theorem Cl3 {r:Res}{Q:C2}(h:res r Q):∃ v H,r=some (v,H)/\Q v H:=by
 cases r with
 | some p=>exact ⟨p.1,p.2,rfl,h⟩
 | none=>exact False.elim h
noncomputable def val (r:Option V) (Q:C2) (H:Heap):Prop:=match r with
 | some v=>Q v H
 | Option.none=>False
noncomputable def boo (r:Option Bool) (Q:Bool->Heap->Prop) (H:Heap):Prop:=match r with
 | some b=>Q b H
 | Option.none=>False
noncomputable def hea (r:Option Heap) (Q:C2):Prop:=match r with
 | some H=>Q .none H
 | Option.none=>False
noncomputable def J1 (v:V):Option Bool:=match v with
 | .bool b=>some b
 | _=>Option.none
noncomputable def yB (s:List Nat) (va vb:V) (Q:C2) (H:Heap):Prop:=xP va fun c=>Cp4 vb fun i=>0<=i/\Q (.int (rO s c i.toNat)) H
noncomputable def Y9 (s:List Nat) (va vb:V) (Q:C2) (H:Heap):Prop:=xP va fun x=>xP vb fun y=>x≠y/\s.length<=1000000/\Q (.str (T5 s x y)) H
noncomputable def dP (s:List Nat) (va:V) (Q:C2) (H:Heap):Prop:=match va with
 | .ref a=>match (H[a]?).bind qR with
  | some l=>(l.map List.length).sum+l.length * s.length<=I8/\Q (.str (joinWith s l)) H
  | Option.none=>False
 | _=>False
noncomputable def Aj4 (s:List Nat) (va:V) (Q:C2) (H:Heap):Prop:=xP va fun c=>s.length<I8/\Q (.ref H.length) (H++[(splitAt c s).map .str])
noncomputable def Cy5 (s:List Nat) (va:V) (Q:C2) (H:Heap):Prop:=xP va fun c=>Q (match idx? c s with
  | some k=>.tup [.str (s.take k),.str [c],.str (s.drop (k+1))]
  | Option.none=>.tup [.str s,.str [],.str []]) H
noncomputable def vF (s:List Nat) (va:V) (Q:C2) (H:Heap):Prop:=xP va fun c=>Q (.str (s.dropWhile (· == c))) H
noncomputable def T3 (test:D7->(Bool->Heap->Prop)->Heap->Prop) (elt:D7->C2->Heap->Prop) (x:Nat) (ρ:D7) (it:It) :
  Nat->Nat->List V->(List V->Heap->Prop)->Heap->Prop
 | 0,_,_,_,_=>False
 | n+1,i,acc,Q,H=>match it.at H i with
  | Option.none=>Q acc H
  | some v=>test (ρ.set x (some v)) (fun b H₁=>match b with
   | true=>elt (ρ.set x (some v)) (fun y H₂=>acc.length<I8/\T3 test elt x ρ it n (i+1) (acc++[y]) Q H₂) H₁
   | false=>T3 test elt x ρ it n (i+1) acc Q H₁) H
mutual
noncomputable def D9 (C:Calls):E->D7->C2->Heap->Prop
 | .none,_,Q,H=>Q .none H
 | .bool b,_,Q,H=>Q (.bool b) H
 | .int i,_,Q,H=>Q (.int i) H
 | .str s,_,Q,H=>Q (.str s) H
 | .var x,ρ,Q,H=>match ρ[x]? with
  | some (some v)=>Q v H
  | _=>False
 | .glob _ i,_,Q,H=>Q (.int i) H
 | .bin o l r,ρ,Q,H=>D9 C l ρ (fun a H₁=>D9 C r ρ (fun b H₂=>res (eK o a b H₂) Q) H₁) H
 | .neg i,_,Q,H=>Q (.int (-i)) H
 | .cmp o l r,ρ,Q,H=>D9 C l ρ (fun a H₁=>D9 C r ρ (fun b H₂=>boo (Q6 o a b H₂) (fun b H=>Q (.bool b) H) H₂) H₁) H
 | .cmp2 o₁ o₂ a b c,ρ,Q,H=>D9 C a ρ (fun va H₁=>D9 C b ρ (fun vb H₂=>boo (Q6 o₁ va vb H₂) (fun t H₂=>match t with
   | true=>D9 C c ρ (fun vc H₃=>boo (Q6 o₂ vb vc H₃) (fun b H=>Q (.bool b) H) H₃) H₂
   | false=>Q (.bool false) H₂) H₂) H₁) H
 | .is e c,ρ,Q,H=>D9 C e ρ (fun v H₁=>Q (.bool (isV v c)) H₁) H
 | .isnot e c,ρ,Q,H=>D9 C e ρ (fun v H₁=>Q (.bool (!isV v c)) H₁) H
 | .and es,ρ,Q,H=>fG C es ρ Q H
 | .or es,ρ,Q,H=>tZ C es ρ Q H
 | .not e,ρ,Q,H=>D9 C e ρ (fun v H₁=>boo (J1 v) (fun b H=>Q (.bool (!b)) H) H₁) H
 | .idx o i,ρ,Q,H=>D9 C o ρ (fun vo H₁=>D9 C i ρ (fun vi H₂=>val (X9 vo vi H₂) Q H₂) H₁) H
 | .slc o l h,ρ,Q,H=>D9 C o ρ (fun vo H₁=>D9 C l ρ (fun vl H₂=>D9 C h ρ (fun vh H₃=>match vl,vh with
   | .int a,.int b=>res (dL vo (some a) (some b) H₃) Q
   | _,_=>False) H₂) H₁) H
 | .slcL o l,ρ,Q,H=>D9 C o ρ (fun vo H₁=>D9 C l ρ (fun vl H₂=>match vl with
   | .int a=>res (dL vo (some a) Option.none H₂) Q
   | _=>False) H₁) H
 | .slcH o h,ρ,Q,H=>D9 C o ρ (fun vo H₁=>D9 C h ρ (fun vh H₂=>match vh with
   | .int a=>res (dL vo Option.none (some a) H₂) Q
   | _=>False) H₁) H
 | .call f es,ρ,Q,H=>R7 C es ρ (fun vs H₁=>C f vs Q H₁) H
 | .isinst e t,ρ,Q,H=>D9 C e ρ (fun v H₁=>Q (.bool (cR v t)) H₁) H
 | .len e,ρ,Q,H=>D9 C e ρ (fun v H₁=>val ((uA v H₁).map .int) Q H₁) H
 | .toInt e,ρ,Q,H=>D9 C e ρ (fun v H₁=>match v with
   | .bool b=>Q (.int (if b then 1 else 0)) H₁
   | _=>False) H
 | .ord e,ρ,Q,H=>D9 C e ρ (fun v H₁=>match v with
   | .str [c]=>Q (.int (c:Int)) H₁
   | _=>False) H
 | .append o e,ρ,Q,H=>D9 C o ρ (fun vo H₁=>match vo with
   | .ref a=>D9 C e ρ (fun v H₂=>hea (X1 (.ref a) v H₂) Q) H₁
   | _=>False) H
 | .extend o e,ρ,Q,H=>D9 C o ρ (fun vo H₁=>match vo with
   | .ref a=>D9 C e ρ (fun v H₂=>hea (vL (.ref a) v H₂) Q) H₁
   | _=>False) H
 | .pop o,ρ,Q,H=>D9 C o ρ (fun vo H₁=>match vo with
   | .ref a=>res (Ai3 (.ref a) H₁) Q
   | _=>False) H
 | .find o a b,ρ,Q,H=>D9 C o ρ (fun vo H₁=>match vo with
   | .str s=>D9 C a ρ (fun va H₂=>D9 C b ρ (fun vb H₃=>yB s va vb Q H₃) H₂) H₁
   | _=>False) H
 | .replace o a b,ρ,Q,H=>D9 C o ρ (fun vo H₁=>match vo with
   | .str s=>D9 C a ρ (fun va H₂=>D9 C b ρ (fun vb H₃=>Y9 s va vb Q H₃) H₂) H₁
   | _=>False) H
 | .join o a,ρ,Q,H=>D9 C o ρ (fun vo H₁=>match vo with
   | .str s=>D9 C a ρ (fun va H₂=>dP s va Q H₂) H₁
   | _=>False) H
 | .split o a,ρ,Q,H=>D9 C o ρ (fun vo H₁=>match vo with
   | .str s=>D9 C a ρ (fun va H₂=>Aj4 s va Q H₂) H₁
   | _=>False) H
 | .lstrip o a,ρ,Q,H=>D9 C o ρ (fun vo H₁=>match vo with
   | .str s=>D9 C a ρ (fun va H₂=>vF s va Q H₂) H₁
   | _=>False) H
 | .list es,ρ,Q,H=>R7 C es ρ (fun vs H₁=>Q (.ref H₁.length) (H₁++[vs])) H
 | .tup es,ρ,Q,H=>R7 C es ρ (fun vs H₁=>Q (.tup vs) H₁) H
 | .comp elt x src ifs,ρ,Q,H=>D9 C src ρ (fun v H₁=>match iterV v with
   | some it=>∃ n,T3 (Q7 C ifs) (D9 C elt) x ρ it n 0 [] (fun vs H₂=>Q (.ref H₂.length) (H₂++[vs])) H₁
   | Option.none=>False) H
 | .compR elt x e ifs,ρ,Q,H=>D9 C e ρ (fun v H₁=>match rangeV v with
   | some it=>∃ n,T3 (Q7 C ifs) (D9 C elt) x ρ it n 0 [] (fun vs H₂=>Q (.ref H₂.length) (H₂++[vs])) H₁
   | Option.none=>False) H
noncomputable def R7 (C:Calls):List E->D7->(List V->Heap->Prop)->Heap->Prop
 | [],_,Q,H=>Q [] H
 | e::es,ρ,Q,H=>D9 C e ρ (fun v H₁=>R7 C es ρ (fun vs H₂=>Q (v::vs) H₂) H₁) H
noncomputable def fG (C:Calls):List E->D7->C2->Heap->Prop
 | [],_,_,_=>False
 | e::es,ρ,Q,H=>match es with
  | []=>D9 C e ρ Q H
  | _::_=>D9 C e ρ (fun v H₁=>boo (J1 v) (fun b H₁=>match b with
   | true=>fG C es ρ Q H₁
   | false=>Q v H₁) H₁) H
noncomputable def tZ (C:Calls):List E->D7->C2->Heap->Prop
 | [],_,_,_=>False
 | e::es,ρ,Q,H=>match es with
  | []=>D9 C e ρ Q H
  | _::_=>D9 C e ρ (fun v H₁=>boo (J1 v) (fun b H₁=>match b with
   | true=>Q v H₁
   | false=>tZ C es ρ Q H₁) H₁) H
noncomputable def Q7 (C:Calls):List E->D7->(Bool->Heap->Prop)->Heap->Prop
 | [],_,Q,H=>Q true H
 | e::es,ρ,Q,H=>D9 C e ρ (fun v H₁=>boo (J1 v) (fun b H₁=>match b with
   | true=>Q7 C es ρ Q H₁
   | false=>Q false H₁) H₁) H
end
inductive uB where
 | next | cont
 | ret (v:V)
abbrev E2:=uB->D7->Heap->Prop
noncomputable def eO (test:D7->C2->Heap->Prop) (body:D7->E2->Heap->Prop):Nat->D7->E2->Heap->Prop
 | 0,_,_,_=>False
 | n+1,ρ,Q,H=>test ρ (fun v H₁=>boo (J1 v) (fun b H₁=>match b with
   | true=>body ρ (fun fl ρ' H₂=>match fl with
    | .ret v=>Q (.ret v) ρ' H₂
    | _=>eO test body n ρ' Q H₂) H₁
   | false=>Q .next ρ H₁) H₁) H
noncomputable def Y0 (body:D7->E2->Heap->Prop) (x:Nat) (it:It):Nat->Nat->D7->E2->Heap->Prop
 | 0,_,_,_,_=>False
 | n+1,i,ρ,Q,H=>match it.at H i with
  | Option.none=>Q .next ρ H
  | some v=>body (ρ.set x (some v)) (fun fl ρ' H₂=>match fl with
    | .ret v=>Q (.ret v) ρ' H₂
    | _=>Y0 body x it n (i+1) ρ' Q H₂) H
noncomputable def fK (body:D7->E2->Heap->Prop) (x y:Nat) (it:It):Nat->Nat->D7->E2->Heap->Prop
 | 0,_,_,_,_=>False
 | n+1,i,ρ,Q,H=>match it.at H i with
  | Option.none=>Q .next ρ H
  | some v=>body ((ρ.set x (some (.int (i:Int)))).set y (some v)) (fun fl ρ' H₂=>match fl with
    | .ret v=>Q (.ret v) ρ' H₂
    | _=>fK body x y it n (i+1) ρ' Q H₂) H
mutual
noncomputable def iA (C:Calls):S->D7->E2->Heap->Prop
 | .assign x e,ρ,Q,H=>D9 C e ρ (fun v H₁=>Q .next (ρ.set x (some v)) H₁) H
 | .setIdx o i e,ρ,Q,H=>D9 C e ρ (fun v H₁=>D9 C o ρ (fun vo H₂=>D9 C i ρ (fun vi H₃=>hea (Cj0 vo vi v H₃) (fun zz H₄=>Q .next ρ H₄)) H₂) H₁) H
 | .expr e,ρ,Q,H=>D9 C e ρ (fun zz H₁=>Q .next ρ H₁) H
 | .ite c t f,ρ,Q,H=>D9 C c ρ (fun v H₁=>boo (J1 v) (fun b H₁=>match b with
   | true=>C4 C t ρ Q H₁
   | false=>C4 C f ρ Q H₁) H₁) H
 | .whl c b,ρ,Q,H=>∃ n,eO (D9 C c) (C4 C b) n ρ Q H
 | .forIn x e b,ρ,Q,H=>D9 C e ρ (fun v H₁=>match iterV v with
   | some it=>∃ n,Y0 (C4 C b) x it n 0 ρ Q H₁
   | Option.none=>False) H
 | .forR x e b,ρ,Q,H=>D9 C e ρ (fun v H₁=>match rangeV v with
   | some it=>∃ n,Y0 (C4 C b) x it n 0 ρ Q H₁
   | Option.none=>False) H
 | .forEnum x y e b,ρ,Q,H=>D9 C e ρ (fun v H₁=>match v with
   | .ref a=>∃ n,fK (C4 C b) x y (.lst a) n 0 ρ Q H₁
   | _=>False) H
 | .ret e,ρ,Q,H=>D9 C e ρ (fun v H₁=>Q (.ret v) ρ H₁) H
 | .retNone,ρ,Q,H=>Q (.ret .none) ρ H
 | .cont,ρ,Q,H=>Q .cont ρ H
 | .pass,ρ,Q,H=>Q .next ρ H
 | .raise _ _,_,_,_=>False
noncomputable def C4 (C:Calls):List S->D7->E2->Heap->Prop
 | [],ρ,Q,H=>Q .next ρ H
 | s::ss,ρ,Q,H=>iA C s ρ (fun fl ρ' H₁=>match fl with
   | .next=>C4 C ss ρ' Q H₁
   | fl=>Q fl ρ' H₁) H
end
noncomputable def frame (f:Fn) (vs:List V):D7:=vs.map some++List.replicate (f.names.length - f.params) Option.none
noncomputable def C1 (P:Prg):Nat->Calls
 | 0,_,_,_,_=>False
 | n+1,f,vs,Q,H=>match P f with
  | some fn=>vs.length=fn.params/\C4 (C1 P n) fn.body (frame fn vs) (fun fl zz H₁=>match fl with
   | .ret v=>Q v H₁
   | _=>Q .none H₁) H
  | Option.none=>False
end Mini
namespace Mini
open PySem (Expr Stmt Str NameKind Scope Const Operator CmpOp BoolOp UnaryOp Arguments Comprehension Keyword Pos ExceptHandler)
noncomputable def Z1 (re:PySem.Expr) (q:BoolOp->List Expr->Pos->Bool):Bool:=if h:re.ctorIdx=0 then PySem.Expr.BoolOp.elim (motive_1:=fun zz=>Bool) re h q else false
theorem aX {re:PySem.Expr}{q:BoolOp->List Expr->Pos->Bool}(h:Z1 re q=true):re.ctorIdx=0:=Classical.byContradiction fun hk=>by rw [Z1,dif_neg hk] at h;cases h
theorem kF {re:PySem.Expr}{q:BoolOp->List Expr->Pos->Bool}{P:Prop}(h:Z1 re q=true) (k:∀ op es p,re=.BoolOp op es p->q op es p=true->P):P:=by
 have hk:=aX h
 revert h k
 exact PySem.Expr.BoolOp.elim (motive_1:=fun re=>Z1 re q=true->(∀ op es p,re=.BoolOp op es p->q op es p=true->P)->P) re hk (fun op es p h k=>k op es p rfl h)
noncomputable def fU (re:PySem.Expr) (q:Expr->Operator->Expr->Pos->Bool):Bool:=if h:re.ctorIdx=2 then PySem.Expr.BinOp.elim (motive_1:=fun zz=>Bool) re h q else false
theorem kG {re:PySem.Expr}{q:Expr->Operator->Expr->Pos->Bool}(h:fU re q=true):re.ctorIdx=2:=Classical.byContradiction fun hk=>by rw [fU,dif_neg hk] at h;cases h
theorem An5 {re:PySem.Expr}{q:Expr->Operator->Expr->Pos->Bool}{P:Prop}(h:fU re q=true) (k:∀ l o r p,re=.BinOp l o r p->q l o r p=true->P):P:=by
 have hk:=kG h
 revert h k
 exact PySem.Expr.BinOp.elim (motive_1:=fun re=>fU re q=true->(∀ l o r p,re=.BinOp l o r p->q l o r p=true->P)->P) re hk (fun l o r p h k=>k l o r p rfl h)
noncomputable def W9 (re:PySem.Expr) (q:UnaryOp->Expr->Pos->Bool):Bool:=if h:re.ctorIdx=3 then PySem.Expr.UnaryOp.elim (motive_1:=fun zz=>Bool) re h q else false
theorem kC {re:PySem.Expr}{q:UnaryOp->Expr->Pos->Bool}(h:W9 re q=true):re.ctorIdx=3:=Classical.byContradiction fun hk=>by rw [W9,dif_neg hk] at h;cases h
theorem oX {re:PySem.Expr}{q:UnaryOp->Expr->Pos->Bool}{P:Prop}(h:W9 re q=true) (k:∀ o e p,re=.UnaryOp o e p->q o e p=true->P):P:=by
 have hk:=kC h
 revert h k
 exact PySem.Expr.UnaryOp.elim (motive_1:=fun re=>W9 re q=true->(∀ o e p,re=.UnaryOp o e p->q o e p=true->P)->P) re hk (fun o e p h k=>k o e p rfl h)
noncomputable def iG (re:PySem.Expr) (q:Expr->List Comprehension->Scope->Pos->Bool):Bool:=if h:re.ctorIdx=8 then PySem.Expr.ListComp.elim (motive_1:=fun zz=>Bool) re h q else false
theorem eX {re:PySem.Expr}{q:Expr->List Comprehension->Scope->Pos->Bool}(h:iG re q=true):re.ctorIdx=8:=Classical.byContradiction fun hk=>by rw [iG,dif_neg hk] at h;cases h
theorem sG {re:PySem.Expr}{q:Expr->List Comprehension->Scope->Pos->Bool}{P:Prop}(h:iG re q=true) (k:∀ e g sc p,re=.ListComp e g sc p->q e g sc p=true->P):P:=by
 have hk:=eX h
 revert h k
 exact PySem.Expr.ListComp.elim (motive_1:=fun re=>iG re q=true->(∀ e g sc p,re=.ListComp e g sc p->q e g sc p=true->P)->P) re hk (fun e g sc p h k=>k e g sc p rfl h)
noncomputable def R5 (re:PySem.Expr) (q:Expr->List CmpOp->List Expr->Pos->Bool):Bool:=if h:re.ctorIdx=15 then PySem.Expr.Compare.elim (motive_1:=fun zz=>Bool) re h q else false
theorem Q1 {re:PySem.Expr}{q:Expr->List CmpOp->List Expr->Pos->Bool}(h:R5 re q=true):re.ctorIdx=15:=Classical.byContradiction fun hk=>by rw [R5,dif_neg hk] at h;cases h
theorem U4 {re:PySem.Expr}{q:Expr->List CmpOp->List Expr->Pos->Bool}{P:Prop}(h:R5 re q=true) (k:∀ l os rs p,re=.Compare l os rs p->q l os rs p=true->P):P:=by
 have hk:=Q1 h
 revert h k
 exact PySem.Expr.Compare.elim (motive_1:=fun re=>R5 re q=true->(∀ l os rs p,re=.Compare l os rs p->q l os rs p=true->P)->P) re hk (fun l os rs p h k=>k l os rs p rfl h)
noncomputable def V4 (re:PySem.Expr) (q:Expr->List Expr->List Keyword->Pos->Bool):Bool:=if h:re.ctorIdx=16 then PySem.Expr.Call.elim (motive_1:=fun zz=>Bool) re h q else false
theorem J3 {re:PySem.Expr}{q:Expr->List Expr->List Keyword->Pos->Bool}(h:V4 re q=true):re.ctorIdx=16:=Classical.byContradiction fun hk=>by rw [V4,dif_neg hk] at h;cases h
theorem dC {re:PySem.Expr}{q:Expr->List Expr->List Keyword->Pos->Bool}{P:Prop}(h:V4 re q=true) (k:∀ f as ks p,re=.Call f as ks p->q f as ks p=true->P):P:=by
 have hk:=J3 h
 revert h k
 exact PySem.Expr.Call.elim (motive_1:=fun re=>V4 re q=true->(∀ f as ks p,re=.Call f as ks p->q f as ks p=true->P)->P) re hk (fun f as ks p h k=>k f as ks p rfl h)
noncomputable def Q3 (re:PySem.Expr) (q:Const->Nat->Pos->Bool):Bool:=if h:re.ctorIdx=19 then PySem.Expr.Constant.elim (motive_1:=fun zz=>Bool) re h q else false
theorem T8 {re:PySem.Expr}{q:Const->Nat->Pos->Bool}(h:Q3 re q=true):re.ctorIdx=19:=Classical.byContradiction fun hk=>by rw [Q3,dif_neg hk] at h;cases h
theorem S8 {re:PySem.Expr}{q:Const->Nat->Pos->Bool}{P:Prop}(h:Q3 re q=true) (k:∀ c u p,re=.Constant c u p->q c u p=true->P):P:=by
 have hk:=T8 h
 revert h k
 exact PySem.Expr.Constant.elim (motive_1:=fun re=>Q3 re q=true->(∀ c u p,re=.Constant c u p->q c u p=true->P)->P) re hk (fun c u p h k=>k c u p rfl h)
noncomputable def nG (re:PySem.Expr) (q:Expr->Str->Pos->Bool):Bool:=if h:re.ctorIdx=20 then PySem.Expr.Attribute.elim (motive_1:=fun zz=>Bool) re h q else false
theorem An6 {re:PySem.Expr}{q:Expr->Str->Pos->Bool}(h:nG re q=true):re.ctorIdx=20:=Classical.byContradiction fun hk=>by rw [nG,dif_neg hk] at h;cases h
theorem Bc1 {re:PySem.Expr}{q:Expr->Str->Pos->Bool}{P:Prop}(h:nG re q=true) (k:∀ e a p,re=.Attribute e a p->q e a p=true->P):P:=by
 have hk:=An6 h
 revert h k
 exact PySem.Expr.Attribute.elim (motive_1:=fun re=>nG re q=true->(∀ e a p,re=.Attribute e a p->q e a p=true->P)->P) re hk (fun e a p h k=>k e a p rfl h)
noncomputable def fJ (re:PySem.Expr) (q:Expr->Expr->Pos->Bool):Bool:=if h:re.ctorIdx=21 then PySem.Expr.Subscript.elim (motive_1:=fun zz=>Bool) re h q else false
theorem aD {re:PySem.Expr}{q:Expr->Expr->Pos->Bool}(h:fJ re q=true):re.ctorIdx=21:=Classical.byContradiction fun hk=>by rw [fJ,dif_neg hk] at h;cases h
theorem bY {re:PySem.Expr}{q:Expr->Expr->Pos->Bool}{P:Prop}(h:fJ re q=true) (k:∀ e i p,re=.Subscript e i p->q e i p=true->P):P:=by
 have hk:=aD h
 revert h k
 exact PySem.Expr.Subscript.elim (motive_1:=fun re=>fJ re q=true->(∀ e i p,re=.Subscript e i p->q e i p=true->P)->P) re hk (fun e i p h k=>k e i p rfl h)
noncomputable def P7 (re:PySem.Expr) (q:Str->Pos->Bool):Bool:=if h:re.ctorIdx=23 then PySem.Expr.Name.elim (motive_1:=fun zz=>Bool) re h q else false
theorem eW {re:PySem.Expr}{q:Str->Pos->Bool}(h:P7 re q=true):re.ctorIdx=23:=Classical.byContradiction fun hk=>by rw [P7,dif_neg hk] at h;cases h
theorem N3 {re:PySem.Expr}{q:Str->Pos->Bool}{P:Prop}(h:P7 re q=true) (k:∀ i p,re=.Name i p->q i p=true->P):P:=by
 have hk:=eW h
 revert h k
 exact PySem.Expr.Name.elim (motive_1:=fun re=>P7 re q=true->(∀ i p,re=.Name i p->q i p=true->P)->P) re hk (fun i p h k=>k i p rfl h)
noncomputable def nE (re:PySem.Expr) (q:List Expr->Pos->Bool):Bool:=if h:re.ctorIdx=24 then PySem.Expr.List.elim (motive_1:=fun zz=>Bool) re h q else false
theorem oZ {re:PySem.Expr}{q:List Expr->Pos->Bool}(h:nE re q=true):re.ctorIdx=24:=Classical.byContradiction fun hk=>by rw [nE,dif_neg hk] at h;cases h
theorem Bb7 {re:PySem.Expr}{q:List Expr->Pos->Bool}{P:Prop}(h:nE re q=true) (k:∀ es p,re=.List es p->q es p=true->P):P:=by
 have hk:=oZ h
 revert h k
 exact PySem.Expr.List.elim (motive_1:=fun re=>nE re q=true->(∀ es p,re=.List es p->q es p=true->P)->P) re hk (fun es p h k=>k es p rfl h)
noncomputable def cO (re:PySem.Expr) (q:List Expr->Nat->Pos->Bool):Bool:=if h:re.ctorIdx=25 then PySem.Expr.Tuple.elim (motive_1:=fun zz=>Bool) re h q else false
theorem kD {re:PySem.Expr}{q:List Expr->Nat->Pos->Bool}(h:cO re q=true):re.ctorIdx=25:=Classical.byContradiction fun hk=>by rw [cO,dif_neg hk] at h;cases h
theorem oY {re:PySem.Expr}{q:List Expr->Nat->Pos->Bool}{P:Prop}(h:cO re q=true) (k:∀ es u p,re=.Tuple es u p->q es u p=true->P):P:=by
 have hk:=kD h
 revert h k
 exact PySem.Expr.Tuple.elim (motive_1:=fun re=>cO re q=true->(∀ es u p,re=.Tuple es u p->q es u p=true->P)->P) re hk (fun es u p h k=>k es u p rfl h)
noncomputable def aO (re:PySem.Expr) (q:Option Expr->Option Expr->Option Expr->Pos->Bool):Bool:=if h:re.ctorIdx=26 then PySem.Expr.Slice.elim (motive_1:=fun zz=>Bool) re h q else false
theorem Ae1 {re:PySem.Expr}{q:Option Expr->Option Expr->Option Expr->Pos->Bool}(h:aO re q=true):re.ctorIdx=26:=Classical.byContradiction fun hk=>by rw [aO,dif_neg hk] at h;cases h
theorem eV {re:PySem.Expr}{q:Option Expr->Option Expr->Option Expr->Pos->Bool}{P:Prop}(h:aO re q=true) (k:∀ l u st p,re=.Slice l u st p->q l u st p=true->P):P:=by
 have hk:=Ae1 h
 revert h k
 exact PySem.Expr.Slice.elim (motive_1:=fun re=>aO re q=true->(∀ l u st p,re=.Slice l u st p->q l u st p=true->P)->P) re hk (fun l u st p h k=>k l u st p rfl h)
noncomputable def Z0 (re:PySem.Stmt) (q:Option Expr->Pos->Bool):Bool:=if h:re.ctorIdx=3 then PySem.Stmt.Return.elim (motive_2:=fun zz=>Bool) re h q else false
theorem wK {re:PySem.Stmt}{q:Option Expr->Pos->Bool}(h:Z0 re q=true):re.ctorIdx=3:=Classical.byContradiction fun hk=>by rw [Z0,dif_neg hk] at h;cases h
theorem kE {re:PySem.Stmt}{q:Option Expr->Pos->Bool}{P:Prop}(h:Z0 re q=true) (k:∀ v p,re=.Return v p->q v p=true->P):P:=by
 have hk:=wK h
 revert h k
 exact PySem.Stmt.Return.elim (motive_2:=fun re=>Z0 re q=true->(∀ v p,re=.Return v p->q v p=true->P)->P) re hk (fun v p h k=>k v p rfl h)
noncomputable def V8 (re:PySem.Stmt) (q:List Expr->Expr->Pos->Bool):Bool:=if h:re.ctorIdx=5 then PySem.Stmt.Assign.elim (motive_2:=fun zz=>Bool) re h q else false
theorem wL {re:PySem.Stmt}{q:List Expr->Expr->Pos->Bool}(h:V8 re q=true):re.ctorIdx=5:=Classical.byContradiction fun hk=>by rw [V8,dif_neg hk] at h;cases h
theorem kH {re:PySem.Stmt}{q:List Expr->Expr->Pos->Bool}{P:Prop}(h:V8 re q=true) (k:∀ ts v p,re=.Assign ts v p->q ts v p=true->P):P:=by
 have hk:=wL h
 revert h k
 exact PySem.Stmt.Assign.elim (motive_2:=fun re=>V8 re q=true->(∀ ts v p,re=.Assign ts v p->q ts v p=true->P)->P) re hk (fun ts v p h k=>k ts v p rfl h)
noncomputable def mP (re:PySem.Stmt) (q:Expr->Expr->List Stmt->List Stmt->Pos->Bool):Bool:=if h:re.ctorIdx=9 then PySem.Stmt.For.elim (motive_2:=fun zz=>Bool) re h q else false
theorem Bb8 {re:PySem.Stmt}{q:Expr->Expr->List Stmt->List Stmt->Pos->Bool}(h:mP re q=true):re.ctorIdx=9:=Classical.byContradiction fun hk=>by rw [mP,dif_neg hk] at h;cases h
theorem nS {re:PySem.Stmt}{q:Expr->Expr->List Stmt->List Stmt->Pos->Bool}{P:Prop}(h:mP re q=true) (k:∀ t i b o p,re=.For t i b o p->q t i b o p=true->P):P:=by
 have hk:=Bb8 h
 revert h k
 exact PySem.Stmt.For.elim (motive_2:=fun re=>mP re q=true->(∀ t i b o p,re=.For t i b o p->q t i b o p=true->P)->P) re hk (fun t i b o p h k=>k t i b o p rfl h)
noncomputable def fT (re:PySem.Stmt) (q:Expr->List Stmt->List Stmt->Pos->Bool):Bool:=if h:re.ctorIdx=11 then PySem.Stmt.While.elim (motive_2:=fun zz=>Bool) re h q else false
theorem Ae0 {re:PySem.Stmt}{q:Expr->List Stmt->List Stmt->Pos->Bool}(h:fT re q=true):re.ctorIdx=11:=Classical.byContradiction fun hk=>by rw [fT,dif_neg hk] at h;cases h
theorem An2 {re:PySem.Stmt}{q:Expr->List Stmt->List Stmt->Pos->Bool}{P:Prop}(h:fT re q=true) (k:∀ t b o p,re=.While t b o p->q t b o p=true->P):P:=by
 have hk:=Ae0 h
 revert h k
 exact PySem.Stmt.While.elim (motive_2:=fun re=>fT re q=true->(∀ t b o p,re=.While t b o p->q t b o p=true->P)->P) re hk (fun t b o p h k=>k t b o p rfl h)
noncomputable def Bf9 (re:PySem.Stmt) (q:Expr->List Stmt->List Stmt->Pos->Bool):Bool:=if h:re.ctorIdx=12 then PySem.Stmt.If.elim (motive_2:=fun zz=>Bool) re h q else false
theorem Bp9 {re:PySem.Stmt}{q:Expr->List Stmt->List Stmt->Pos->Bool}(h:Bf9 re q=true):re.ctorIdx=12:=Classical.byContradiction fun hk=>by rw [Bf9,dif_neg hk] at h;cases h
theorem Ca9 {re:PySem.Stmt}{q:Expr->List Stmt->List Stmt->Pos->Bool}{P:Prop}(h:Bf9 re q=true) (k:∀ t b o p,re=.If t b o p->q t b o p=true->P):P:=by
 have hk:=Bp9 h
 revert h k
 exact PySem.Stmt.If.elim (motive_2:=fun re=>Bf9 re q=true->(∀ t b o p,re=.If t b o p->q t b o p=true->P)->P) re hk (fun t b o p h k=>k t b o p rfl h)
noncomputable def Ca8 (re:PySem.Stmt) (q:Option Expr->Option Expr->Pos->Bool):Bool:=if h:re.ctorIdx=16 then PySem.Stmt.Raise.elim (motive_2:=fun zz=>Bool) re h q else false
noncomputable def nF (re:PySem.Stmt) (q:Expr->Pos->Bool):Bool:=if h:re.ctorIdx=24 then PySem.Stmt.Expr.elim (motive_2:=fun zz=>Bool) re h q else false
theorem An4 {re:PySem.Stmt}{q:Expr->Pos->Bool}(h:nF re q=true):re.ctorIdx=24:=Classical.byContradiction fun hk=>by rw [nF,dif_neg hk] at h;cases h
theorem Bb9 {re:PySem.Stmt}{q:Expr->Pos->Bool}{P:Prop}(h:nF re q=true) (k:∀ v p,re=.Expr v p->q v p=true->P):P:=by
 have hk:=An4 h
 revert h k
 exact PySem.Stmt.Expr.elim (motive_2:=fun re=>nF re q=true->(∀ v p,re=.Expr v p->q v p=true->P)->P) re hk (fun v p h k=>k v p rfl h)
noncomputable def nD (re:PySem.Stmt) (q:Pos->Bool):Bool:=if h:re.ctorIdx=25 then PySem.Stmt.Pass.elim (motive_2:=fun zz=>Bool) re h q else false
theorem An3 {re:PySem.Stmt}{q:Pos->Bool}(h:nD re q=true):re.ctorIdx=25:=Classical.byContradiction fun hk=>by rw [nD,dif_neg hk] at h;cases h
theorem Bb6 {re:PySem.Stmt}{q:Pos->Bool}{P:Prop}(h:nD re q=true) (k:∀ p,re=.Pass p->q p=true->P):P:=by
 have hk:=An3 h
 revert h k
 exact PySem.Stmt.Pass.elim (motive_2:=fun re=>nD re q=true->(∀ p,re=.Pass p->q p=true->P)->P) re hk (fun p h k=>k p rfl h)
noncomputable def W2 (re:PySem.Stmt) (q:Pos->Bool):Bool:=if h:re.ctorIdx=27 then PySem.Stmt.Continue.elim (motive_2:=fun zz=>Bool) re h q else false
theorem qL {re:PySem.Stmt}{q:Pos->Bool}(h:W2 re q=true):re.ctorIdx=27:=Classical.byContradiction fun hk=>by rw [W2,dif_neg hk] at h;cases h
theorem qY {re:PySem.Stmt}{q:Pos->Bool}{P:Prop}(h:W2 re q=true) (k:∀ p,re=.Continue p->q p=true->P):P:=by
 have hk:=qL h
 revert h k
 exact PySem.Stmt.Continue.elim (motive_2:=fun re=>W2 re q=true->(∀ p,re=.Continue p->q p=true->P)->P) re hk (fun p h k=>k p rfl h)
end Mini
namespace Mini
open PySem (Expr Stmt Str NameKind Scope Const Operator CmpOp BoolOp UnaryOp Arguments Comprehension Keyword Pos)
structure Gl where
 intL:List (String×Int)
 fns:List (String×List Nat)
 lits:List Nat:=[]
 pos:Bool:=true
noncomputable def R2 (sc:List (Str×NameKind)) (id:Str):Bool:=match sc.lookup id with
 | some .local=>true
 | some .cell=>true
 | some .free=>true
 | _=>false
noncomputable def V6 (sc:List (Str×NameKind)) (id:Str):Bool:=match sc.lookup id with
 | some .globalImplicit=>true
 | _=>false
noncomputable def R9 (id:Str):Bool:=!(id==("__debug__" : Str))&&!(id==("__classdict__" : Str))
noncomputable def Cr0 (s:List Nat) (x:Str):Bool:=s==x.cps.toList
noncomputable def P8 (sc:List (Str×NameKind)) (n:String) (e:Expr):Bool:=P7 e fun id zz=>id==Str.ofString n&&V6 sc id
noncomputable def one? {α:Type}(l:List α) (q:α->Bool):Bool:=match l with
 | [x]=>q x
 | _=>false
theorem V3 {α:Type}{l:List α}{q:α->Bool}(h:one? l q=true) {P:Prop}(k:∀ x,l=[x]->q x=true->P):P:=by
 match l,h,k with
 | [x],h,k=>exact k x rfl h
noncomputable def two? {α:Type}(l:List α) (q:α->α->Bool):Bool:=match l with
 | [x,y]=>q x y
 | _=>false
theorem iF {α:Type}{l:List α}{q:α->α->Bool}(h:two? l q=true) {P:Prop}(k:∀ x y,l=[x,y]->q x y=true->P):P:=by
 match l,h,k with
 | [x,y],h,k=>exact k x y rfl h
theorem V5 {α:Type}{l:List α}(h:l.isEmpty=true):l=[]:=List.isEmpty_iff.mp h
theorem D1 {a b:Bool}(h:(a&&b)=true):a=true/\b=true:=by
 cases a
 ·cases h
 ·exact ⟨rfl,h⟩
noncomputable def some? {α:Type}(o:Option α) (q:α->Bool):Bool:=match o with
 | some x=>q x
 | none=>false
theorem fS {α:Type}{o:Option α}{q:α->Bool}(h:some? o q=true) {P:Prop}(k:∀ x,o=some x->q x=true->P):P:=by
 match o,h,k with
 | some x,h,k=>exact k x rfl h
theorem cQ {α:Type}{o:Option α}(h:o.isNone=true):o=none:=by
 match o,h with
 | none,_=>rfl
noncomputable def vG:Const->Bool
 | .none=>true
 | _=>false
noncomputable def fV (b:Bool):Const->Bool
 | .bool c=>b==c
 | _=>false
noncomputable def Aj8 (i:Int):Const->Bool
 | .int j=>i==j
 | _=>false
noncomputable def Aj7 (s:List Nat):Const->Bool
 | .str x=>Cr0 s x&&decide (s.length<=I8)
 | _=>false
theorem pA {c:Const}(h:vG c=true):c=.none:=by
 cases c with
 | none=>rfl
 | _=>exact nomatch (show false=true from h)
theorem eZ {b:Bool}{c:Const}(h:fV b c=true):c=.bool b:=by
 cases c with
 | bool x=>exact congrArg _ (eq_of_beq h).symm
 | _=>exact nomatch (show false=true from h)
theorem sH {i:Int}{c:Const}(h:Aj8 i c=true):c=.int i:=by
 cases c with
 | int x=>exact congrArg _ (eq_of_beq h).symm
 | _=>exact nomatch (show false=true from h)
theorem Bc3 {s:List Nat}{c:Const}(h:Aj7 s c=true) {P:Prop}(k:∀ x,c=.str x->s=x.cps.toList->s.length<=I8->P):P:=by
 cases c with
 | str x=>exact k _ rfl (eq_of_beq (D1 h).1) (of_decide_eq_true (D1 h).2)
 | _=>exact nomatch (show false=true from h)
noncomputable def xO (e:Expr):Bool:=!(V4 e fun zz as ks zz=>as.isEmpty&&ks.isEmpty)
noncomputable def eP (e:E):Bool:=e.ctorIdx==3
noncomputable def Ak2 (gl:Gl) (f:String) (es:List E):Bool:=match gl.fns.lookup f with
 | some l=>(gl.pos||l.isEmpty)&&l.all fun j=>(es[j]?).any eP
 | none=>false
noncomputable def As6 (gl:Gl) (e:E):Bool:=(eP e&&gl.pos)||(if h:e.ctorIdx=4 then E.var.elim (motive_1:=fun zz=>Bool) e h fun x=>gl.lits.contains x else false)
noncomputable def Cw5:Op->Operator
 | .add=>.Add
 | .sub=>.Sub
 | .mul=>.Mult
 | .fdiv=>.FloorDiv
 | .mod=>.Mod
 | .pow=>.Pow
noncomputable def Cj1 (o:Op) (o':Operator):Bool:=o'==Cw5 o
noncomputable def Cr6:Cmp->CmpOp
 | .eq=>.Eq
 | .ne=>.NotEq
 | .lt=>.Lt
 | .le=>.LtE
 | .gt=>.Gt
 | .ge=>.GtE
 | .isin=>.In
 | .notin=>.NotIn
noncomputable def mT (o:Cmp) (o':CmpOp):Bool:=o'==Cr6 o
noncomputable def cstC:xJ->Const->Bool
 | .none=>vG
 | .tt=>fV true
 | .ff=>fV false
noncomputable def mS (c:xJ) (e:Expr):Bool:=Q3 e fun k zz zz=>cstC c k
noncomputable def Aj3:Ty->String
 | .str => "str"
 | .int => "int"
 | .bool => "bool"
 | .list => "list"
 | .tuple => "tuple"
noncomputable def P5 (sc names:List (Str×NameKind)):List (Str×NameKind) :=
 names.map fun (n,k)=>if k==.free&&sc.lookup n==some .cell then (n,.cell) else (n,k)
noncomputable def P3 (sc:List (Str×NameKind)) (nm:List Str) (id:Str) (scope:Scope):Bool :=
 scope.kind==.function&&scope.names.lookup id==some .local &&
 scope.names.all (fun x=>x.2 != .cell&&(x.2 != .local||(scope.names.lookup x.1==some .local&&(x.1==id||!nm.contains x.1)))) &&
 scope.names.all (fun x=>x.2 != .free||(nm.contains x.1&&(sc.lookup x.1==some .cell||sc.lookup x.1==some .free)))
theorem aP {f:Expr}{as as':List Expr}{ks:List Keyword}{p:Pos}(h1:as=as') (h2:ks=[]):Expr.Call f as ks p=.Call f as' [] p:=by rw [h1,h2]
theorem uM {l:Expr}{os os':List CmpOp}{rs rs':List Expr}{p:Pos}(h1:os=os') (h2:rs=rs'):Expr.Compare l os rs p=.Compare l os' rs' p:=by rw [h1,h2]
theorem Aj5 {o i:Expr}{a a' b b' c:Option Expr}{p q:Pos}(h:i=.Slice a b c q) (h1:a=a') (h2:b=b') (h3:c=none):Expr.Subscript o i p=.Subscript o (.Slice a' b' none q) p:=by rw [h,h1,h2,h3]
noncomputable def Ai4 (sc:List (Str×NameKind)) (n:String) (re:Expr) (q:Expr->Bool):Bool:=V4 re fun f as ks zz=>P8 sc n f&&ks.isEmpty&&one? as q
theorem cP {sc n re q}(h0:Ai4 sc n re q=true) {P:Prop}(k:∀ f e p,re=.Call f [e] [] p->P8 sc n f=true->q e=true->P):P :=
 dC h0 fun f zz zz p e1 h=>V3 (D1 h).2 fun e e3 h3=>k f e p (e1.trans (aP e3 (V5 (D1 (D1 h).1).2))) (D1 (D1 h).1).1 h3
noncomputable def Cy6 (sc:List (Str×NameKind)) (re:Expr) (q:Expr->Bool):Bool:=V4 re fun f as ks zz=>P8 sc "sorted" f&&(one? ks fun k=>k.arg==some (Str.ofString "reverse")&&Q3 k.value fun c zz zz=>fV true c)&&one? as q
noncomputable def onM (n:String) (re:Expr) (q:Expr->List Expr->Bool):Bool:=V4 re fun f as ks p=>ks.isEmpty&&nG f fun o a ap=>a==Str.ofString n&&ap.endLine==p.line&&xO o&&q o as
theorem uE {n re q}(h0:onM n re q=true) {P:Prop}(k:∀ o as ap p,re=.Call (.Attribute o (Str.ofString n) ap) as [] p->(ap.endLine==p.line)=true->xO o=true->q o as=true->P):P :=
 dC h0 fun zz as zz p e1 h=>Bc1 (D1 h).2 fun o zz ap e2 h4 =>
  k o as ap p (e1.trans (by rw [e2,eq_of_beq (D1 (D1 (D1 h4).1).1).1,V5 (D1 h).1])) (D1 (D1 (D1 h4).1).1).2 (D1 (D1 h4).1).2 (D1 h4).2
noncomputable def Bg6 (g:List Comprehension) (q:Str->Expr->List Expr->Bool):Bool:=one? g fun c=>c.is_async==0&&P7 c.target fun id zz=>q id c.iter c.ifs
theorem zK {g q}(h:Bg6 g q=true) {P:Prop}(k:∀ id p it ifs,g=[⟨.Name id p,it,ifs,0⟩]->q id it ifs=true->P):P :=
 V3 h fun c e0 h=>N3 (D1 h).2 fun id p e h2=>k id p c.iter c.ifs (e0.trans (by
  have e3:c.is_async=0:=eq_of_beq (D1 h).1
  obtain ⟨t,it,ifs,n⟩:=c
  obtain rfl:t=_:=e
  obtain rfl:n=0:=e3
  rfl)) h2
mutual
noncomputable def D0 (gl:Gl) (sc:List (Str×NameKind)) (nm:List Str):E->Expr->Bool
 | .none,re=>Q3 re fun c zz zz=>vG c
 | .bool b,re=>Q3 re fun c zz zz=>fV b c
 | .int i,re=>Q3 re fun c zz zz=>Aj8 i c
 | .str s,re=>Q3 re fun c zz zz=>Aj7 s c
 | .var x,re=>P7 re fun id zz=>nm[x]? == some id&&R2 sc id&&R9 id
 | .glob g i,re=>P7 re fun id zz=>id==Str.ofString g&&gl.intL.contains (g,i)&&V6 sc id&&R9 id
 | .bin o l r,re=>fU re fun l' o' r' zz=>Cj1 o o'&&D0 gl sc nm l l'&&D0 gl sc nm r r'
 | .neg i,re=>W9 re fun o e zz=>o==.USub&&Q3 e fun c zz zz=>Aj8 i c
 | .cmp o l r,re=>R5 re fun l' os rs zz=>one? os fun o'=>one? rs fun r'=>mT o o'&&D0 gl sc nm l l'&&D0 gl sc nm r r'
 | .cmp2 o p a b c,re=>R5 re fun a' os rs zz=>two? os fun o' p'=>two? rs fun b' c'=>mT o o'&&mT p p'&&D0 gl sc nm a a'&&D0 gl sc nm b b'&&D0 gl sc nm c c'
 | .is e c,re=>R5 re fun e' os rs zz=>one? os fun o'=>one? rs fun r=>o'==.Is&&(D0 gl sc nm e e'&&mS c r)
 | .isnot e c,re=>R5 re fun e' os rs zz=>one? os fun o'=>one? rs fun r=>o'==.IsNot&&(D0 gl sc nm e e'&&mS c r)
 | .and es,re=>Z1 re fun o es' zz=>o==.And&&J7 gl sc nm es es'
 | .or es,re=>Z1 re fun o es' zz=>o==.Or&&J7 gl sc nm es es'
 | .not e,re=>W9 re fun o e' zz=>o==.Not&&D0 gl sc nm e e'
 | .idx o i,re=>fJ re fun o' i' zz=>D0 gl sc nm o o'&&D0 gl sc nm i i'
 | .slc o l h,re=>fJ re fun o' i' zz=>aO i' fun a b c zz=>c.isNone&&some? a fun l'=>some? b fun h'=>D0 gl sc nm o o'&&D0 gl sc nm l l'&&D0 gl sc nm h h'
 | .slcL o l,re=>fJ re fun o' i' zz=>aO i' fun a b c zz=>b.isNone&&c.isNone&&some? a fun l'=>D0 gl sc nm o o'&&D0 gl sc nm l l'
 | .slcH o h,re=>fJ re fun o' i' zz=>aO i' fun a b c zz=>a.isNone&&c.isNone&&some? b fun h'=>D0 gl sc nm o o'&&D0 gl sc nm h h'
 | .call f es,re=>V4 re fun g es' ks zz=>ks.isEmpty&&P7 g fun id zz=>id==Str.ofString f&&Ak2 gl f es&&V6 sc id&&R9 id&&J7 gl sc nm es es'
 | .isinst e t,re=>V4 re fun fn as ks zz=>ks.isEmpty&&two? as fun e' ty=>P8 sc "isinstance" fn&&P8 sc (Aj3 t) ty&&D0 gl sc nm e e'
 | .len e,re=>Ai4 sc "len" re fun e'=>D0 gl sc nm e e'
 | .toInt e,re=>Ai4 sc "int" re fun e'=>D0 gl sc nm e e'
 | .ord e,re=>Ai4 sc "ord" re fun e'=>D0 gl sc nm e e'
 | .append o e,re=>onM "append" re fun o' as=>one? as fun e'=>D0 gl sc nm o o'&&D0 gl sc nm e e'
 | .extend o e,re=>onM "extend" re fun o' as=>one? as fun e'=>D0 gl sc nm o o'&&D0 gl sc nm e e'
 | .pop o,re=>onM "pop" re fun o' as=>as.isEmpty&&D0 gl sc nm o o'
 | .find o x y,re=>onM "find" re fun o' as=>two? as fun x' y'=>D0 gl sc nm o o'&&D0 gl sc nm x x'&&D0 gl sc nm y y'
 | .replace o x y,re=>onM "replace" re fun o' as=>two? as fun x' y'=>As6 gl x&&eP y&&D0 gl sc nm o o'&&D0 gl sc nm x x'&&D0 gl sc nm y y'
 | .join o x,re=>onM "join" re fun o' as=>one? as fun x'=>D0 gl sc nm o o'&&D0 gl sc nm x x'
 | .split o x,re=>onM "split" re fun o' as=>one? as fun x'=>D0 gl sc nm o o'&&D0 gl sc nm x x'
 | .lstrip o x,re=>onM "lstrip" re fun o' as=>one? as fun x'=>D0 gl sc nm o o'&&D0 gl sc nm x x'
 | .list es,re=>nE re fun es' zz=>J7 gl sc nm es es'&&decide (es.length<=I8)
 | .tup es,re=>cO re fun es' zz zz=>J7 gl sc nm es es'&&decide (es.length<=I8)
 | .comp elt x src ifs,re=>iG re fun elt' g scope zz=>Bg6 g fun id it ifs'=>nm[x]? == some id&&!gl.lits.contains x&&P3 sc nm id scope&&D0 gl sc nm src it &&
   D0 gl (P5 sc scope.names) nm elt elt'&&J7 gl (P5 sc scope.names) nm ifs ifs'
 | .compR elt x n ifs,re=>iG re fun elt' g scope zz=>Bg6 g fun id it ifs'=>Ai4 sc "range" it fun n'=>nm[x]? == some id&&!gl.lits.contains x&&P3 sc nm id scope&&D0 gl sc nm n n' &&
   D0 gl (P5 sc scope.names) nm elt elt'&&J7 gl (P5 sc scope.names) nm ifs ifs'
noncomputable def J7 (gl:Gl) (sc:List (Str×NameKind)) (nm:List Str):List E->List Expr->Bool
 | [],es'=>es'.isEmpty
 | e::es,es'=>match es' with
  | []=>false
  | e'::es'=>D0 gl sc nm e e'&&J7 gl sc nm es es'
end
noncomputable def X0 (e:E):Bool:=!(e.ctorIdx==34||e.ctorIdx==35)
mutual
noncomputable def eJ (gl:Gl) (sc:List (Str×NameKind)) (nm:List Str):S->Stmt->Bool
 | .assign x e,re=>V8 re fun ts e' zz=>one? ts fun t=>P7 t fun id zz=>nm[x]? == some id&&R2 sc id&&sc.lookup id != some .free&&!gl.lits.contains x&&D0 gl sc nm e e'
 | .setIdx o i e,re=>V8 re fun ts e' zz=>one? ts fun t=>fJ t fun o' i' zz=>D0 gl sc nm o o'&&D0 gl sc nm i i'&&D0 gl sc nm e e'
 | .expr e,re=>nF re fun e' zz=>X0 e&&D0 gl sc nm e e'
 | .ite c t f,re=>Bf9 re fun c' t' f' zz=>D0 gl sc nm c c'&&P9 gl sc nm t t'&&P9 gl sc nm f f'
 | .whl c b,re=>fT re fun c' b' o zz=>o.isEmpty&&(D0 gl sc nm c c'&&P9 gl sc nm b b')
 | .forIn x e b,re=>mP re fun t e' b' o zz=>o.isEmpty&&P7 t fun id zz=>nm[x]? == some id&&R2 sc id&&sc.lookup id != some .free&&!gl.lits.contains x&&D0 gl sc nm e e'&&P9 gl sc nm b b'
 | .forR x e b,re=>mP re fun t it b' o zz=>o.isEmpty&&P7 t fun id zz=>Ai4 sc "range" it fun e'=>nm[x]? == some id&&R2 sc id&&sc.lookup id != some .free&&!gl.lits.contains x&&D0 gl sc nm e e'&&P9 gl sc nm b b'
 | .ret e,re=>Z0 re fun v zz=>some? v fun e'=>D0 gl sc nm e e'
 | .retNone,re=>Z0 re fun v zz=>v.isNone
 | .cont,re=>W2 re fun zz=>true
 | .pass,re=>nD re fun zz=>true
 | .raise c m,re=>Ca8 re fun x y zz=>y.isNone&&some? x fun e=>V4 e fun f as ks zz=>ks.isEmpty&&one? as (fun a=>Q3 a fun k zz zz=>Aj7 m k)&&P7 f fun id zz=>id==Str.ofString c&&V6 sc id&&R9 id
 | .forEnum x y e b,re=>mP re fun t it b' o zz=>o.isEmpty&&cO t fun ts zz zz=>two? ts fun t1 t2=>P7 t1 fun id zz=>P7 t2 fun id' zz=>Ai4 sc "enumerate" it fun e'=>(nm[x]? == some id&&R2 sc id&&sc.lookup id != some .free&&!gl.lits.contains x)&&(nm[y]? == some id'&&R2 sc id'&&sc.lookup id' != some .free&&!gl.lits.contains y)&&D0 gl sc nm e e'&&P9 gl sc nm b b'
noncomputable def P9 (gl:Gl) (sc:List (Str×NameKind)) (nm:List Str):List S->List Stmt->Bool
 | [],ss'=>ss'.isEmpty
 | s::ss,ss'=>match ss' with
  | []=>false
  | s'::ss'=>eJ gl sc nm s s'&&P9 gl sc nm ss ss'
end
section
variable {gl:Gl}{sc:List (Str×NameKind)}{nm:List Str}{re:Expr}
theorem Bq3 (h:D0 gl sc nm .none re=true) {P:Prop}(k:∀ k p,re=.Constant .none k p->P):P :=
 S8 h fun zz u p e h =>
 k u p (e.trans (congrArg (Expr.Constant · u p) (pA h)))
theorem Br1 {b}(h:D0 gl sc nm (.bool b) re=true) {P:Prop}(k:∀ k p,re=.Constant (.bool b) k p->P):P :=
 S8 h fun zz u p e h =>
 k u p (e.trans (congrArg (Expr.Constant · u p) (eZ h)))
theorem Cb6 {i}(h:D0 gl sc nm (.int i) re=true) {P:Prop}(k:∀ k p,re=.Constant (.int i) k p->P):P :=
 S8 h fun zz u p e h =>
 k u p (e.trans (congrArg (Expr.Constant · u p) (sH h)))
theorem vH {s}(h:D0 gl sc nm (.str s) re=true) {P:Prop}(k:∀ x k p,re=.Constant (.str x) k p->s=x.cps.toList->s.length<=I8->P):P :=
 S8 h fun zz u p e h =>
 Bc3 h fun x e2 h h2 =>
 k x u p (e.trans (congrArg (Expr.Constant · u p) e2)) h h2
theorem Av8 {x}(h:D0 gl sc nm (.var x) re=true) {P:Prop}(k:∀ id p,re=.Name id p->(nm[x]? == some id&&R2 sc id&&R9 id)=true->P):P:=N3 h k
theorem Bq5 {g i}(h:D0 gl sc nm (.glob g i) re=true) {P:Prop}(k:∀ id p,re=.Name id p->(id==Str.ofString g&&gl.intL.contains (g,i)&&V6 sc id&&R9 id)=true->P):P:=N3 h k
theorem Cb8 {o l r}(h:D0 gl sc nm (.bin o l r) re=true) {P:Prop}(k:∀ l' o' r' p,re=.BinOp l' o' r' p->(Cj1 o o'&&D0 gl sc nm l l'&&D0 gl sc nm r r')=true->P):P:=An5 h k
theorem Aw0 {i}(h:D0 gl sc nm (.neg i) re=true) {P:Prop}(k:∀ k p q,re=.UnaryOp .USub (.Constant (.int i) k p) q->P):P :=
 oX h fun zz zz p e h =>
 S8 (D1 h).2 fun zz u q e2 h3 =>
 k u q p (e.trans (by rw [e2,sH h3,eq_of_beq (D1 h).1]))
theorem Aw1 {o l r}(h:D0 gl sc nm (.cmp o l r) re=true) {P:Prop}(k:∀ l' o' r' p,re=.Compare l' [o'] [r'] p->(mT o o'&&D0 gl sc nm l l'&&D0 gl sc nm r r')=true->P):P :=
 U4 h fun l' zz zz p e h =>
 V3 h fun o' e2 h =>
 V3 h fun r' e3 h =>
 k l' o' r' p (e.trans (uM e2 e3)) h
theorem zN {o p a b c}(h:D0 gl sc nm (.cmp2 o p a b c) re=true) {P:Prop}(k:∀ a' o' p' b' c' q,re=.Compare a' [o',p'] [b',c'] q->(mT o o'&&mT p p'&&D0 gl sc nm a a'&&D0 gl sc nm b b'&&D0 gl sc nm c c')=true->P):P :=
 U4 h fun l' zz zz q e h =>
 iF h fun o' p' e2 h =>
 iF h fun b' c' e3 h =>
 k l' o' p' b' c' q (e.trans (uM e2 e3)) h
theorem Bk0 {e c}(h:D0 gl sc nm (.is e c) re=true) {P:Prop}(k:∀ e' r p,re=.Compare e' [.Is] [r] p->(D0 gl sc nm e e'&&mS c r)=true->P):P :=
 U4 h fun l' zz zz q e h =>
 V3 h fun zz e2 h =>
 V3 h fun r' e3 h =>
 k l' r' q (e.trans (uM (e2.trans (congrArg (fun x=>[x]) (eq_of_beq (D1 h).1))) e3)) ((D1 h).2)
theorem sI {e c}(h:D0 gl sc nm (.isnot e c) re=true) {P:Prop}(k:∀ e' r p,re=.Compare e' [.IsNot] [r] p->(D0 gl sc nm e e'&&mS c r)=true->P):P :=
 U4 h fun l' zz zz q e h =>
 V3 h fun zz e2 h =>
 V3 h fun r' e3 h =>
 k l' r' q (e.trans (uM (e2.trans (congrArg (fun x=>[x]) (eq_of_beq (D1 h).1))) e3)) ((D1 h).2)
theorem Aw2 {es}(h:D0 gl sc nm (.and es) re=true) {P:Prop}(k:∀ es' p,re=.BoolOp .And es' p->J7 gl sc nm es es'=true->P):P :=
 kF h fun zz es' p e h =>
 k es' p (e.trans (congrArg (Expr.BoolOp · es' p) (eq_of_beq (D1 h).1))) ((D1 h).2)
theorem Bj9 {es}(h:D0 gl sc nm (.or es) re=true) {P:Prop}(k:∀ es' p,re=.BoolOp .Or es' p->J7 gl sc nm es es'=true->P):P :=
 kF h fun zz es' p e h =>
 k es' p (e.trans (congrArg (Expr.BoolOp · es' p) (eq_of_beq (D1 h).1))) ((D1 h).2)
theorem Av9 {e}(h:D0 gl sc nm (.not e) re=true) {P:Prop}(k:∀ e' p,re=.UnaryOp .Not e' p->D0 gl sc nm e e'=true->P):P :=
 oX h fun zz es' p e h =>
 k es' p (e.trans (congrArg (Expr.UnaryOp · es' p) (eq_of_beq (D1 h).1))) ((D1 h).2)
theorem Cb7 {o i}(h:D0 gl sc nm (.idx o i) re=true) {P:Prop}(k:∀ o' i' p,re=.Subscript o' i' p->(D0 gl sc nm o o'&&D0 gl sc nm i i')=true->P):P:=bY h k
theorem Cb2 {o l u}(h:D0 gl sc nm (.slc o l u) re=true) {P:Prop}(k:∀ o' l' h' q p,re=.Subscript o' (.Slice (some l') (some h') none q) p->(D0 gl sc nm o o'&&D0 gl sc nm l l'&&D0 gl sc nm u h')=true->P):P :=
 bY h fun o' zz p e h =>
 eV h fun zz zz zz q e2 h =>
 fS (D1 h).2 fun l' e3 h2 =>
 fS h2 fun h' e4 h2 =>
 k o' l' h' q p (e.trans (Aj5 e2 e3 e4 (cQ (D1 h).1))) h2
theorem Bq0 {o l}(h:D0 gl sc nm (.slcL o l) re=true) {P:Prop}(k:∀ o' l' q p,re=.Subscript o' (.Slice (some l') none none q) p->(D0 gl sc nm o o'&&D0 gl sc nm l l')=true->P):P :=
 bY h fun o' zz p e h =>
 eV h fun zz zz zz q e2 h =>
 fS (D1 h).2 fun l' e3 h2 =>
 have h:=D1 (D1 h).1
 k o' l' q p (e.trans (Aj5 e2 e3 (cQ h.1) (cQ h.2))) h2
theorem Bq1 {o u}(h:D0 gl sc nm (.slcH o u) re=true) {P:Prop}(k:∀ o' h' q p,re=.Subscript o' (.Slice none (some h') none q) p->(D0 gl sc nm o o'&&D0 gl sc nm u h')=true->P):P :=
 bY h fun o' zz p e h =>
 eV h fun zz zz zz q e2 h =>
 fS (D1 h).2 fun l' e3 h2 =>
 have h:=D1 (D1 h).1
 k o' l' q p (e.trans (Aj5 e2 (cQ h.1) e3 (cQ h.2))) h2
theorem Br0 {f es}(h:D0 gl sc nm (.call f es) re=true) {P:Prop}(k:∀ id p0 es' p,re=.Call (.Name id p0) es' [] p->(id==Str.ofString f&&Ak2 gl f es&&V6 sc id&&R9 id&&J7 gl sc nm es es')=true->P):P :=
 dC h fun zz es' zz p e h =>
 N3 (D1 h).2 fun id p0 e2 h2 =>
 k id p0 es' p ((e.trans (aP rfl (V5 (D1 h).1))).trans (congrArg (Expr.Call · es' [] p) e2)) h2
theorem Ao0 {e t}(h:D0 gl sc nm (.isinst e t) re=true) {P:Prop}(k:∀ fn e' ty p,re=.Call fn [e',ty] [] p->(P8 sc "isinstance" fn&&P8 sc (Aj3 t) ty&&D0 gl sc nm e e')=true->P):P :=
 dC h fun f zz zz p e h =>
 iF (D1 h).2 fun e' ty e2 h2 =>
 k f e' ty p (e.trans (aP e2 (V5 (D1 h).1))) h2
theorem m1 {n:String}{o e:E}(h:onM n re (fun o' as=>one? as fun e'=>D0 gl sc nm o o'&&D0 gl sc nm e e')=true) {P:Prop}(k:∀ o' e' ap p,re=.Call (.Attribute o' (Str.ofString n) ap) [e'] [] p->(ap.endLine==p.line)=true->xO o'=true->D0 gl sc nm o o'=true->D0 gl sc nm e e'=true->P):P :=
 uE h fun o' zz ap p e1 h2 h3 h =>
 V3 h fun e' e2 h =>
 k o' e' ap p (e1.trans (aP e2 rfl)) h2 h3 (D1 h).1 (D1 h).2
theorem Cb4 {o}(h:D0 gl sc nm (.pop o) re=true) {P:Prop}(k:∀ o' ap p,re=.Call (.Attribute o' (Str.ofString "pop") ap) [] [] p->(ap.endLine==p.line)=true->xO o'=true->D0 gl sc nm o o'=true->P):P :=
 uE h fun o' zz ap p e1 h2 h3 h =>
 k o' ap p (e1.trans (aP (V5 (D1 h).1) rfl)) h2 h3 ((D1 h).2)
theorem Bq7 {o x y}(h:D0 gl sc nm (.find o x y) re=true) {P:Prop}(k:∀ o' x' y' ap p,re=.Call (.Attribute o' (Str.ofString "find") ap) [x',y'] [] p->(ap.endLine==p.line)=true->xO o'=true->D0 gl sc nm o o'=true->D0 gl sc nm x x'=true->D0 gl sc nm y y'=true->P):P :=
 uE h fun o' zz ap p e1 h2 h3 h =>
 iF h fun x' y' e2 h =>
 have h6:=D1 h
 have h5:=D1 h6.1
 k o' x' y' ap p (e1.trans (aP e2 rfl)) h2 h3 h5.1 h5.2 h6.2
theorem Ae4 {o x y}(h:D0 gl sc nm (.replace o x y) re=true) {P:Prop}(k:∀ o' x' y' ap p,re=.Call (.Attribute o' (Str.ofString "replace") ap) [x',y'] [] p->(ap.endLine==p.line)=true->xO o'=true->As6 gl x=true->eP y=true->D0 gl sc nm o o'=true->D0 gl sc nm x x'=true->D0 gl sc nm y y'=true->P):P :=
 uE h fun o' zz ap p e1 h2 h3 h =>
 iF h fun x' y' e2 h =>
 have h6:=D1 h
 have h5:=D1 h6.1
 have h4:=D1 h5.1
 have h7:=D1 h4.1
 k o' x' y' ap p (e1.trans (aP e2 rfl)) h2 h3 h7.1 h7.2 h4.2 h5.2 h6.2
theorem Bq4 {es}(h:D0 gl sc nm (.list es) re=true) {P:Prop}(k:∀ es' p,re=.List es' p->(J7 gl sc nm es es'&&decide (es.length<=I8))=true->P):P:=Bb7 h k
theorem Cb1 {es}(h:D0 gl sc nm (.tup es) re=true) {P:Prop}(k:∀ es' k p,re=.Tuple es' k p->(J7 gl sc nm es es'&&decide (es.length<=I8))=true->P):P:=oY h k
theorem zM {elt x src ifs}(h:D0 gl sc nm (.comp elt x src ifs) re=true) {P:Prop}(k:∀ elt' id px it ifs' scope p,re=.ListComp elt' [⟨.Name id px,it,ifs',0⟩] scope p->(nm[x]? == some id&&!gl.lits.contains x&&P3 sc nm id scope&&D0 gl sc nm src it&&D0 gl (P5 sc scope.names) nm elt elt'&&J7 gl (P5 sc scope.names) nm ifs ifs')=true->P):P :=
 sG h fun elt' zz scope p e h =>
 zK h fun id px it ifs' e2 h =>
 k elt' id px it ifs' scope p (e.trans (congrArg (Expr.ListComp elt' · scope p) e2)) h
theorem sJ {elt x n ifs}(h:D0 gl sc nm (.compR elt x n ifs) re=true) {P:Prop}(k:∀ elt' id px fn n' pp ifs' scope p,re=.ListComp elt' [⟨.Name id px,.Call fn [n'] [] pp,ifs',0⟩] scope p->P8 sc "range" fn=true->(nm[x]? == some id&&!gl.lits.contains x&&P3 sc nm id scope&&D0 gl sc nm n n'&&D0 gl (P5 sc scope.names) nm elt elt'&&J7 gl (P5 sc scope.names) nm ifs ifs')=true->P):P :=
 sG h fun elt' zz scope p e h =>
 zK h fun id px it ifs' e2 h =>
 cP h fun fn n' pp e3 h1 h =>
 k elt' id px fn n' pp ifs' scope p (e.trans (congrArg (Expr.ListComp elt' · scope p) (e2.trans (congrArg (fun it=>[Comprehension.mk (.Name id px) it ifs' 0]) e3)))) h1 h
theorem Ao1 {es'}(h:J7 gl sc nm [] es'=true):es'=[]:=V5 h
theorem Ae6 {e es es'}(h:J7 gl sc nm (e::es) es'=true):∃ re rest,es'=re::rest/\D0 gl sc nm e re=true/\J7 gl sc nm es rest=true:=by
 match es',h with
 | re::rest,h=>exact ⟨re,rest,rfl,D1 h⟩
theorem eY {e es re rest}(h:D0 gl sc nm e re=true) (h2:J7 gl sc nm es rest=true):J7 gl sc nm (e::es) (re::rest)=true:=by
 show (D0 gl sc nm e re&&J7 gl sc nm es rest)=true
 rw [h,h2];rfl
noncomputable def Ch1:List Nat:=[0,2,3,8,15,16,19,20,21,23,24,25]
noncomputable def Bj3 (re:Expr):Bool:=![0,15].contains re.ctorIdx&&!(W9 re fun o zz zz=>o==.Not)
noncomputable def plainC (e:E):Bool:=![8,9,10,11,12,13,14].contains e.ctorIdx
structure KOk (e:E) (re:Expr):Prop where
 form:Ch1.contains re.ctorIdx=true
 comp:X0 e=true->(re.ctorIdx==8)=false
 test:plainC e=true->Bj3 re=true
theorem KOk.of {e:E}{k:Nat}(h:re.ctorIdx=k) (h1:Ch1.contains k=true) (h2:X0 e=true->(k==8)=false) (h3:plainC e=true->[0,3,15].contains k=false):KOk e re:=by
 refine ⟨h▸h1,h▸h2,fun hp=>?_⟩
 have h4:=h3 hp
 rw [<- h] at h4
 have h5:re.ctorIdx≠3:=fun e=>by rw [e] at h4;cases h4
 have h6:[0,15].contains re.ctorIdx=false:=by
  simp only [List.contains_cons,List.contains_nil,Bool.or_eq_false_iff] at h4 ⊢
  exact ⟨h4.1,h4.2.2.1,trivial⟩
 unfold Bj3 W9
 rw [dif_neg h5,h6];rfl
theorem jN:∀ {e:E},D0 gl sc nm e re=true->KOk e re
 | .none,h=>.of (k:=19) (T8 h) rfl (fun zz=>rfl) (fun zz=>rfl)
 | .bool _,h=>.of (k:=19) (T8 h) rfl (fun zz=>rfl) (fun zz=>rfl)
 | .int _,h=>.of (k:=19) (T8 h) rfl (fun zz=>rfl) (fun zz=>rfl)
 | .str _,h=>.of (k:=19) (T8 h) rfl (fun zz=>rfl) (fun zz=>rfl)
 | .var _,h=>.of (k:=23) (eW h) rfl (fun zz=>rfl) (fun zz=>rfl)
 | .glob _ _,h=>.of (k:=23) (eW h) rfl (fun zz=>rfl) (fun zz=>rfl)
 | .bin _ _ _,h=>.of (k:=2) (kG h) rfl (fun zz=>rfl) (fun zz=>rfl)
 | .neg _,h=>Aw0 h fun zz zz zz e=>e▸⟨rfl,fun zz=>rfl,fun zz=>rfl⟩
 | .cmp _ _ _,h=>.of (k:=15) (Q1 h) rfl (fun zz=>rfl) (fun h=>nomatch h)
 | .cmp2 _ _ _ _ _,h=>.of (k:=15) (Q1 h) rfl (fun zz=>rfl) (fun h=>nomatch h)
 | .is _ _,h=>.of (k:=15) (Q1 h) rfl (fun zz=>rfl) (fun h=>nomatch h)
 | .isnot _ _,h=>.of (k:=15) (Q1 h) rfl (fun zz=>rfl) (fun h=>nomatch h)
 | .and _,h=>.of (k:=0) (aX h) rfl (fun zz=>rfl) (fun h=>nomatch h)
 | .or _,h=>.of (k:=0) (aX h) rfl (fun zz=>rfl) (fun h=>nomatch h)
 | .not _,h=>.of (k:=3) (kC h) rfl (fun zz=>rfl) (fun h=>nomatch h)
 | .idx _ _,h=>.of (k:=21) (aD h) rfl (fun zz=>rfl) (fun zz=>rfl)
 | .slc _ _ _,h=>.of (k:=21) (aD h) rfl (fun zz=>rfl) (fun zz=>rfl)
 | .slcL _ _,h=>.of (k:=21) (aD h) rfl (fun zz=>rfl) (fun zz=>rfl)
 | .slcH _ _,h=>.of (k:=21) (aD h) rfl (fun zz=>rfl) (fun zz=>rfl)
 | .call _ _,h=>.of (k:=16) (J3 h) rfl (fun zz=>rfl) (fun zz=>rfl)
 | .isinst _ _,h=>.of (k:=16) (J3 h) rfl (fun zz=>rfl) (fun zz=>rfl)
 | .len _,h=>.of (k:=16) (J3 h) rfl (fun zz=>rfl) (fun zz=>rfl)
 | .toInt _,h=>.of (k:=16) (J3 h) rfl (fun zz=>rfl) (fun zz=>rfl)
 | .ord _,h=>.of (k:=16) (J3 h) rfl (fun zz=>rfl) (fun zz=>rfl)
 | .append _ _,h=>.of (k:=16) (J3 h) rfl (fun zz=>rfl) (fun zz=>rfl)
 | .extend _ _,h=>.of (k:=16) (J3 h) rfl (fun zz=>rfl) (fun zz=>rfl)
 | .pop _,h=>.of (k:=16) (J3 h) rfl (fun zz=>rfl) (fun zz=>rfl)
 | .find _ _ _,h=>.of (k:=16) (J3 h) rfl (fun zz=>rfl) (fun zz=>rfl)
 | .replace _ _ _,h=>.of (k:=16) (J3 h) rfl (fun zz=>rfl) (fun zz=>rfl)
 | .join _ _,h=>.of (k:=16) (J3 h) rfl (fun zz=>rfl) (fun zz=>rfl)
 | .split _ _,h=>.of (k:=16) (J3 h) rfl (fun zz=>rfl) (fun zz=>rfl)
 | .list _,h=>.of (k:=24) (oZ h) rfl (fun zz=>rfl) (fun zz=>rfl)
 | .tup _,h=>.of (k:=25) (kD h) rfl (fun zz=>rfl) (fun zz=>rfl)
 | .comp _ _ _ _,h=>.of (k:=8) (eX h) rfl (fun h=>nomatch h) (fun zz=>rfl)
 | .compR _ _ _ _,h=>.of (k:=8) (eX h) rfl (fun h=>nomatch h) (fun zz=>rfl)
 | .lstrip _ _,h=>.of (k:=16) (J3 h) rfl (fun zz=>rfl) (fun zz=>rfl)
theorem qZ {e:E}(h:X0 e=false):(∃ a b c d,e=.comp a b c d)∨∃ a b c d,e=.compR a b c d:=by
 by_cases h1:e.ctorIdx=34
 ·exact Or.inl (E.comp.elim (motive_1:=fun e=>∃ a b c d,e=.comp a b c d) e h1 fun a b c d=>⟨a,b,c,d,rfl⟩)
 ·by_cases h2:e.ctorIdx=35
  ·exact Or.inr (E.compR.elim (motive_1:=fun e=>∃ a b c d,e=.compR a b c d) e h2 fun a b c d=>⟨a,b,c,d,rfl⟩)
  ·unfold X0 at h
   rw [beq_false_of_ne h1,beq_false_of_ne h2] at h
   cases h
theorem Bc2 {e:E}(h:As6 gl e=true):((eP e&&gl.pos)=true)∨∃ x,e=.var x/\gl.lits.contains x=true:=by
 cases h1:(eP e&&gl.pos)
 ·right
  unfold As6 at h
  rw [h1,Bool.false_or] at h
  by_cases hk:e.ctorIdx=4
  ·revert h
   exact E.var.elim (motive_1:=fun e=>(if h:e.ctorIdx=4 then E.var.elim (motive_1:=fun zz=>Bool) e h fun x=>gl.lits.contains x else false)=true->∃ x,e=.var x/\gl.lits.contains x=true) e hk fun x h=>⟨x,rfl,h⟩
  ·rw [dif_neg hk] at h;cases h
 ·exact Or.inl rfl
theorem vE {e:E}(h:eP e=true):∃ l,e=.str l :=
 E.str.elim (motive_1:=fun e=>∃ l,e=.str l) e (eq_of_beq h) fun l=>⟨l,rfl⟩
end
section
variable {gl:Gl}{sc:List (Str×NameKind)}{nm:List Str}{re:Stmt}
theorem Ao2 {x e}(h:eJ gl sc nm (.assign x e) re=true) {P:Prop}(k:∀ id p e' p',re=.Assign [.Name id p] e' p'->(nm[x]? == some id&&R2 sc id&&sc.lookup id != some .free&&!gl.lits.contains x&&D0 gl sc nm e e')=true->P):P :=
 kH h fun zz e' p' e1 h =>
 V3 h fun zz e2 h =>
 N3 h fun id p e3 h =>
 k id p e' p' (e1.trans (congrArg (Stmt.Assign · e' p') (e2.trans (congrArg (fun x=>[x]) e3)))) h
theorem An9 {o i e}(h:eJ gl sc nm (.setIdx o i e) re=true) {P:Prop}(k:∀ o' i' p e' p',re=.Assign [.Subscript o' i' p] e' p'->(D0 gl sc nm o o'&&D0 gl sc nm i i'&&D0 gl sc nm e e')=true->P):P :=
 kH h fun zz e' p' e1 h =>
 V3 h fun zz e2 h =>
 bY h fun o' i' p e3 h =>
 k o' i' p e' p' (e1.trans (congrArg (Stmt.Assign · e' p') (e2.trans (congrArg (fun x=>[x]) e3)))) h
theorem Bq8 {e}(h:eJ gl sc nm (.expr e) re=true) {P:Prop}(k:∀ e' p,re=.Expr e' p->(X0 e&&D0 gl sc nm e e')=true->P):P:=Bb9 h k
theorem Cb5 {c t f}(h:eJ gl sc nm (.ite c t f) re=true) {P:Prop}(k:∀ c' t' f' p,re=.If c' t' f' p->(D0 gl sc nm c c'&&P9 gl sc nm t t'&&P9 gl sc nm f f')=true->P):P:=Ca9 h k
theorem Cb0 {c b}(h:eJ gl sc nm (.whl c b) re=true) {P:Prop}(k:∀ c' b' p,re=.While c' b' [] p->(D0 gl sc nm c c'&&P9 gl sc nm b b')=true->P):P :=
 An2 h fun c' b' zz p e h =>
 k c' b' p (e.trans (congrArg (Stmt.While c' b' · p) (V5 (D1 h).1))) ((D1 h).2)
theorem Ak0 {t t' it it':Expr}{b o:List Stmt}{p:PySem.Pos}(h1:t=t') (h2:it=it') (h3:o=[]):Stmt.For t it b o p=.For t' it' b [] p:=by rw [h1,h2,h3]
theorem Bc4 {x e b}(h:eJ gl sc nm (.forIn x e b) re=true) {P:Prop}(k:∀ id p e' b' p',re=.For (.Name id p) e' b' [] p'->(nm[x]? == some id&&R2 sc id&&sc.lookup id != some .free&&!gl.lits.contains x&&D0 gl sc nm e e'&&P9 gl sc nm b b')=true->P):P :=
 nS h fun zz e' b' zz p' e1 h =>
 N3 (D1 h).2 fun id p e2 h2 =>
 k id p e' b' p' (e1.trans (Ak0 e2 rfl (V5 (D1 h).1))) h2
theorem Bq6 {x e b}(h:eJ gl sc nm (.forR x e b) re=true) {P:Prop}(k:∀ id p fn e' pp b' p',re=.For (.Name id p) (.Call fn [e'] [] pp) b' [] p'->P8 sc "range" fn=true->(nm[x]? == some id&&R2 sc id&&sc.lookup id != some .free&&!gl.lits.contains x&&D0 gl sc nm e e'&&P9 gl sc nm b b')=true->P):P :=
 nS h fun zz zz b' zz p' e1 h =>
 N3 (D1 h).2 fun id p e2 h2 =>
 cP h2 fun fn n' pp e3 h1 h3 =>
 k id p fn n' pp b' p' (e1.trans (Ak0 e2 e3 (V5 (D1 h).1))) h1 h3
theorem Ae5 {x y e b}(h:eJ gl sc nm (.forEnum x y e b) re=true) {P:Prop}(k:∀ id p id' p' u pt fn e' pp b' p'',re=.For (.Tuple [.Name id p,.Name id' p'] u pt) (.Call fn [e'] [] pp) b' [] p''->P8 sc "enumerate" fn=true->((nm[x]? == some id&&R2 sc id&&sc.lookup id != some .free&&!gl.lits.contains x)&&(nm[y]? == some id'&&R2 sc id'&&sc.lookup id' != some .free&&!gl.lits.contains y)&&D0 gl sc nm e e'&&P9 gl sc nm b b')=true->P):P :=
 nS h fun zz zz b' zz p'' e1 h =>
 oY (D1 h).2 fun zz u pt e2 h2 =>
 iF h2 fun zz zz e3 h3 =>
 N3 h3 fun id p e4 h4 =>
 N3 h4 fun id' p' e5 h5 =>
 cP h5 fun fn n' pp e6 h1 h6 =>
 k id p id' p' u pt fn n' pp b' p'' (e1.trans (Ak0 (by rw [e2,e3,e4,e5]) e6 (V5 (D1 h).1))) h1 h6
theorem Cb3 {e}(h:eJ gl sc nm (.ret e) re=true) {P:Prop}(k:∀ e' p,re=.Return (some e') p->D0 gl sc nm e e'=true->P):P :=
 kE h fun zz p e1 h =>
 fS h fun e' e2 h =>
 k e' p (e1.trans (congrArg (Stmt.Return · p) e2)) h
theorem Ae3 (h:eJ gl sc nm .retNone re=true) {P:Prop}(k:∀ p,re=.Return none p->P):P :=
 kE h fun zz p e1 h =>
 k p (e1.trans (congrArg (Stmt.Return · p) (cQ h)))
theorem Bq9 (h:eJ gl sc nm .cont re=true) {P:Prop}(k:∀ p,re=.Continue p->P):P:=qY h fun p e zz=>k p e
theorem Bq2 (h:eJ gl sc nm .pass re=true) {P:Prop}(k:∀ p,re=.Pass p->P):P:=Bb6 h fun p e zz=>k p e
theorem An8 {es'}(h:P9 gl sc nm [] es'=true):es'=[]:=V5 h
theorem Ae2 {e es es'}(h:P9 gl sc nm (e::es) es'=true):∃ re rest,es'=re::rest/\eJ gl sc nm e re=true/\P9 gl sc nm es rest=true:=by
 match es',h with
 | re::rest,h=>exact ⟨re,rest,rfl,D1 h⟩
end
noncomputable def uH:List Str->Bool
 | []=>true
 | x::l=>!l.contains x&&uH l
noncomputable def Bj8 (scope:Scope):Bool:=scope.kind==.function&&!scope.isGenerator&&!scope.isCoroutine&&scope.names.all fun x=>x.2 != .free
noncomputable def zO (params:Arguments) (scope:Scope):Bool:=match params.args with
 | a::_=>scope.names.lookup a.arg==some .local
 | []=>false
noncomputable def As9 (gl:Gl) (fn:Fn) (params:Arguments) (body:List Stmt) (scope:Scope):Bool :=
 Bj8 scope&&uH (fn.names.map Str.ofString)&&decide (fn.params<=fn.names.length) &&
 params.posonlyargs.isEmpty&&params.vararg.isNone&&params.kwonlyargs.isEmpty&&params.kwarg.isNone&&params.defaults.isEmpty&&params.kw_defaults.isEmpty &&
 (params.args.map (·.arg)==(fn.names.take fn.params).map Str.ofString)&&(params.args.all fun a=>scope.names.lookup a.arg==some .local||scope.names.lookup a.arg==some .cell) &&
 fn.lits.all (fun j=>decide (j<fn.params))&&(!fn.bump||zO params scope)&&P9 { gl with lits:=fn.lits } scope.names (fn.names.map Str.ofString) fn.body body
end Mini
namespace Mini
section
variable {C:Calls}{ρ:D7}{Q:C2}{H:Heap}
theorem Aj1 {x}(h:D9 C (.var x) ρ Q H):match ρ[x]? with
  | some (some v)=>Q v H
  | _=>False:=h
theorem Ca6 {a0 i}(h:D9 C (.glob a0 i) ρ Q H):Q (.int i) H:=h
theorem Bj0 {o l r}(h:D9 C (.bin o l r) ρ Q H):D9 C l ρ (fun a H₁=>D9 C r ρ (fun b H₂=>res (eK o a b H₂) Q) H₁) H:=h
theorem Cl0 {i}(h:D9 C (.neg i) ρ Q H):Q (.int (-i)) H:=h
theorem Aj2 {o l r}(h:D9 C (.cmp o l r) ρ Q H):D9 C l ρ (fun a H₁=>D9 C r ρ (fun b H₂=>boo (Q6 o a b H₂) (fun b H=>Q (.bool b) H) H₂) H₁) H:=h
theorem vD {o₁ o₂ a b c}(h:D9 C (.cmp2 o₁ o₂ a b c) ρ Q H):D9 C a ρ (fun va H₁=>D9 C b ρ (fun vb H₂=>boo (Q6 o₁ va vb H₂) (fun t H₂=>match t with
   | true=>D9 C c ρ (fun vc H₃=>boo (Q6 o₂ vb vc H₃) (fun b H=>Q (.bool b) H) H₃) H₂
   | false=>Q (.bool false) H₂) H₂) H₁) H:=h
theorem Cg6 {e c}(h:D9 C (.is e c) ρ Q H):D9 C e ρ (fun v H₁=>Q (.bool (isV v c)) H₁) H:=h
theorem zH {e c}(h:D9 C (.isnot e c) ρ Q H):D9 C e ρ (fun v H₁=>Q (.bool (!isV v c)) H₁) H:=h
theorem Bj1 {es}(h:D9 C (.and es) ρ Q H):fG C es ρ Q H:=h
theorem Cg5 {es}(h:D9 C (.or es) ρ Q H):tZ C es ρ Q H:=h
theorem Bi8 {e}(h:D9 C (.not e) ρ Q H):D9 C e ρ (fun v H₁=>boo (J1 v) (fun b H=>Q (.bool (!b)) H) H₁) H:=h
theorem Bi9 {o i}(h:D9 C (.idx o i) ρ Q H):D9 C o ρ (fun vo H₁=>D9 C i ρ (fun vi H₂=>val (X9 vo vi H₂) Q H₂) H₁) H:=h
theorem Bi5 {o l u}(h:D9 C (.slc o l u) ρ Q H):D9 C o ρ (fun vo H₁=>D9 C l ρ (fun vl H₂=>D9 C u ρ (fun vh H₃=>match vl,vh with
   | .int a,.int b=>res (dL vo (some a) (some b) H₃) Q
   | _,_=>False) H₂) H₁) H:=h
theorem Av1 {o l}(h:D9 C (.slcL o l) ρ Q H):D9 C o ρ (fun vo H₁=>D9 C l ρ (fun vl H₂=>match vl with
   | .int a=>res (dL vo (some a) Option.none H₂) Q
   | _=>False) H₁) H:=h
theorem Av2 {o u}(h:D9 C (.slcH o u) ρ Q H):D9 C o ρ (fun vo H₁=>D9 C u ρ (fun vh H₂=>match vh with
   | .int a=>res (dL vo Option.none (some a) H₂) Q
   | _=>False) H₁) H:=h
theorem Ca7 {f es}(h:D9 C (.call f es) ρ Q H):R7 C es ρ (fun vs H₁=>C f vs Q H₁) H:=h
theorem Bb3 {e t}(h:D9 C (.isinst e t) ρ Q H):D9 C e ρ (fun v H₁=>Q (.bool (cR v t)) H₁) H:=h
theorem Cl1 {e}(h:D9 C (.len e) ρ Q H):D9 C e ρ (fun v H₁=>val ((uA v H₁).map .int) Q H₁) H:=h
theorem zF {e}(h:D9 C (.toInt e) ρ Q H):D9 C e ρ (fun v H₁=>match v with
   | .bool b=>Q (.int (if b then 1 else 0)) H₁
   | _=>False) H:=h
theorem Bi7 {e}(h:D9 C (.ord e) ρ Q H):D9 C e ρ (fun v H₁=>match v with
   | .str [c]=>Q (.int (c:Int)) H₁
   | _=>False) H:=h
theorem sF {o e}(h:D9 C (.append o e) ρ Q H):D9 C o ρ (fun vo H₁=>match vo with
   | .ref a=>D9 C e ρ (fun v H₂=>hea (X1 (.ref a) v H₂) Q) H₁
   | _=>False) H:=h
theorem sE {o e}(h:D9 C (.extend o e) ρ Q H):D9 C o ρ (fun vo H₁=>match vo with
   | .ref a=>D9 C e ρ (fun v H₂=>hea (vL (.ref a) v H₂) Q) H₁
   | _=>False) H:=h
theorem Bi6 {o}(h:D9 C (.pop o) ρ Q H):D9 C o ρ (fun vo H₁=>match vo with
   | .ref a=>res (Ai3 (.ref a) H₁) Q
   | _=>False) H:=h
theorem Av4 {o a b}(h:D9 C (.find o a b) ρ Q H):D9 C o ρ (fun vo H₁=>match vo with
   | .str s=>D9 C a ρ (fun va H₂=>D9 C b ρ (fun vb H₃=>yB s va vb Q H₃) H₂) H₁
   | _=>False) H:=h
theorem oV {o a b}(h:D9 C (.replace o a b) ρ Q H):D9 C o ρ (fun vo H₁=>match vo with
   | .str s=>D9 C a ρ (fun va H₂=>D9 C b ρ (fun vb H₃=>Y9 s va vb Q H₃) H₂) H₁
   | _=>False) H:=h
theorem Av3 {o a}(h:D9 C (.join o a) ρ Q H):D9 C o ρ (fun vo H₁=>match vo with
   | .str s=>D9 C a ρ (fun va H₂=>dP s va Q H₂) H₁
   | _=>False) H:=h
theorem zG {o a}(h:D9 C (.split o a) ρ Q H):D9 C o ρ (fun vo H₁=>match vo with
   | .str s=>D9 C a ρ (fun va H₂=>Aj4 s va Q H₂) H₁
   | _=>False) H:=h
theorem sD {o a}(h:D9 C (.lstrip o a) ρ Q H):D9 C o ρ (fun vo H₁=>match vo with
   | .str s=>D9 C a ρ (fun va H₂=>vF s va Q H₂) H₁
   | _=>False) H:=h
theorem Ca5 {es}(h:D9 C (.list es) ρ Q H):R7 C es ρ (fun vs H₁=>Q (.ref H₁.length) (H₁++[vs])) H:=h
theorem Ck9 {es}(h:D9 C (.tup es) ρ Q H):R7 C es ρ (fun vs H₁=>Q (.tup vs) H₁) H:=h
theorem vC {elt x src ifs}(h:D9 C (.comp elt x src ifs) ρ Q H):D9 C src ρ (fun v H₁=>match iterV v with
   | some it=>∃ n,T3 (Q7 C ifs) (D9 C elt) x ρ it n 0 [] (fun vs H₂=>Q (.ref H₂.length) (H₂++[vs])) H₁
   | Option.none=>False) H:=h
theorem nO {elt x e ifs}(h:D9 C (.compR elt x e ifs) ρ Q H):D9 C e ρ (fun v H₁=>match rangeV v with
   | some it=>∃ n,T3 (Q7 C ifs) (D9 C elt) x ρ it n 0 [] (fun vs H₂=>Q (.ref H₂.length) (H₂++[vs])) H₁
   | Option.none=>False) H:=h
end
section
variable {C:Calls}{ρ:D7}{Q:E2}{H:Heap}
theorem Bb2 {x e}(h:iA C (.assign x e) ρ Q H):D9 C e ρ (fun v H₁=>Q .next (ρ.set x (some v)) H₁) H:=h
theorem sC {o i e}(h:iA C (.setIdx o i e) ρ Q H):D9 C e ρ (fun v H₁=>D9 C o ρ (fun vo H₂=>D9 C i ρ (fun vi H₃=>hea (Cj0 vo vi v H₃) (fun zz H₄=>Q .next ρ H₄)) H₂) H₁) H:=h
theorem Ca3 {e}(h:iA C (.expr e) ρ Q H):D9 C e ρ (fun zz H₁=>Q .next ρ H₁) H:=h
theorem Bi4 {c t f}(h:iA C (.ite c t f) ρ Q H):D9 C c ρ (fun v H₁=>boo (J1 v) (fun b H₁=>match b with
   | true=>C4 C t ρ Q H₁
   | false=>C4 C f ρ Q H₁) H₁) H:=h
theorem Bi3 {c b}(h:iA C (.whl c b) ρ Q H):∃ n,eO (D9 C c) (C4 C b) n ρ Q H:=h
theorem zE {x e b}(h:iA C (.forIn x e b) ρ Q H):D9 C e ρ (fun v H₁=>match iterV v with
   | some it=>∃ n,Y0 (C4 C b) x it n 0 ρ Q H₁
   | Option.none=>False) H:=h
theorem Au9 {x e b}(h:iA C (.forR x e b) ρ Q H):D9 C e ρ (fun v H₁=>match rangeV v with
   | some it=>∃ n,Y0 (C4 C b) x it n 0 ρ Q H₁
   | Option.none=>False) H:=h
theorem oU {x y e b}(h:iA C (.forEnum x y e b) ρ Q H):D9 C e ρ (fun v H₁=>match v with
   | .ref a=>∃ n,fK (C4 C b) x y (.lst a) n 0 ρ Q H₁
   | _=>False) H:=h
theorem Ck7 {e}(h:iA C (.ret e) ρ Q H):D9 C e ρ (fun v H₁=>Q (.ret v) ρ H₁) H:=h
theorem An1 (h:iA C .retNone ρ Q H):Q (.ret .none) ρ H:=h
theorem Ca4 (h:iA C .cont ρ Q H):Q .cont ρ H:=h
theorem Ca2 (h:iA C .pass ρ Q H):Q .next ρ H:=h
theorem Bp4 {a0 a1}(h:iA C (.raise a0 a1) ρ Q H):False:=h
theorem Ck8 (h:C4 C [] ρ Q H):Q .next ρ H:=h
theorem Av0 {s ss}(h:C4 C (s::ss) ρ Q H):iA C s ρ (fun fl ρ' H₁=>match fl with
   | .next=>C4 C ss ρ' Q H₁
   | fl=>Q fl ρ' H₁) H:=h
theorem Cl2 {Q:List V->Heap->Prop}(h:R7 C [] ρ Q H):Q [] H:=h
theorem Av5 {Q:List V->Heap->Prop}{e es}(h:R7 C (e::es) ρ Q H):D9 C e ρ (fun v H₁=>R7 C es ρ (fun vs H₂=>Q (v::vs) H₂) H₁) H:=h
end
end Mini
namespace L13
open PySem PySem.W PyProof.Rows
noncomputable abbrev pr:Program:=PySem.Challenge.pw_uf010012_13
noncomputable def plainS (s:Stmt):Bool:=!(Mini.V8 s fun ts zz zz=>Mini.one? ts fun t=>Mini.P7 t fun id zz=>id==Str.ofString "__name__")
noncomputable def vw:Program:={ pr with main:={ pr.main with body:=pr.main.body.filter plainS } }
theorem Ct1 {σ A1 A2 A5 B:Type}{o:Option σ}{c1:σ->A1}{c2:σ->A2}{c3 c4:σ->Bool}{c5:σ->A5}{y:σ->B}{a1:A1}{a2:A2}{a5:A5}{b:B}(hA:o.map (fun s=>(c1 s,c2 s))=some (a1,a2)) (hB:o.map c3=some true) (hT:o.map c4=some true) (hC:o.map (fun s=>(c5 s,y s))=some (a5,b)):o.map (fun s=>((c1 s,c2 s,c3 s,c4 s,c5 s),y s))=some ((a1,a2,true,true,a5),b):=by
 cases o with
 | none=>cases hB
 | some s =>
  obtain ⟨e1,e2⟩:=Prod.mk.inj (Option.some.inj hA)
  obtain ⟨e5,e6⟩:=Prod.mk.inj (Option.some.inj hC)
  have e3:c3 s=true:=Option.some.inj hB
  have e4:c4 s=true:=Option.some.inj hT
  show some ((c1 s,c2 s,c3 s,c4 s,c5 s),y s)=_
  rw [e1,e2,e3,e4,e5,e6]
theorem Cs8 (w:World):(openEnds treeTable pr w 3000).map (fun s=>(seen ((recsOf vw).map (·.name)) (ownsOf vw) [] { s with gens:=#[] },s.heap.bltView))=some (expectedOf vw,bltViewBooted):=by kernel_rfl
theorem Cs7 (w:World):(openEnds treeTable pr w 3000).map (fun s=>s.heap.keysOk (looseW vw []) ((recsOf vw).map (·.name)) ((litsOf vw).map (·.1)) ((clssOf vw (looseW vw [])).map (·.name))&&s.heap.accountedOkI (importedModules pr.main.body)&&s.heap.isNs mainGlobals&&s.heap.isNs builtinsNs&&tablesOk vw s.heap&&(xlAt vw [] s&&recOk [] s)&&(if true then s.gens.size==0 else !leftWithCleanup s.gens))=some true:=by kernel_rfl
theorem Cs5 (w:World):(openEnds treeTable pr w 3000).map (fun s=>tabsOk vw s)=some true:=by kernel_rfl
theorem Cs6 (w:World):(openEnds treeTable pr w 3000).map (fun s=>((pinSeenD vw (drecsOf vw) s,plainSeenE vw (looseW vw []) s,plainSeenD vw [] s,wideSeen vw s,clsSeenW vw [] s),Hook.obs Hook.none s))=some ((pinGoodD (drecsOf vw),plainGoodE vw (looseW vw []),plainGoodD vw [],wideGood vw,clsGoodW vw []),Hook.val Hook.none w):=by kernel_rfl
theorem left:LeftO pr vw [] (fun s=>xlAt vw [] s&&recOk [] s) (Hook.obs Hook.none) (Hook.val Hook.none) 3000:=fun w=>Ct1 (Cs8 w) (Cs7 w) (Cs5 w) (Cs6 w)
theorem said:PySem.Challenge.rw_uf010012_13.wellSaid=true:=by decide +kernel
end L13
namespace MiniS
open PySem PySem.Calls PyProof.Rows
open Mini (V)
noncomputable def bP:List Int->List Value->Prop
 | [],[]=>True
 | i::l,x::r=>(∃ t,x=.int i t)/\bP l r
 | _,_=>False
mutual
noncomputable def E7 (h₀:Heap) (φ:List Addr) (h:Heap):V->Value->Prop
 | .none,x=>x=.none
 | .bool b,x=>x=.bool b
 | .int i,x=>∃ t,x=.int i t
 | .str l,x=>l.length<=Mini.I8/\∃ t,x=.str ⟨l.toArray⟩ t
 | .ref i,x=>∃ a,φ[i]? = some a/\x=.ref a
 | .tup l,x=>l.length<=Mini.I8/\∃ a vs,x=.ref a/\IsTup h a vs.toArray/\C5 h₀ φ h l vs
 | .frz ns,x=>ns.length<=Mini.I8/\∃ a vs,x=.ref a/\h₀.IsList a vs.toArray/\bP ns vs
noncomputable def C5 (h₀:Heap) (φ:List Addr) (h:Heap):List V->List Value->Prop
 | [],[]=>True
 | v::l,x::r=>E7 h₀ φ h v x/\C5 h₀ φ h l r
 | _,_=>False
end
theorem C5.length {h₀ φ h}:∀ {l:List V}{vs:List Value},C5 h₀ φ h l vs->l.length=vs.length
 | [],[],_=>rfl
 | _::_,_::_,H=>by
  simp [C5.length H.2]
 | [],_::_,H=>False.elim H
 | _::_,[],H=>False.elim H
theorem C5.get {h₀ φ h}:∀ {l:List V}{vs:List Value},C5 h₀ φ h l vs->∀ {k:Nat}{v:V},l[k]? = some v->∃ x,vs[k]? = some x/\E7 h₀ φ h v x
 | [],_,_,_,_,e=>by simp at e
 | _::_,[],H,_,_,_=>False.elim H
 | v::l,x::r,H,0,_,e=>by
  simp at e;subst e
  exact ⟨x,by simp,H.1⟩
 | v::l,x::r,H,k+1,_,e=>by
  simp at e
  obtain ⟨y,hy,hr⟩:=C5.get H.2 e
  exact ⟨y,by simpa using hy,hr⟩
theorem C5.append {h₀ φ h}:∀ {l:List V}{vs:List Value}{l':List V}{vs':List Value},C5 h₀ φ h l vs->C5 h₀ φ h l' vs'->C5 h₀ φ h (l++l') (vs++vs')
 | [],[],_,_,_,H'=>H'
 | _::_,_::_,_,_,H,H'=>by
  simp only [List.cons_append]
  exact ⟨H.1,C5.append H.2 H'⟩
 | [],_::_,_,_,H,_=>False.elim H
 | _::_,[],_,_,H,_=>False.elim H
theorem C5.one {h₀ φ h}{v:V}{x:Value}(H:E7 h₀ φ h v x):C5 h₀ φ h [v] [x]:=by
 exact ⟨H,by trivial⟩
theorem C5.nil {h₀ φ h}:C5 h₀ φ h [] []:=by trivial
theorem C5.cons {h₀ φ h}{v:V}{x:Value}{l:List V}{vs:List Value}(H:E7 h₀ φ h v x) (H':C5 h₀ φ h l vs):C5 h₀ φ h (v::l) (x::vs):=by
 exact ⟨H,H'⟩
theorem C5.uncons {h₀ φ h}{v:V}{l:List V}{vs:List Value}(H:C5 h₀ φ h (v::l) vs):∃ x r,vs=x::r/\E7 h₀ φ h v x/\C5 h₀ φ h l r:=by
 cases vs with
 | nil=>exact False.elim H
 | cons x r=>exact ⟨x,r,rfl,H.1,H.2⟩
theorem C5.unnil {h₀ φ h}{vs:List Value}(H:C5 h₀ φ h [] vs):vs=[]:=by
 cases vs with
 | nil=>rfl
 | cons x r=>exact False.elim H
noncomputable def N2 (o:Obj):Prop:=o.cls=.type "tuple" /\ ∃ items n,o.data=.seq items n
mutual
theorem E7.mono {h₀:Heap}{φ φ':List Addr}{h h':Heap} (hφ:∀ (i:Nat) (a:Addr),φ[i]? = some a->φ'[i]? = some a)
  (hk:∀ a o,N2 o->h.get? a=some o->h'.get? a=some o):∀ (v:V) {x:Value},E7 h₀ φ h v x->E7 h₀ φ' h' v x
 | .none,_,H=>H
 | .bool _,_,H=>H
 | .int _,_,H=>H
 | .str _,_,H=>H
 | .ref i,_,H=>by
  obtain ⟨a,e,r⟩:=H
  exact ⟨a,hφ i a e,r⟩
 | .tup l,_,H=>by
  obtain ⟨hl,a,vs,e,⟨o,ho,hc,n,hd⟩,r⟩:=H
  exact ⟨hl,a,vs,e,⟨o,hk a o ⟨hc,_,_,hd⟩ ho,hc,n,hd⟩,C5.mono hφ hk l r⟩
 | .frz _,_,H=>H
theorem C5.mono {h₀:Heap}{φ φ':List Addr}{h h':Heap} (hφ:∀ (i:Nat) (a:Addr),φ[i]? = some a->φ'[i]? = some a)
  (hk:∀ a o,N2 o->h.get? a=some o->h'.get? a=some o):∀ (l:List V) {vs:List Value},C5 h₀ φ h l vs->C5 h₀ φ' h' l vs
 | [],[],_=>by trivial
 | v::l,x::r,H=>by
  exact ⟨E7.mono hφ hk v H.1,C5.mono hφ hk l H.2⟩
 | [],_::_,H=>False.elim H
 | _::_,[],H=>False.elim H
end
structure Ok (h₀:Heap) (φ:List Addr) (H:Mini.Heap) (h:Heap):Prop where
 base:∀ b o,h₀.get? b=some o->h.get? b=some o
 len:φ.length=H.length
 nodup:φ.Nodup
 above:∀ a∈φ,h₀.objs.size<=a
 small:∀ l∈H,l.length<=Mini.I8
 room:h₀.objs.size<=h.objs.size
 lists:∀ (i:Nat) (a:Addr) (l:List V),φ[i]? = some a->H[i]? = some l->∃ vs,h.PlainList a vs.toArray/\C5 h₀ φ h l vs
theorem Ok.mem {h₀ φ H h}(K:Ok h₀ φ H h) {a:Addr}(ha:a∈φ):∃ vs n,h.get? a=some { cls:=.type "list",data:=.seq vs n }:=by
 obtain ⟨i,hi⟩:=List.getElem?_of_mem ha
 have hl:i<H.length:=by
  rw [<- K.len]
  exact (List.getElem?_eq_some_iff.mp hi).1
 obtain ⟨vs,⟨n,e⟩,_⟩:=K.lists i a _ hi (List.getElem?_eq_getElem hl)
 exact ⟨_,n,e⟩
theorem Ok.lt {h₀ φ H h}(K:Ok h₀ φ H h) {a:Addr}(ha:a∈φ):a<h.objs.size:=by
 obtain ⟨_,_,e⟩:=K.mem ha
 exact Heap.lt_size e
structure Cw3 (φ:List Addr) (s s':Shared):Prop where
 same:∃ h' tk,s'={ s with heap:=h',toks:=tk }
 keep:∀ b o,b ∉ φ->s.heap.get? b=some o->s'.heap.get? b=some o
 size:s.heap.objs.size<=s'.heap.objs.size
 toks:s.toks<=s'.toks
structure I7 (h₀:Heap) (φ:List Addr) (s:Shared) (φ':List Addr) (H':Mini.Heap) (s':Shared):Prop where
 step:Cw3 φ s s'
 grow:∃ ψ,φ'=φ++ψ/\∀ a∈ψ,s.heap.objs.size<=a
 ok:Ok h₀ φ' H' s'.heap
theorem I7.refl {h₀ φ s H}(K:Ok h₀ φ H s.heap):I7 h₀ φ s φ H s :=
 ⟨⟨⟨s.heap,s.toks,rfl⟩,fun zz zz zz e=>e,A4 _,A4 _⟩,⟨[],by simp,by simp⟩,K⟩
theorem I7.trans {h₀ φ s φ₁ H₁ s₁ φ₂ H₂ s₂}(a:I7 h₀ φ s φ₁ H₁ s₁) (b:I7 h₀ φ₁ s₁ φ₂ H₂ s₂):I7 h₀ φ s φ₂ H₂ s₂:=by
 obtain ⟨⟨⟨h1,t1,e1⟩,k1,z1,w1⟩,⟨ψ1,g1,m1⟩,o1⟩:=a
 obtain ⟨⟨⟨h2,t2,e2⟩,k2,z2,w2⟩,⟨ψ2,g2,m2⟩,o2⟩:=b
 refine ⟨⟨⟨h2,t2,by rw [e2,e1]⟩,fun b o hb e=>?_,A3 z1 z2,A3 w1 w2⟩,⟨ψ1++ψ2,by rw [g2,g1,A7],fun a ha=>?_⟩,o2⟩
 ·refine k2 b o ?_ (k1 b o hb e)
  rw [g1,List.mem_append,not_or]
  exact ⟨hb,fun hm=>absurd (Heap.lt_size e) (Nat.not_lt.mpr (m1 b hm))⟩
 ·rcases List.mem_append.mp ha with q | q
  ·exact m1 a q
  ·exact A3 z1 (m2 a q)
theorem I7.idx {h₀ φ s φ' H' s'}(F:I7 h₀ φ s φ' H' s'):∀ (i:Nat) (a:Addr),φ[i]? = some a->φ'[i]? = some a:=by
 obtain ⟨_,⟨ψ,e,_⟩,_⟩:=F
 intro i a hi
 rw [e,List.getElem?_append_left (List.getElem?_eq_some_iff.mp hi).1];exact hi
theorem I7.tups {h₀ φ s φ' H H' s'}(K:Ok h₀ φ H s.heap) (F:I7 h₀ φ s φ' H' s'):∀ a o,N2 o->s.heap.get? a=some o->s'.heap.get? a=some o:=by
 intro a o hc ho
 refine F.step.keep a o (fun hm=>?_) ho
 obtain ⟨vs,n,e⟩:=K.mem hm
 rw [e] at ho;cases ho
 simp [N2] at hc
theorem I7.val {h₀ φ s φ' H H' s'}(K:Ok h₀ φ H s.heap) (F:I7 h₀ φ s φ' H' s') {v:V}{x:Value}(r:E7 h₀ φ s.heap v x):E7 h₀ φ' s'.heap v x :=
 E7.mono F.idx (F.tups K) v r
theorem I7.vals {h₀ φ s φ' H H' s'}(K:Ok h₀ φ H s.heap) (F:I7 h₀ φ s φ' H' s') {v:List V}{x:List Value}(r:C5 h₀ φ s.heap v x):C5 h₀ φ' s'.heap v x :=
 C5.mono F.idx (F.tups K) v r
theorem Ok.ext {h₀ φ H h h'}(K:Ok h₀ φ H h) (hk:∀ b o,h.get? b=some o->h'.get? b=some o) (hz:h.objs.size<=h'.objs.size):Ok h₀ φ H h' :=
 ⟨fun b o e=>hk b o (K.base b o e),K.len,K.nodup,K.above,K.small,A3 K.room hz,fun i a l hi hl=>by
  obtain ⟨vs,⟨n,e⟩,r⟩:=K.lists i a l hi hl
  exact ⟨vs,⟨n,hk _ _ e⟩,C5.mono (fun zz zz q=>q) (fun a o zz q=>hk a o q) l r⟩⟩
theorem I7.ext {h₀ φ s H h'}{tk:Nat}(K:Ok h₀ φ H s.heap) (hk:∀ b o,s.heap.get? b=some o->h'.get? b=some o) (hz:s.heap.objs.size<=h'.objs.size) (ht:s.toks<=tk) :
  I7 h₀ φ s φ H { s with heap:=h',toks:=tk } :=
 ⟨⟨⟨h',tk,rfl⟩,fun b o zz e=>hk b o e,hz,ht⟩,⟨[],by simp,by simp⟩,K.ext hk hz⟩
theorem I7.tok {h₀ φ s H}{tk:Nat}(K:Ok h₀ φ H s.heap) (ht:s.toks<=tk:=by first | exact A4 _ | exact B8 _ | lia):I7 h₀ φ s φ H { s with toks:=tk } :=
 I7.ext (h':=s.heap) K (fun zz zz e=>e) (A4 _) ht
theorem I7.push {h₀ φ s H}{ob:Obj}{tk:Nat}(K:Ok h₀ φ H s.heap) (ht:s.toks<=tk:=by first | exact A4 _ | exact B8 _ | lia):I7 h₀ φ s φ H { s with heap:=s.heap.push ob,toks:=tk } :=
 I7.ext K (fun zz zz e=>Heap.get?_push_of_some _ e) (by rw [Heap.size_push];exact B8 _) ht
theorem I7.allocG {h₀ φ s H}{l:List V}{vs:List Value}{a:Addr}{h':Heap}{tk:Nat}(K:Ok h₀ φ H s.heap) (r:C5 h₀ φ s.heap l vs) (hl:l.length<=Mini.I8)
  (ha:s.heap.objs.size<=a) (hk:∀ b o,s.heap.get? b=some o->h'.get? b=some o) (hp:h'.PlainList a vs.toArray) (ht:s.toks<=tk:=by first | exact A4 _ | exact B8 _ | lia) :
  I7 h₀ φ s (φ++[a]) (H++[l]) { s with heap:=h',toks:=tk }:=by
 have hi:∀ (i:Nat) (b:Addr),φ[i]? = some b->(φ++[a])[i]? = some b:=fun i b e=>by
  rw [List.getElem?_append_left (List.getElem?_eq_some_iff.mp e).1];exact e
 have hz:s.heap.objs.size<=h'.objs.size:=by
  obtain ⟨n,e⟩:=hp
  exact A3 ha (B5 (Heap.lt_size e))
 refine ⟨⟨⟨_,_,rfl⟩,fun b o zz e=>hk b o e,hz,ht⟩,⟨[a],rfl,by simpa using ha⟩,?_⟩
 refine ⟨fun b o e=>hk b o (K.base b o e),by simp [K.len],?_,?_,?_,A3 K.room hz,?_⟩
 ·rw [List.nodup_append]
  refine ⟨K.nodup,by simp,fun b hb c hc=>?_⟩
  simp at hc;subst hc
  exact Nat.ne_of_lt (A8 (K.lt hb) ha)
 ·intro b hb
  rcases List.mem_append.mp hb with q | q
  ·exact K.above b q
  ·simp at q;subst q;exact A3 K.room ha
 ·intro l' hl'
  rcases List.mem_append.mp hl' with q | q
  ·exact K.small l' q
  ·simp at q;subst q;exact hl
 ·intro i b l' e el
  by_cases hlt:i<φ.length
  ·rw [List.getElem?_append_left hlt] at e
   rw [List.getElem?_append_left (by rw [<- K.len];exact hlt)] at el
   obtain ⟨vs',⟨n',p⟩,r'⟩:=K.lists i b l' e el
   exact ⟨vs',⟨n',hk _ _ p⟩,C5.mono hi (fun a o zz q=>hk a o q) l' r'⟩
  ·have hle:φ.length<=i:=Nat.le_of_not_lt hlt
   rw [List.getElem?_append_right hle] at e
   rw [List.getElem?_append_right (by rw [<- K.len];exact hle)] at el
   have:i - φ.length=0:=by
    cases h:i - φ.length with
    | zero=>rfl
    | succ k=>rw [h] at e;simp at e
   rw [this] at e
   rw [<- K.len,this] at el
   simp at e el
   subst e;subst el
   exact ⟨vs,hp,C5.mono hi (fun a o zz q=>hk a o q) _ r⟩
theorem I7.alloc {h₀ φ s H}{l:List V}{vs:List Value}{n tk:Nat}(K:Ok h₀ φ H s.heap) (r:C5 h₀ φ s.heap l vs) (hl:l.length<=Mini.I8) (ht:s.toks<=tk:=by first | exact A4 _ | exact B8 _ | lia) :
  I7 h₀ φ s (φ++[s.heap.objs.size]) (H++[l]) { s with heap:=s.heap.push { cls:=.type "list",data:=.seq vs.toArray n },toks:=tk } :=
 I7.allocG K r hl (A4 _) (fun zz zz e=>Heap.get?_push_of_some _ e) ⟨n,Heap.get?_push_size _ rfl⟩ ht
theorem I7.change {h₀ φ s H}{i:Nat}{a:Addr}{l':List V}{vs':List Value}{h':Heap}{tk:Nat}(K:Ok h₀ φ H s.heap) (hi:φ[i]? = some a)
  (hsame:Heap.SameBut a s.heap h') (hp:h'.PlainList a vs'.toArray) (r:C5 h₀ φ s.heap l' vs') (hl:l'.length<=Mini.I8) (ht:s.toks<=tk:=by first | exact A4 _ | exact B8 _ | lia) :
  I7 h₀ φ s φ (H.set i l') { s with heap:=h',toks:=tk }:=by
 have ham:a∈φ:=B9 hi
 obtain ⟨vs₀,n₀,e₀⟩:=K.mem ham
 have keep:∀ b o,b≠a->s.heap.get? b=some o->h'.get? b=some o:=fun b o hb e=>(hsame.2 b hb).trans e
 have tups:∀ b o,N2 o->s.heap.get? b=some o->h'.get? b=some o:=fun b o hc e=>keep b o (by
  rintro rfl
  rw [e₀] at e;cases e;simp [N2] at hc) e
 refine ⟨⟨⟨_,_,rfl⟩,fun b o hb e=>keep b o (fun q=>hb (q▸ham)) e,Nat.le_of_eq hsame.1.symm,ht⟩,⟨[],by simp,by simp⟩,?_⟩
 refine ⟨fun b o e=>keep b o (fun q=>?_) (K.base b o e),by simp [K.len],K.nodup,K.above,?_,A3 K.room (Nat.le_of_eq hsame.1.symm),?_⟩
 ·subst q
  exact absurd (Heap.lt_size e) (Nat.not_lt.mpr (K.above _ ham))
 ·intro l hm
  rcases List.mem_or_eq_of_mem_set hm with q | q
  ·exact K.small l q
  ·subst q;exact hl
 ·intro j b l e el
  by_cases hij:j=i
  ·subst hij
   rw [hi] at e;cases e
   have hjl:j<H.length:=by
    rw [<- K.len];exact (List.getElem?_eq_some_iff.mp hi).1
   rw [List.getElem?_set_self hjl] at el
   cases el
   exact ⟨vs',hp,C5.mono (fun zz zz q=>q) tups _ r⟩
  ·rw [List.getElem?_set_ne (Ne.symm hij)] at el
   obtain ⟨vs,⟨n,p⟩,r'⟩:=K.lists j b l e el
   have hb:b≠a:=by
    rintro rfl
    exact hij ((List.getElem?_inj (List.getElem?_eq_some_iff.mp e).1 K.nodup).mp (e.trans hi.symm))
   exact ⟨vs,⟨n,keep b _ hb p⟩,C5.mono (fun zz zz q=>q) tups _ r'⟩
end MiniS
namespace MiniS
open PySem PySem.Calls PyProof.Rows
open Mini (V)
noncomputable def mZ (h₀:Heap) (φ:List Addr) (h:Heap):Option V->Option Value->Prop
 | some v,o=>∃ x,o=some x/\E7 h₀ φ h v x
 | none,_=>True
structure Cx where
 prog:Program
 w:World
 h₀:Heap
 gl:Mini.Gl
 P:Mini.Prg
 mg:Str->Option Value
 mb:Str->Option Value
noncomputable def iD (ls:List Nat) (i tk:Nat) (o:Option Value):Prop:=i∈ls->∀ x,o=some x->∃ l t,x=.str l t/\0<t/\t<tk
theorem iD.mono {ls:List Nat}{i tk tk':Nat}{o:Option Value}(h:iD ls i tk o) (ht:tk<=tk'):iD ls i tk' o:=fun hi x hx =>
 let ⟨l,t,e,h1,h2⟩:=h hi x hx;⟨l,t,e,h1,A8 h2 ht⟩
structure H9 (X:Cx) (φ:List Addr) (nm:List Str) (env:Env) (ρ:Mini.D7) (s:Shared):Prop where
 kind:env.scope.kind=.function
 glob:env.globals=mainGlobals
 blt:env.builtins=builtinsNs
 len:ρ.length=nm.length
 nodup:nm.Nodup
 pos:X.gl.pos=true->0<s.toks
 locals:∃ m,s.heap.Ns env.locals m/\∀ (i:Nat) (x:Str),nm[i]? = some x->env.kindOf x=some .local->mZ X.h₀ φ s.heap ((ρ[i]?).getD none) (m x)/\iD X.gl.lits i s.toks (m x)
 cells:∀ (i:Nat) (x:Str),nm[i]? = some x->(env.kindOf x=some .cell∨env.kindOf x=some .free) ->
  ∃ c ov,env.cells.lookup x=some c/\s.heap.IsCell c ov/\mZ X.h₀ φ s.heap ((ρ[i]?).getD none) ov/\iD X.gl.lits i s.toks ov
 above:X.h₀.objs.size<=env.locals
 aboveC:∀ x c,env.cells.lookup x=some c->X.h₀.objs.size<=c
 cellAll:∀ x c,env.cells.lookup x=some c->∃ ov,s.heap.IsCell c ov
 apart:∀ x y c,env.cells.lookup x=some c->env.cells.lookup y=some c->x=y
theorem mZ.mono {h₀ φ φ' h h'}{v:Option V}{o:Option Value}(r:mZ h₀ φ h v o) (hr:∀ v x,E7 h₀ φ h v x->E7 h₀ φ' h' v x):mZ h₀ φ' h' v o:=by
 cases v with
 | none=>trivial
 | some v=>obtain ⟨x,e,q⟩:=r;exact ⟨x,e,hr _ _ q⟩
theorem H9.fwd {X φ nm env ρ s φ' H H' s'}(L:H9 X φ nm env ρ s) (K:Ok X.h₀ φ H s.heap) (F:I7 X.h₀ φ s φ' H' s'):H9 X φ' nm env ρ s':=by
 have hr:∀ v x,E7 X.h₀ φ s.heap v x->E7 X.h₀ φ' s'.heap v x:=fun v x r=>F.val K r
 refine ⟨L.kind,L.glob,L.blt,L.len,L.nodup,fun hp=>A8 (L.pos hp) F.step.toks,?_,?_,L.above,L.aboveC,?_,L.apart⟩
 ·obtain ⟨m,⟨o,es,ep,ho,hd,q⟩,hm⟩:=L.locals
  have hn:env.locals ∉ φ:=fun hm=>by
   obtain ⟨vs,n,e⟩:=K.mem hm
   rw [e] at ho;cases ho;simp at hd
  exact ⟨m,⟨o,es,ep,F.step.keep _ _ hn ho,hd,q⟩,fun i x hx hk=>⟨(hm i x hx hk).1.mono hr,(hm i x hx hk).2.mono F.step.toks⟩⟩
 ·intro i x hx hk
  obtain ⟨c,ov,hc,⟨o,ho,hd⟩,r,lr⟩:=L.cells i x hx hk
  have hn:c ∉ φ:=fun hm=>by
   obtain ⟨vs,n,e⟩:=K.mem hm
   rw [e] at ho;cases ho;simp at hd
  exact ⟨c,ov,hc,⟨o,F.step.keep _ _ hn ho,hd⟩,r.mono hr,lr.mono F.step.toks⟩
 ·intro x c hc
  obtain ⟨ov,o,ho,hd⟩:=L.cellAll x c hc
  have hn:c ∉ φ:=fun hm=>by
   obtain ⟨vs,n,e⟩:=K.mem hm
   rw [e] at ho;cases ho;simp at hd
  exact ⟨ov,o,F.step.keep _ _ hn ho,hd⟩
noncomputable def bN:List String:=["len", "isinstance", "ord", "sorted"]
noncomputable def bM:List String:=["str", "int", "bool", "list", "tuple", "range", "enumerate"]
structure iB (X:Cx):Prop where
 g:X.h₀.Ns mainGlobals X.mg
 b:X.h₀.Ns builtinsNs X.mb
 nolimit:X.h₀.NoLimit
 globs:∀ g i,(g,i)∈X.gl.intL->∃ t,X.mg (Str.ofString g)=some (.int i t)
 fns:∀ f ls,X.gl.fns.lookup f=some ls->∃ fn fa o params body scope pm cd doc,X.P f=some fn/\fn.lits=ls/\X.mg (Str.ofString f)=some (.ref fa)/\X.h₀.get? fa=some o /\
  o.data=.func (docDef (Str.ofString f) params body scope pm cd doc)/\X.h₀.CodeRec cd (Str.ofString f)/\Mini.As9 X.gl fn params body scope=true
 bf:∀ n∈bN,X.mg (Str.ofString n)=none/\X.mb (Str.ofString n)=some (.builtin n)
 bt:∀ n∈bM,X.mg (Str.ofString n)=none/\X.mb (Str.ofString n)=some (.type n)
abbrev M7 (X:Cx):Model:=model X.prog X.w
noncomputable def U0 (X:Cx) (Q:V->Mini.Heap->Prop) (φ:List Addr) (s:Shared) (K:Value->Shared->Prop):Prop :=
 ∀ v H' φ' x s',Q v H'->I7 X.h₀ φ s φ' H' s'->E7 X.h₀ φ' s'.heap v x->K x s'
noncomputable def E1 (X:Cx) (A:Around) (C:Mini.Calls) (e:Mini.E):Prop :=
 ∀ (re:Expr) (env:Env) (nm:List Str) (ρ:Mini.D7) (Q:V->Mini.Heap->Prop) (H:Mini.Heap) (φ:List Addr) (s:Shared) (K EX:Value->Shared->Prop),
  Mini.D0 X.gl env.scope.names nm e re=true->H9 X φ nm env ρ s->Ok X.h₀ φ H s.heap->Mini.D9 C e ρ Q H->U0 X Q φ s K ->
  wpAny (M7 X) A (eval re env) K EX s
section
variable {X:Cx}{A:Around}{C:Mini.Calls}
theorem Bm4:E1 X A C .none:=by
 intro re env nm ρ Q H φ s K EX hc L O h k
 refine Mini.Bq3 hc fun k9 p e9=>?_
 clear hc;subst e9
 ·exact wpAny_pure (k _ _ _ _ _ h (I7.refl O) (by rfl))
theorem Bn9 {b:Bool}:E1 X A C (.bool b):=by
 intro re env nm ρ Q H φ s K EX hc L O h k
 refine Mini.Br1 hc fun k9 p e9=>?_
 clear hc;subst e9
 ·exact wpAny_pure (k _ _ _ _ _ h (I7.refl O) (by rfl))
theorem By8 {i:Int}:E1 X A C (.int i):=by
 intro re env nm ρ Q H φ s K EX hc L O h k
 refine Mini.Cb6 hc fun k9 p e9=>?_
 clear hc;subst e9
 ·exact wpAny_Constant_int (k _ _ _ _ _ h (I7.tok O) (by exact ⟨_,rfl⟩))
theorem Bx7 {l:List Nat}:E1 X A C (.str l):=by
 intro re env nm ρ Q H φ s K EX hc L O h k
 refine Mini.vH hc fun x k9 p e9 hx9 hl=>?_
 clear hc;subst e9
 ·subst hx9
  exact Constant_str (k _ _ _ _ _ h (I7.tok O) (by exact ⟨hl,s.toks,by simp⟩))
theorem yR {env:Env}{nm:List Str}{ρ:Mini.D7}{φ:List Addr}{s:Shared}{K EX:Value->Shared->Prop}{id:Str}{x:Nat}{v:V}
  (L:H9 X φ nm env ρ s) (hx:nm[x]? = some id) (hl:Mini.R2 env.scope.names id=true) (hv:ρ[x]? = some (some v))
  (k:∀ y,E7 X.h₀ φ s.heap v y->iD X.gl.lits x s.toks (some y)->K y s) (hcl:(id==("__classdict__" : Str))=false):wpAny (M7 X) A (loadName env id) K EX s:=by
 have hkind:env.kindOf id=env.scope.names.lookup id:=rfl
 unfold Mini.R2 at hl
 split at hl
 ·rename_i e
  obtain ⟨m,hns,hm⟩:=L.locals
  have r:=hm x id hx (hkind.trans e)
  rw [hv] at r
  obtain ⟨⟨y,ey,q⟩,lr⟩:=r
  exact wpAny_loadName_local L.kind (hkind.trans e) hns ey (k y q (ey▸lr))
 ·rename_i e
  obtain ⟨c,ov,hc,hcell,r,lr⟩:=L.cells x id hx (Or.inl (hkind.trans e))
  rw [hv] at r
  obtain ⟨y,ey,q⟩:=r
  subst ey
  exact wpAny_loadName_cell L.kind (hkind.trans e) hc hcell (k y q lr)
 ·rename_i e
  obtain ⟨c,ov,hc,hcell,r,lr⟩:=L.cells x id hx (Or.inr (hkind.trans e))
  rw [hv] at r
  obtain ⟨y,ey,q⟩:=r
  subst ey
  exact wpAny_loadName_free L.kind (hkind.trans e) hc hcell (k y q lr) hcl
 ·cases hl
theorem free {α:Type}{M:Model}{A:Around}{t:Sem α}{K:α->Shared->Prop}{EX:Value->Shared->Prop}{s:Shared}
  (h:wpAny M A t (fun x s'=>s.toks<=s'.toks->K x s') EX s):wpAny M A t K EX s :=
 wpAny_mono (wpAny_toks_of (A4 s.toks) h) (fun zz zz q=>q.2 q.1) fun zz zz q=>q.2
end
end MiniS
namespace MiniS
open PySem PySem.Calls PyProof.Rows
open Mini (V)
section
variable {X:Cx}{A:Around}{C:Mini.Calls}
theorem U0.after {Q:V->Mini.Heap->Prop}{φ:List Addr}{s:Shared}{K:Value->Shared->Prop}{φ₁:List Addr}{H₁:Mini.Heap}{s₁:Shared}
  (k:U0 X Q φ s K) (F:I7 X.h₀ φ s φ₁ H₁ s₁):U0 X Q φ₁ s₁ K :=
 fun v H' φ' x s' q F' r=>k v H' φ' x s' q (F.trans F') r
set_option tactic.hygienic true in
theorem Bx5 {x:Nat}:E1 X A C (.var x):=by
 intro re env nm ρ Q H φ s K EX hc L O h k
 refine Mini.Av8 hc fun id p e9 hc9=>?_
 clear hc;subst e9
 ·simp only [Bool.and_eq_true,beq_iff_eq] at hc9
  obtain ⟨⟨h1,h2⟩,h3⟩:=hc9
  simp only [Mini.R9,Bool.and_eq_true,Bool.not_eq_true'] at h3
  replace h:=Mini.Aj1 h
  split at h
  ·rename_i v hv
   exact wpAny_Name (yR L h1 h2 hv (fun y r zz=>k _ _ _ _ _ h (I7.refl O) r) h3.2) h3.1
  ·exact h.elim
theorem rW (G:iB X) {env:Env}{nm:List Str}{ρ:Mini.D7}{φ:List Addr}{H:Mini.Heap}{s:Shared}{K EX:Value->Shared->Prop}{id:Str}{v:Value}{p:Pos}
  (L:H9 X φ nm env ρ s) (O:Ok X.h₀ φ H s.heap) (hg:Mini.V6 env.scope.names id=true) (hd:(id==("__debug__" : Str))=false) (hv:X.mg id=some v) (k:K v s) :
  wpAny (M7 X) A (eval (.Name id p) env) K EX s:=by
 have hkind:env.kindOf id=some .globalImplicit:=by
  show env.scope.names.lookup id=_
  unfold Mini.V6 at hg
  split at hg
  ·assumption
  ·cases hg
 exact Name_function_global L.kind hkind (loadGlobal_global (by rw [L.glob];exact G.g.keeps O.base) hv k) hd
theorem yS (G:iB X) {env:Env}{nm:List Str}{ρ:Mini.D7}{φ:List Addr}{H:Mini.Heap}{s:Shared}{K EX:Value->Shared->Prop}{id:Str}{v:Value}{p:Pos}
  (L:H9 X φ nm env ρ s) (O:Ok X.h₀ φ H s.heap) (hg:Mini.V6 env.scope.names id=true) (hd:(id==("__debug__" : Str))=false) (hn:X.mg id=none) (hv:X.mb id=some v) (k:K v s) :
  wpAny (M7 X) A (eval (.Name id p) env) K EX s:=by
 have hkind:env.kindOf id=some .globalImplicit:=by
  show env.scope.names.lookup id=_
  unfold Mini.V6 at hg
  split at hg
  ·assumption
  ·cases hg
 exact Name_function_global L.kind hkind (loadGlobal_builtin (by rw [L.glob];exact G.g.keeps O.base) hn (by rw [L.blt];exact G.b.keeps O.base) hv k) hd
theorem Bn0 (G:iB X) {g:String}{i:Int}:E1 X A C (.glob g i):=by
 intro re env nm ρ Q H φ s K EX hc L O h k
 refine Mini.Bq5 hc fun id p e9 hc9=>?_
 clear hc;subst e9
 ·simp only [Bool.and_eq_true,beq_iff_eq] at hc9
  obtain ⟨⟨⟨h1,h2⟩,h3⟩,h4⟩:=hc9
  subst h1
  simp only [Mini.R9,Bool.and_eq_true,Bool.not_eq_true'] at h4
  obtain ⟨t,ht⟩:=G.globs g i (by simpa using h2)
  replace h:=Mini.Ca6 h
  exact rW G L O h3 h4.1 ht (k _ _ _ _ _ h (I7.refl O) (by exact ⟨_,rfl⟩))
theorem F9:sizeLine=Mini.I8:=by decide +kernel
theorem dT {a:Int}(h:a.natAbs<1152921504606846976):Builtin.Int.intBits a<=64:=by
 unfold Builtin.Int.intBits
 split
 ·exact Mini.fkz
 ·rename_i h0
  have h0:a.natAbs≠0:=by simpa using h0
  have:a.natAbs.log2<60:=(Nat.log2_lt h0).mpr (by simpa using h)
  exact Mini.M4 this
theorem E3 {h₀ φ h}{i:Int}{x:Value}(r:E7 h₀ φ h (.int i) x):∃ t,x=.int i t:=by exact r
theorem H5 {h₀ φ h}{l:List Nat}{x:Value}(r:E7 h₀ φ h (.str l) x):∃ t,x=.str ⟨l.toArray⟩ t:=by exact r.2
theorem len_str {h₀ φ h}{l:List Nat}{x:Value}(r:E7 h₀ φ h (.str l) x):l.length<=Mini.I8:=by exact r.1
theorem Au0 {h₀ φ h}{l:List V}{x:Value}(r:E7 h₀ φ h (.tup l) x):l.length<=Mini.I8:=by exact r.1
theorem bU {h₀ φ h}{l:List Int}{x:Value}(r:E7 h₀ φ h (.frz l) x):l.length<=Mini.I8/\∃ a vs,x=.ref a/\h₀.IsList a vs.toArray/\bP l vs:=by exact r
theorem K1 {h₀ φ h}{i:Nat}{x:Value}(r:E7 h₀ φ h (.ref i) x):∃ a,φ[i]? = some a/\x=.ref a:=by exact r
theorem U5 {h₀ φ h}{b:Bool}{x:Value}(r:E7 h₀ φ h (.bool b) x):x=.bool b:=by exact r
theorem iP {h₀ φ h}{x:Value}(r:E7 h₀ φ h .none x):x=.none:=by exact r
theorem gD {h₀ φ h}{l:List V}{x:Value}(r:E7 h₀ φ h (.tup l) x):∃ a vs,x=.ref a/\IsTup h a vs.toArray/\C5 h₀ φ h l vs:=by exact r.2
theorem P6 {h₀ φ h}{i:Int}{t:Tok}:E7 h₀ φ h (.int i) (.int i t):=by exact ⟨_,rfl⟩
theorem aM {h₀ φ h}{b:Bool}:E7 h₀ φ h (.bool b) (.bool b):=by rfl
theorem aH {h₀ φ h}{l:List Nat}{t:Tok}(hl:l.length<=Mini.I8):E7 h₀ φ h (.str l) (.str ⟨l.toArray⟩ t):=by exact ⟨hl,_,rfl⟩
theorem lV {h₀ φ h}{l:List Nat}{x:Str}{t:Tok}(e:x=⟨l.toArray⟩) (hl:l.length<=Mini.I8):E7 h₀ φ h (.str l) (.str x t):=by subst e;exact aH hl
theorem eN {h₀ φ h}{i:Nat}{a:Addr}(e:φ[i]? = some a):E7 h₀ φ h (.ref i) (.ref a):=by exact ⟨_,e,rfl⟩
theorem Ba8 (l:List (List Nat)):∀ a:List Nat,(l.map List.toArray).foldl (· ++ ·) a.toArray=(a++l.flatten).toArray:=by
 induction l with
 | nil=>intro a;simp
 | cons x r ih=>intro a;simp only [List.map_cons,List.foldl_cons,List.append_toArray,ih,List.flatten_cons,A7]
theorem Bx3 (l:List Nat) (n:Int):Txt.mul ⟨l.toArray⟩ n=⟨(List.replicate n.toNat l).flatten.toArray⟩:=by
 unfold Txt.mul
 split
 ·have:n.toNat=0:=by lia
  rw [this];rfl
 ·split
  ·rename_i h1 h2
   simp only [Bool.or_eq_true,beq_iff_eq] at h2
   rcases h2 with h2 | h2
   ·subst h2;simp
   ·have:l=[]:=by simpa [Str.length] using h2
    subst this;simp
  ·have:=Ba8 (List.replicate n.toNat l) []
   simp only [List.map_replicate,List.nil_append] at this
   exact congrArg Str.mk this
theorem An0 (l:List (List Value)):∀ a:List Value,(l.map List.toArray).foldl (fun x y=>x++y) a.toArray=(a++l.flatten).toArray:=by
 induction l with
 | nil=>intro a;simp
 | cons x r ih=>intro a;simp only [List.map_cons,List.foldl_cons,List.append_toArray,ih,List.flatten_cons,A7]
theorem C5.replicate {h₀ φ h}{l:List V}{vs:List Value}(r:C5 h₀ φ h l vs):∀ n:Nat,C5 h₀ φ h (List.replicate n l).flatten (List.replicate n vs).flatten
 | 0=>by simpa using C5.nil
 | n+1=>by
  simp only [List.replicate_succ,List.flatten_cons]
  exact r.append (C5.replicate r n)
theorem I7.newRef {h₀ φ s H}{l:List V}{tk:Nat}{ob:Obj}(_:I7 h₀ φ s (φ++[s.heap.objs.size]) (H++[l]) { s with heap:=s.heap.push ob,toks:=tk }) (O:Ok h₀ φ H s.heap) :
  E7 h₀ (φ++[s.heap.objs.size]) (s.heap.push ob) (.ref H.length) (.ref s.heap.objs.size) :=
 eN (by rw [<- O.len];simp)
theorem Bo1 {a b v:V}{x y:Value}{Q:V->Mini.Heap->Prop}{H H':Mini.Heap}{φ:List Addr}{s:Shared}{K EX:Value->Shared->Prop}
  (O:Ok X.h₀ φ H s.heap) (ra:E7 X.h₀ φ s.heap a x) (rb:E7 X.h₀ φ s.heap b y) (h:Mini.Cp6 a b H=some (v,H')) (q:Q v H') (k:U0 X Q φ s K) :
  wpAny (M7 X) A (binaryOp .Add x y) K EX s:=by
 cases a with
 | int a0 =>
  replace h:=Mini.I9 h;obtain ⟨j,rfl,h⟩:=h
  cases h
  obtain ⟨t,rfl⟩:=E3 ra
  obtain ⟨u,rfl⟩:=E3 rb
  exact add_int (k _ _ _ _ _ q (I7.tok O) P6)
 | str a0 =>
  replace h:=Mini.nR h;obtain ⟨j,rfl,h⟩:=h
  obtain ⟨hc,h⟩:=Mini.X4 h
  cases h
  obtain ⟨t,rfl⟩:=H5 ra
  obtain ⟨u,rfl⟩:=H5 rb
  refine free (PyProof.Rows.add_str (fun t' tk ht=>k _ _ _ _ _ q (I7.tok O ht) (lV ?_ (by simpa using hc))) ?_)
  ·show Str.append _ _=_
   simp [Str.append]
  ·simpa [Str.length,F9] using hc
 | ref a0 =>
  replace h:=Mini.gI h;obtain ⟨j,rfl,h⟩:=h
  obtain ⟨pa,ea,rfl⟩:=K1 ra
  obtain ⟨pb,eb,rfl⟩:=K1 rb
  obtain ⟨l,hl,h⟩:=Option.bind_eq_some_iff.mp h
  obtain ⟨r,hr,h⟩:=Option.bind_eq_some_iff.mp h
  obtain ⟨hc,h⟩:=Mini.X4 h
  cases h
  obtain ⟨vs,⟨n,e⟩,q1⟩:=O.lists _ _ _ ea hl
  obtain ⟨vs',⟨n',e'⟩,q2⟩:=O.lists _ _ _ eb hr
  have F:=I7.alloc (n:=0) (tk:=s.toks) O (q1.append q2) (by simpa using hc)
  refine P.add_list (n:=n) (n2:=n') e e' ?_ ?_
  ·have:(vs.toArray++vs'.toArray)=(vs++vs').toArray:=by simp
   rw [this]
   exact k _ _ _ _ _ q F (I7.newRef F O)
  ·rw [F9];simp [<- q1.length,<- q2.length];exact hc
 | _=>exact nomatch (show Option.none=some _ from h)
theorem Bm5 {a b v:V}{x y:Value}{Q:V->Mini.Heap->Prop}{H H':Mini.Heap}{φ:List Addr}{s:Shared}{K EX:Value->Shared->Prop}
  (O:Ok X.h₀ φ H s.heap) (ra:E7 X.h₀ φ s.heap a x) (rb:E7 X.h₀ φ s.heap b y) (h:Mini.Cp5 a b H=some (v,H')) (q:Q v H') (k:U0 X Q φ s K) :
  wpAny (M7 X) A (binaryOp .Mult x y) K EX s:=by
 cases a with
 | int a0 =>
  replace h:=Mini.I9 h;obtain ⟨j,rfl,h⟩:=h
  obtain ⟨hc,h⟩:=Mini.X4 h
  cases h
  obtain ⟨t,rfl⟩:=E3 ra
  obtain ⟨u,rfl⟩:=E3 rb
  refine mul_int (k _ _ _ _ _ q (I7.tok O) P6) ?_
  rcases hc with hc | hc
  ·exact IntMulOk.of_left (dT hc)
  ·exact IntMulOk.of_right (dT hc)
 | str a =>
  replace h:=Mini.I9 h;obtain ⟨n,rfl,h⟩:=h
  obtain ⟨hc,h⟩:=Mini.X4 h
  cases h
  obtain ⟨t,rfl⟩:=H5 ra
  obtain ⟨u,rfl⟩:=E3 rb
  refine free (SB.mul ?_ (fun t' tk ht=>k _ _ _ _ _ q (I7.tok O ht) (lV (Bx3 _ _) (by simpa [Nat.mul_comm] using hc.1))))
  obtain ⟨h1,h2,h3⟩:=hc
  refine ⟨by simp;lia,fun hn zz=>?_,fun hn zz=>?_⟩
  ·have hn:1<=n:=by lia
   simp only [Str.length,List.size_toArray]
   intro hgt
   have h4:(a.length:Int) * n<=Mini.I8:=by
    have:(n.toNat:Int)=n:=by lia
    rw [<- this];exact_mod_cast h1
   have h5:(2 ^ 63 - 1:Int) / n<a.length:=hgt
   have h6:(2 ^ 63 - 1:Int)<a.length * n:=Int.lt_mul_of_ediv_lt (by lia) h5
   have:(Mini.I8:Int)=16777216:=rfl
   lia
  ·simp only [Str.length,List.size_toArray,Builtin.Str.tooLong,decide_eq_false_iff_not,Nat.not_lt]
   rw [F9];exact h1
 | ref a0 =>
  replace h:=Mini.I9 h;obtain ⟨n,rfl,h⟩:=h
  obtain ⟨pa,ea,rfl⟩:=K1 ra
  obtain ⟨u,rfl⟩:=E3 rb
  obtain ⟨l,hl,h⟩:=Option.bind_eq_some_iff.mp h
  obtain ⟨hc,h⟩:=Mini.X4 h
  cases h
  obtain ⟨h1,h2,h3⟩:=hc
  obtain ⟨vs,⟨m,e⟩,q1⟩:=O.lists _ _ _ ea hl
  have FF:=I7.alloc (n:=0) (tk:=s.toks) O (C5.replicate q1 n.toNat) (by simpa [Nat.mul_comm] using h1)
  have hz9:vs.toArray.size * n.toNat<=16777216:=by rw [List.size_toArray,<- q1.length];exact h1
  refine wpAny_binaryOp_repeat_ref (T := "list") (U := "int") (by decide) ⟨_,e,rfl⟩ (fun s'=>typeIs_int s' n u) noFill_list_mul F.fills_int_mul F.slot_int_rmul repeat_list F.slot_int_index.lookup
   (call_meets F.slot_int_rmul (typeIs_int s n u) F.entry_int_rmul (F.args_int_rmul_2 _ _) (int___rmul___int_list n u pa _ m)
    ⟨e,rfl,⟨_,e,rfl⟩,call_meets F.slot_list_mul ⟨_,e,rfl⟩ F.entry_list_mul (F.args_list_mul_2 _ _)
     (AutoListH.list___mul___list_int_3 pa _ m n u (by simp [Builtin.List.listFitsIndex];lia) (by lia) ?_)
     ⟨e,?_⟩⟩)
  ·simp only [Builtin.List.listTooLong,List.size_toArray,<- q1.length,decide_eq_true_eq,Nat.not_lt]
   rw [F9];exact h1
  ·have e9:(List.foldl (fun x1 x2=>x1++x2) #[] (List.replicate (if vs.toArray.isEmpty=true then 0 else n.toNat) vs.toArray))=(List.replicate n.toNat vs).flatten.toArray:=by
    by_cases hv:vs=[]
    ·subst hv;simp
    ·rw [if_neg (by simpa using hv)]
     have:=An0 (List.replicate n.toNat vs) []
     simp only [List.map_replicate,List.nil_append] at this
     exact this
   rw [e9]
   exact k _ _ _ _ _ q FF (I7.newRef FF O)
 | _=>exact nomatch (show Option.none=some _ from h)
theorem Bo0 {o:Mini.Op}{o':Operator}{a b:V}{x y:Value}{Q:V->Mini.Heap->Prop}{H:Mini.Heap}{φ:List Addr}{s:Shared}{K EX:Value->Shared->Prop}
  (ho:Mini.Cj1 o o'=true) (O:Ok X.h₀ φ H s.heap) (ra:E7 X.h₀ φ s.heap a x) (rb:E7 X.h₀ φ s.heap b y) (h:Mini.res (Mini.eK o a b H) Q) (k:U0 X Q φ s K) :
  wpAny (M7 X) A (binaryOp o' x y) K EX s:=by
 obtain ⟨v,H',h9,q⟩:=Mini.Cl3 h
 clear h
 have h:=h9
 clear h9
 obtain rfl:o'=_:=eq_of_beq ho
 clear ho
 cases o
 ·exact Bo1 O ra rb h q k
 ·replace h:=Mini.I9 h;obtain ⟨i,rfl,h⟩:=h
  replace h:=Mini.I9 h;obtain ⟨j,rfl,h⟩:=h
  cases h
  obtain ⟨t,rfl⟩:=E3 ra
  obtain ⟨u,rfl⟩:=E3 rb
  exact sub_int (k _ _ _ _ _ q (I7.tok O) P6)
 ·exact Bm5 O ra rb h q k
 ·replace h:=Mini.I9 h;obtain ⟨i,rfl,h⟩:=h
  replace h:=Mini.I9 h;obtain ⟨j,rfl,h⟩:=h
  obtain ⟨hc,h⟩:=Mini.X4 h
  cases h
  obtain ⟨t,rfl⟩:=E3 ra
  obtain ⟨u,rfl⟩:=E3 rb
  refine floordiv_int (by lia) ?_ (Or.inl (PyProof.noPylong_small (by lia)))
  rw [Int.fdiv_eq_ediv_of_nonneg i (by lia)]
  exact (k _ _ _ _ _ q (I7.tok O) P6)
 ·replace h:=Mini.I9 h;obtain ⟨i,rfl,h⟩:=h
  replace h:=Mini.I9 h;obtain ⟨j,rfl,h⟩:=h
  obtain ⟨hc,h⟩:=Mini.X4 h
  cases h
  obtain ⟨t,rfl⟩:=E3 ra
  obtain ⟨u,rfl⟩:=E3 rb
  refine mod_int' (by lia) ?_
  rw [Int.fmod_eq_emod_of_nonneg i (by lia)]
  exact (k _ _ _ _ _ q (I7.tok O) P6)
 ·nomatch h
end
end MiniS
namespace MiniS
open PySem PySem.Calls PyProof.Rows
open Mini (V D)
mutual
noncomputable def dK:D->PyData
 | .none=>.none
 | .bool b=>.bool b
 | .int i=>.int i
 | .str s=>.str ⟨s.toArray⟩
 | .list l=>.list (U9 l)
 | .tup l=>.tuple (U9 l)
noncomputable def U9:List D->List PyData
 | []=>[]
 | d::l=>dK d::U9 l
end
mutual
theorem gH:∀ a b:D,Mini.xI a b=PyData.eqv (dK a) (dK b)
 | .none,b=>by cases b<;>rfl
 | .bool _,b=>by cases b<;>rfl
 | .int _,b=>by cases b<;>rfl
 | .str x,b=>by
  cases b with
  | str y =>
   show (x==y)=((⟨x.toArray⟩:Str)==⟨y.toArray⟩)
   by_cases h:x=y
   ·subst h;simp
   ·have:(x==y)=false:=by simpa using h
    rw [this]
    symm
    simp [h]
  | _=>rfl
 | .list l,b=>by
  cases b with
  | list r=>exact iT l r
  | _=>rfl
 | .tup l,b=>by
  cases b with
  | tup r=>exact iT l r
  | _=>rfl
theorem iT:∀ a b:List D,Mini.Az4 a b=PyData.eqvAll (U9 a) (U9 b)
 | [],b=>by cases b<;>rfl
 | x::l,b=>by
  cases b with
  | nil=>rfl
  | cons y r=>show (Mini.xI x y&&Mini.Az4 l r)=(PyData.eqv (dK x) (dK y)&&PyData.eqvAll (U9 l) (U9 r));rw [gH x,iT l]
end
section
variable {h₀:Heap}{φ:List Addr}{H:Mini.Heap}{h:Heap}
theorem Bh4 {f:V->Option D}{v:V}{l:List V}{ds:List D}(e:Mini.xH f (v::l)=some ds):∃ d ds',ds=d::ds'/\f v=some d/\Mini.xH f l=some ds':=by
 replace e:(match f v with | some d=>(Mini.xH f l).map (d::·) | none=>none)=some ds:=e
 cases hd:f v with
 | none=>rw [hd] at e;cases e
 | some d =>
  rw [hd] at e
  obtain ⟨ds',h1,h2⟩:=Option.map_eq_some_iff.mp e
  exact ⟨d,ds',h2.symm,rfl,h1⟩
theorem cG {f:V->Option D}(hf:∀ v d x,f v=some d->E7 h₀ φ h v x->∃ as,Reads h x (dK d) as) :
  ∀ (l:List V) (ds:List D) (vs:List Value),Mini.xH f l=some ds->C5 h₀ φ h l vs->∃ as,ReadsAll h vs (U9 ds) as
 | [],ds,vs,e,r=>by
  have:=r.unnil;subst this
  cases (show some []=some ds from e)
  exact ⟨[],.nil⟩
 | v::l,ds,vs,e,r=>by
  obtain ⟨x,vs',rfl,r1,r2⟩:=r.uncons
  obtain ⟨d,ds',rfl,hd,e9⟩:=Bh4 e
  obtain ⟨as,ra⟩:=hf v d x hd r1
  obtain ⟨bs,rb⟩:=cG hf l ds' vs' e9 r2
  exact ⟨as++bs,.cons ra rb⟩
theorem Cg2 {n:Nat}{v:V}{d:D}(e:Mini.rd H (n+1) v=some d) {R:Prop}(h0:v=.none->d=.none->R) (h1:∀ b,v=.bool b->d=.bool b->R) (h2:∀ i,v=.int i->d=.int i->R) (h3:∀ s,v=.str s->s.all (fun c=>decide (c<1114112))=true->d=.str s->R)
  (h4:∀ l ds,v=.tup l->Mini.xH (Mini.rd H n) l=some ds->d=.tup ds->R) (h5:∀ a l ds,v=.ref a->H[a]? = some l->Mini.xH (Mini.rd H n) l=some ds->d=.list ds->R):R:=by
 cases v with
 | none=>exact h0 rfl (Option.some.inj e).symm
 | bool b=>exact h1 b rfl (Option.some.inj e).symm
 | int i=>exact h2 i rfl (Option.some.inj e).symm
 | str s =>
  replace e:(if s.all (fun c=>decide (c<1114112)) then some (.str s) else Option.none)=some d:=e
  obtain ⟨q1,q2⟩:=Mini.X4 e
  exact h3 s rfl q1 q2.symm
 | tup l =>
  obtain ⟨ds,q1,q2⟩:=Option.map_eq_some_iff.mp (show (Mini.xH (Mini.rd H n) l).map D.tup=some d from e)
  exact h4 l ds rfl q1 q2.symm
 | ref a =>
  replace e:(match H[a]? with | some l=>(Mini.xH (Mini.rd H n) l).map D.list | none=>none)=some d:=e
  cases hl:H[a]? with
  | none=>rw [hl] at e;cases e
  | some l =>
   rw [hl] at e
   obtain ⟨ds,q1,q2⟩:=Option.map_eq_some_iff.mp e
   exact h5 a l ds rfl hl q1 q2.symm
 | frz _=>exact nomatch (show none=some d from e)
theorem T4 (O:Ok h₀ φ H h):∀ (n:Nat) (v:V) (d:D) (x:Value),Mini.rd H n v=some d->E7 h₀ φ h v x->∃ as,Reads h x (dK d) as
 | 0,_,_,_,e,_=>nomatch (show none=some _ from e)
 | n+1,v,d,x,e,r=>by
  refine Cg2 e (fun e1 e2=>?_) (fun b e1 e2=>?_) (fun i e1 e2=>?_) (fun s e1 zz e2=>?_) (fun l ds e1 e9 e2=>?_) (fun a l ds e1 hl e9 e2=>?_)<;>(subst e1;subst e2)
  ·obtain rfl:=iP r;exact ⟨[],.none⟩
  ·obtain rfl:=U5 r;exact ⟨[],.bool _⟩
  ·obtain ⟨t,rfl⟩:=E3 r;exact ⟨[],.int _ _⟩
  ·obtain ⟨t,rfl⟩:=H5 r;exact ⟨[],.str _ _⟩
  ·obtain ⟨a,vs,rfl,⟨o,ho,hc,m,hd⟩,rs⟩:=gD r
   obtain ⟨as,ra⟩:=cG (fun v d x=>T4 O n v d x) l ds vs e9 rs
   exact ⟨as,.tuple ho hc hd (by simpa using ra)⟩
  ·obtain ⟨p,hp,rfl⟩:=K1 r
   obtain ⟨vs,⟨m,ho⟩,rs⟩:=O.lists _ _ _ hp hl
   obtain ⟨as,ra⟩:=cG (fun v d x=>T4 O n v d x) l ds vs e9 rs
   exact ⟨p::as,.list ho rfl rfl (by simpa using ra)⟩
theorem iX {n:Nat}{f:V->Option D}(hf:∀ v d,f v=some d->(dK d).canLay0=true/\(dK d).depth<=n) :
  ∀ (l:List V) (ds:List D),Mini.xH f l=some ds->PyData.canLayAll0 (U9 ds)=true/\PyData.depthAll (U9 ds)<=n
 | [],ds,e=>by
  cases (show some []=some ds from e)
  exact ⟨rfl,B0 _⟩
 | v::l,ds,e=>by
  obtain ⟨d,ds',rfl,hd,e9⟩:=Bh4 e
  have h1:=hf v d hd
  have h2:=iX hf l ds' e9
  exact ⟨Bool.and_eq_true_iff.mpr ⟨h1.1,h2.1⟩,Nat.max_le.mpr ⟨h1.2,h2.2⟩⟩
theorem R4:∀ (n:Nat) (v:V) (d:D),Mini.rd H n v=some d->(dK d).canLay0=true/\(dK d).depth<=n
 | 0,_,_,e=>nomatch (show none=some _ from e)
 | n+1,v,d,e=>by
  refine Cg2 e (fun e1 e2=>?_) (fun b e1 e2=>?_) (fun i e1 e2=>?_) (fun s e1 hs e2=>?_) (fun l ds e1 e9 e2=>?_) (fun a l ds e1 hl e9 e2=>?_)<;>(subst e1;subst e2)
  ·exact ⟨rfl,B0 _⟩
  ·exact ⟨rfl,B0 _⟩
  ·exact ⟨rfl,B0 _⟩
  ·refine ⟨?_,B0 _⟩
   show PyData.strOk _=true
   unfold PyData.strOk
   simp only [List.all_eq_true,decide_eq_true_eq] at hs
   simp only [List.all_toArray',List.size_toArray,List.all_eq_true,decide_eq_true_eq]
   exact hs
  ·have:=iX (fun v d=>R4 n v d) l ds e9
   exact ⟨this.1,B3 this.2⟩
  ·have:=iX (fun v d=>R4 n v d) l ds e9
   exact ⟨this.1,B3 this.2⟩
end
theorem sB (l:List D) (d:D):((U9 l).any fun y=>PyData.eqv y (dK d))=l.any fun y=>Mini.xI y d:=by
 induction l with
 | nil=>rfl
 | cons x r ih =>
  show (PyData.eqv (dK x) (dK d)||(U9 r).any fun y=>PyData.eqv y (dK d))=(Mini.xI x d||r.any fun y=>Mini.xI y d)
  rw [ih,gH]
theorem Bh7 {a b:V}{H:Mini.Heap}{t:Bool}(h:Mini.eqV a b H=some t):(∃ i j:Int,a=.int i/\b=.int j/\(i==j)=t)∨(∃ i j:List Nat,a=.str i/\b=.str j/\(i==j)=t)∨Mini.uL a b H=some t:=by
 replace h:(match Mini.uK a b with | some t=>some t | none=>Mini.uL a b H)=some t:=h
 cases e:Mini.uK a b with
 | none=>rw [e] at h;exact Or.inr (Or.inr h)
 | some u =>
  rw [e] at h
  cases h
  cases a with
  | int i =>
   replace e:=Mini.I9 e;obtain ⟨j,rfl,e⟩:=e
   exact Or.inl ⟨_,_,rfl,rfl,Option.some.inj e⟩
  | bool i =>
   replace e:=Mini.Bc0 e;obtain ⟨j,rfl,e⟩:=e
   refine Or.inr (Or.inr ?_)
   rw [<- e];rfl
  | str i =>
   replace e:=Mini.nR e;obtain ⟨j,rfl,e⟩:=e
   exact Or.inr (Or.inl ⟨_,_,rfl,rfl,Option.some.inj e⟩)
  | _=>exact nomatch (show Option.none=some _ from e)
section
variable {X:Cx}{A:Around}{C:Mini.Calls}
theorem Bz0 {a b:V}{x y:Value}{H:Mini.Heap}{φ:List Addr}{s:Shared}{K EX:Value->Shared->Prop}{t:Bool}(hu:A.units+106<cLine)
  (O:Ok X.h₀ φ H s.heap) (ra:E7 X.h₀ φ s.heap a x) (rb:E7 X.h₀ φ s.heap b y) (h:Mini.eqV a b H=some t) (k:K (.bool t) s) :
  wpAny (M7 X) A (compareOp .Eq x y) K EX s:=by
 have deep:∀ {u v:D},Mini.rd H Mini.K7 a=some u->Mini.rd H Mini.K7 b=some v->Mini.xI u v=t->wpAny (M7 X) A (compareOp .Eq x y) K EX s:=by
  intro u v e1 e2 e3
  obtain ⟨as,r1⟩:=T4 O _ _ _ _ e1 ra
  obtain ⟨bs,r2⟩:=T4 O _ _ _ _ e2 rb
  have c1:=R4 _ _ _ e1
  have c2:=R4 _ _ _ e2
  refine SeqAt.compareEq_reads r1 r2 c1.1 c2.1 ?_ ?_
  ·exact A9 (Nat.add_le_add_left (A3 (Nat.min_le_left _ _) (A3 c1.2 (by decide:100<=106))) _) hu
  ·rw [<- gH,e3];exact k
 rcases Bh7 h with ⟨a,b,rfl,rfl,rfl⟩ | ⟨a,b,rfl,rfl,rfl⟩ | h
 ·obtain ⟨_,rfl⟩:=E3 ra
  obtain ⟨_,rfl⟩:=E3 rb
  exact PyProof.Rows.eq_int k
 ·obtain ⟨_,rfl⟩:=H5 ra
  obtain ⟨_,rfl⟩:=H5 rb
  refine PySem.P.eq_str ?_
  simpa using k
 ·obtain ⟨u,e1,h⟩:=Option.bind_eq_some_iff.mp h
  obtain ⟨v,e2,h⟩:=Option.bind_eq_some_iff.mp h
  exact deep e1 e2 (Option.some.inj h)
theorem By5 {a b:V}{x y:Value}{H:Mini.Heap}{φ:List Addr}{s:Shared}{K EX:Value->Shared->Prop}{t:Bool}(hu:A.units+106<cLine)
  (O:Ok X.h₀ φ H s.heap) (ra:E7 X.h₀ φ s.heap a x) (rb:E7 X.h₀ φ s.heap b y) (h:Mini.eqV a b H=some t) (k:K (.bool (!t)) s) :
  wpAny (M7 X) A (compareOp .NotEq x y) K EX s:=by
 have deep:∀ {u v:D},Mini.rd H Mini.K7 a=some u->Mini.rd H Mini.K7 b=some v->Mini.xI u v=t->wpAny (M7 X) A (compareOp .NotEq x y) K EX s:=by
  intro u v e1 e2 e3
  obtain ⟨as,r1⟩:=T4 O _ _ _ _ e1 ra
  obtain ⟨bs,r2⟩:=T4 O _ _ _ _ e2 rb
  have c1:=R4 _ _ _ e1
  have c2:=R4 _ _ _ e2
  refine SeqAt.compareNe_reads r1 r2 c1.1 c2.1 ?_ ?_
  ·exact A9 (Nat.add_le_add_left (A3 (Nat.min_le_left _ _) (A3 c1.2 (by decide:100<=106))) _) hu
  ·rw [<- gH,e3];exact k
 rcases Bh7 h with ⟨a,b,rfl,rfl,rfl⟩ | ⟨a,b,rfl,rfl,rfl⟩ | h
 ·obtain ⟨_,rfl⟩:=E3 ra
  obtain ⟨_,rfl⟩:=E3 rb
  exact PyProof.Rows.ne_int k
 ·obtain ⟨_,rfl⟩:=H5 ra
  obtain ⟨_,rfl⟩:=H5 rb
  refine PySem.P.ne_str ?_
  simpa [bne] using k
 ·obtain ⟨u,e1,h⟩:=Option.bind_eq_some_iff.mp h
  obtain ⟨v,e2,h⟩:=Option.bind_eq_some_iff.mp h
  exact deep e1 e2 (Option.some.inj h)
end
end MiniS
namespace MiniS
open PySem PySem.Calls PyProof.Rows
open Mini (V D)
section
variable {X:Cx}{A:Around}{C:Mini.Calls}
theorem Bm6 {a t:V}{x y:Value}{H:Mini.Heap}{φ:List Addr}{s:Shared}{b:Bool}(hu:A.units+106<cLine)
  (O:Ok X.h₀ φ H s.heap) (ra:E7 X.h₀ φ s.heap a x) (rb:E7 X.h₀ φ s.heap t y) (h:Mini.memV a t H=some b) :
  (∀ {K EX:Value->Shared->Prop},K (.bool b) s->wpAny (M7 X) A (compareOp .In x y) K EX s) /\
  (∀ {K EX:Value->Shared->Prop},K (.bool (!b)) s->wpAny (M7 X) A (compareOp .NotIn x y) K EX s):=by
 replace h:(match Mini.rd H Mini.K7 a,Mini.rd H Mini.K7 t with | some x,some (.tup l)=>some (l.any fun y=>Mini.xI y x) | _,_=>none)=some b:=h
 cases e1:Mini.rd H Mini.K7 a with
 | none=>rw [e1] at h;cases h
 | some u =>
  cases e2:Mini.rd H Mini.K7 t with
  | none=>rw [e1,e2] at h;cases h
  | some dt =>
   rw [e1,e2] at h
   cases dt with
   | tup l =>
    obtain ⟨as,r1⟩:=T4 O _ _ _ _ e1 ra
    obtain ⟨bs,r2⟩:=T4 O _ _ _ _ e2 rb
    have c1:=R4 _ _ _ e1
    have c2:=R4 _ _ _ e2
    replace c2:PyData.canLayAll0 (U9 l)=true/\PyData.depthAll (U9 l)+1<=Mini.K7:=c2
    cases h
    have hm:A.units+1+min (PyData.depthAll (U9 l)) (dK u).depth<cLine:=A9 (Nat.add_le_add_left (A3 (Nat.min_le_right _ _) c1.2) _) (A9 (by show A.units+1+100<=A.units+106;rw [Nat.add_assoc];exact Nat.add_le_add_left (by decide) _) hu)
    exact ⟨fun k=>SeqAt.in_tuple_reads r2 r1 c2.1 c1.1 hm (by rw [sB];exact k),fun k=>SeqAt.notIn_tuple_reads r2 r1 c2.1 c1.1 hm (by rw [sB];exact k)⟩
   | _=>cases h
theorem At6 {a b:V}{x y:Value}{H:Mini.Heap}{φ:List Addr}{s:Shared}{t:Bool}(hu:A.units+106<cLine)
  (O:Ok X.h₀ φ H s.heap) (ra:E7 X.h₀ φ s.heap a x) (rb:E7 X.h₀ φ s.heap b y) (h:Mini.inV a b H=some t) :
  (∀ {K EX:Value->Shared->Prop},K (.bool t) s->wpAny (M7 X) A (compareOp .In x y) K EX s) /\
  (∀ {K EX:Value->Shared->Prop},K (.bool (!t)) s->wpAny (M7 X) A (compareOp .NotIn x y) K EX s):=by
 cases b with
 | str a0 =>
  replace h:=Mini.nR h;obtain ⟨l,rfl,h⟩:=h
  replace h:=Mini.Bp8 h;obtain ⟨c,rfl,h⟩:=h
  cases h
  obtain ⟨_,rfl⟩:=H5 ra
  obtain ⟨_,rfl⟩:=H5 rb
  refine ⟨fun k=>PyProof.Rows.in_str ?_,fun k=>PyProof.Rows.notIn_str ?_⟩
  ·rw [StrLaws.found_one]
   simpa using k
  ·rw [StrLaws.found_one]
   simpa using k
 | tup a0 =>
  exact Bm6 hu O ra rb h
 | _=>exact nomatch (show Option.none=some _ from h)
theorem Y7 {o:Mini.Cmp}{o':CmpOp}{a b:V}{x y:Value}{H:Mini.Heap}{φ:List Addr}{s:Shared}{K EX:Value->Shared->Prop}{t:Bool}(hu:A.units+106<cLine) (ho:Mini.mT o o'=true)
  (O:Ok X.h₀ φ H s.heap) (ra:E7 X.h₀ φ s.heap a x) (rb:E7 X.h₀ φ s.heap b y) (h:Mini.Q6 o a b H=some t) (k:K (.bool t) s) :
  wpAny (M7 X) A (compareOp o' x y) K EX s:=by
 obtain rfl:o'=_:=eq_of_beq ho
 clear ho
 cases o
 ·exact Bz0 hu O ra rb h k
 ·obtain ⟨u,e,rfl⟩:=Option.map_eq_some_iff.mp h
  exact By5 hu O ra rb e k
 ·replace h:=Mini.I9 h;obtain ⟨i,rfl,h⟩:=h
  replace h:=Mini.I9 h;obtain ⟨j,rfl,h⟩:=h
  cases h
  obtain ⟨_,rfl⟩:=E3 ra
  obtain ⟨_,rfl⟩:=E3 rb
  exact lt_int k
 ·replace h:=Mini.I9 h;obtain ⟨i,rfl,h⟩:=h
  replace h:=Mini.I9 h;obtain ⟨j,rfl,h⟩:=h
  cases h
  obtain ⟨_,rfl⟩:=E3 ra
  obtain ⟨_,rfl⟩:=E3 rb
  exact PyProof.Rows.le_int k
 ·replace h:=Mini.I9 h;obtain ⟨i,rfl,h⟩:=h
  replace h:=Mini.I9 h;obtain ⟨j,rfl,h⟩:=h
  cases h
  obtain ⟨_,rfl⟩:=E3 ra
  obtain ⟨_,rfl⟩:=E3 rb
  exact gt_int k
 ·replace h:=Mini.I9 h;obtain ⟨i,rfl,h⟩:=h
  replace h:=Mini.I9 h;obtain ⟨j,rfl,h⟩:=h
  cases h
  obtain ⟨_,rfl⟩:=E3 ra
  obtain ⟨_,rfl⟩:=E3 rb
  exact PyProof.Rows.ge_int k
 ·exact (At6 hu O ra rb h).1 k
 ·obtain ⟨u,e,rfl⟩:=Option.map_eq_some_iff.mp h
  exact (At6 hu O ra rb e).2 k
theorem gG {gl sc nm e re}(h:Mini.D0 gl sc nm e re=true) (op:CmpOp):behindInMarks op re=false:=by
 have h:=(Mini.jN h).form
 cases re<;>first | rfl | nomatch h
theorem Bz2 {o:Mini.Op}{l r:Mini.E}(hl:E1 X A C l) (hr:E1 X A C r):E1 X A C (.bin o l r):=by
 intro re env nm ρ Q H φ s K EX hc L O h k
 refine Mini.Cb8 hc fun l' o' r' p e9 hc9=>?_
 clear hc;subst e9
 ·simp only [Bool.and_eq_true] at hc9
  obtain ⟨⟨h1,h2⟩,h3⟩:=hc9
  replace h:=Mini.Bj0 h
  refine wpAny_BinOp (hl _ env nm ρ _ H φ s _ EX h2 L O h fun a H1 φ1 x1 s1 q1 F1 r1=>?_)
  refine hr _ env nm ρ _ H1 φ1 s1 _ EX h3 (L.fwd O F1) F1.ok q1 fun b H2 φ2 x2 s2 q2 F2 r2=>?_
  exact Bo0 h1 F2.ok (F2.val F1.ok r1) r2 q2 (k.after (F1.trans F2))
theorem By4 {i:Int}:E1 X A C (.neg i):=by
 intro re env nm ρ Q H φ s K EX hc L O h k
 refine Mini.Aw0 hc fun k9 p q e9=>?_
 clear hc;subst e9
 ·replace h:=Mini.Cl0 h
  exact UnaryOp_ (wpAny_Constant_int (PySem.P.neg_int (k _ _ _ _ _ h ((I7.tok O).trans (I7.tok O)) P6)))
set_option tactic.hygienic true in
theorem Bz1 (hu:A.units+106<cLine) {o:Mini.Cmp}{l r:Mini.E}(hl:E1 X A C l) (hr:E1 X A C r):E1 X A C (.cmp o l r):=by
 intro re env nm ρ Q H φ s K EX hc L O h k
 refine Mini.Aw1 hc fun l' o' r' p e9 hc9=>?_
 clear hc;subst e9
 ·simp only [Bool.and_eq_true] at hc9
  obtain ⟨⟨h1,h2⟩,h3⟩:=hc9
  replace h:=Mini.Aj2 h
  refine wpAny_Compare1 (hl _ env nm ρ _ H φ s _ EX h2 L O h fun a H1 φ1 x1 s1 q1 F1 r1=>?_) (gG h3 _)
  refine hr _ env nm ρ _ H1 φ1 s1 _ EX h3 (L.fwd O F1) F1.ok q1 fun b H2 φ2 x2 s2 q2 F2 r2=>?_
  unfold Mini.boo at q2
  split at q2
  ·rename_i t e
   exact Y7 hu h1 F2.ok (F2.val F1.ok r1) r2 e (k _ _ _ _ _ q2 (F1.trans F2) aM)
  ·exact q2.elim
set_option tactic.hygienic true in
theorem Bn7 (hu:A.units+106<cLine) {o₁ o₂:Mini.Cmp}{a b c:Mini.E}(ha:E1 X A C a) (hb:E1 X A C b) (hcc:E1 X A C c):E1 X A C (.cmp2 o₁ o₂ a b c):=by
 intro re env nm ρ Q H φ s K EX hc L O h k
 refine Mini.zN hc fun a' o' p' b' c' p e9 hc9=>?_
 clear hc;subst e9
 ·simp only [Bool.and_eq_true] at hc9
  obtain ⟨⟨⟨⟨h1,h2⟩,h3⟩,h4⟩,h5⟩:=hc9
  replace h:=Mini.vD h
  refine Compare_chain (ha _ env nm ρ _ H φ s _ EX h3 L O h fun va H1 φ1 x1 s1 q1 F1 r1=>?_) (by simpa [lastMarks] using gG h5 _)
  refine chain_link (hb _ env nm ρ _ H1 φ1 s1 _ EX h4 (L.fwd O F1) F1.ok q1 fun vb H2 φ2 x2 s2 q2 F2 r2=>?_)
  unfold Mini.boo at q2
  split at q2
  ·rename_i t e
   refine Y7 hu h1 F2.ok (F2.val F1.ok r1) r2 e (wpAny_truthy_bool ?_)
   cases t with
   | false=>exact k _ _ _ _ _ q2 (F1.trans F2) aM
   | true =>
    refine chain_last (hcc _ env nm ρ _ H2 φ2 s2 _ EX h5 ((L.fwd O F1).fwd F1.ok F2) F2.ok q2 fun vc H3 φ3 x3 s3 q3 F3 r3=>?_)
    unfold Mini.boo at q3
    split at q3
    ·rename_i t e
     exact Y7 hu h2 F3.ok (F3.val F2.ok r2) r3 e (k _ _ _ _ _ q3 ((F1.trans F2).trans F3) aM)
    ·exact q3.elim
  ·exact q2.elim
noncomputable def cstC:Mini.xJ->Const
 | .none=>.none
 | .tt=>.bool true
 | .ff=>.bool false
noncomputable def Cw2:Mini.xJ->Value
 | .none=>.none
 | .tt=>.bool true
 | .ff=>.bool false
theorem Bh8 {c:Mini.xJ}{e:Expr}(hc:Mini.mS c e=true):∃ k p,e=.Constant (cstC c) k p:=by
 refine Mini.S8 hc fun k u p e9 h=>?_
 subst e9
 cases c
 ·rw [Mini.pA h];exact ⟨_,_,rfl⟩
 ·rw [Mini.eZ h];exact ⟨_,_,rfl⟩
 ·rw [Mini.eZ h];exact ⟨_,_,rfl⟩
set_option tactic.hygienic true in
theorem uD {v:V}{c:Mini.xJ}{x:Value}{h₀ φ h}{e:Expr}{env:Env}{s:Shared}(r:E7 h₀ φ h v x) (hc:Mini.mS c e=true) :
  ∃ y,(∀ {K EX:Value->Shared->Prop},K y s->wpAny (M7 X) A (eval e env) K EX s)/\plainIs x y=true/\(x==y)=Mini.isV v c:=by
 obtain ⟨k,p,rfl⟩:=Bh8 hc
 refine ⟨Cw2 c,fun k=>by cases c<;>exact wpAny_pure k,?_⟩
 cases v
 ·obtain rfl:=iP r;cases c<;>exact ⟨rfl,rfl⟩
 ·rename_i b;obtain rfl:=U5 r;cases b<;>cases c<;>exact ⟨rfl,rfl⟩
 ·obtain ⟨t,rfl⟩:=r;cases c<;>exact ⟨rfl,rfl⟩
 ·obtain ⟨_,t,rfl⟩:=r;cases c<;>exact ⟨rfl,rfl⟩
 ·obtain ⟨a,_,rfl⟩:=r;cases c<;>exact ⟨rfl,rfl⟩
 ·obtain ⟨_,a,vs,rfl,_⟩:=r;cases c<;>exact ⟨rfl,rfl⟩
 ·obtain ⟨_,a,vs,rfl,_⟩:=r;cases c<;>exact ⟨rfl,rfl⟩
theorem dB {c:Mini.xJ}{e:Expr}(hc:Mini.mS c e=true) (op:CmpOp):behindInMarks op e=false:=by
 obtain ⟨k,p,rfl⟩:=Bh8 hc
 rfl
theorem Ck4 {e:Mini.E}{c:Mini.xJ}(he:E1 X A C e):E1 X A C (.is e c):=by
 intro re env nm ρ Q H φ s K EX hc L O h k
 refine Mini.Bk0 hc fun e' r' p e9 hc9=>?_
 clear hc;subst e9
 ·simp only [Bool.and_eq_true] at hc9
  replace h:=Mini.Cg6 h
  refine wpAny_Compare1 (he _ env nm ρ _ H φ s _ EX hc9.1 L O h fun a H1 φ1 x1 s1 q1 F1 r1=>?_) (dB hc9.2 _)
  obtain ⟨y,ev,hp,hq⟩:=uD (X:=X) (A:=A) (env:=env) (s:=s1) r1 hc9.2
  refine ev (wpAny_is_plain hp ?_)
  rw [hq]
  exact k _ _ _ _ _ q1 F1 aM
theorem Ba1 {e:Mini.E}{c:Mini.xJ}(he:E1 X A C e):E1 X A C (.isnot e c):=by
 intro re env nm ρ Q H φ s K EX hc L O h k
 refine Mini.sI hc fun e' r' p e9 hc9=>?_
 clear hc;subst e9
 ·simp only [Bool.and_eq_true] at hc9
  replace h:=Mini.zH h
  refine wpAny_Compare1 (he _ env nm ρ _ H φ s _ EX hc9.1 L O h fun a H1 φ1 x1 s1 q1 F1 r1=>?_) (dB hc9.2 _)
  obtain ⟨y,ev,hp,hq⟩:=uD (X:=X) (A:=A) (env:=env) (s:=s1) r1 hc9.2
  refine ev (wpAny_isNot_plain hp ?_)
  rw [hq]
  exact k _ _ _ _ _ q1 F1 aM
theorem gE {h₀ φ h}{v:V}{x:Value}{t:Bool}(r:E7 h₀ φ h v x) (e:Mini.J1 v=some t):x=.bool t:=by
 cases v<;>simp [Mini.J1] at e
 subst e
 exact U5 r
set_option tactic.hygienic true in
theorem By2 {e:Mini.E}(he:E1 X A C e):E1 X A C (.not e):=by
 intro re env nm ρ Q H φ s K EX hc L O h k
 refine Mini.Av9 hc fun e' p e9 hc9=>?_
 clear hc;subst e9
 ·replace h:=Mini.Bi8 h
  refine UnaryOp_ (he _ env nm ρ _ H φ s _ EX hc9 L O h fun a H1 φ1 x1 s1 q1 F1 r1=>?_)
  unfold Mini.boo at q1
  split at q1
  ·rename_i t e
   obtain rfl:=gE r1 e
   exact not_of (wpAny_truthy_bool (k _ _ _ _ _ q1 F1 aM))
  ·exact q1.elim
noncomputable def eI (X:Cx) (A:Around) (C:Mini.Calls) (es:List Mini.E):Prop:=∀ e∈es,E1 X A C e
set_option tactic.hygienic true in
theorem oL:∀ (es:List Mini.E) (res:List Expr) (env:Env) (nm:List Str) (ρ:Mini.D7) (Q:V->Mini.Heap->Prop) (H:Mini.Heap) (φ:List Addr) (s:Shared) (K EX:Value->Shared->Prop) (p:Pos),
  eI X A C es->Mini.J7 X.gl env.scope.names nm es res=true->H9 X φ nm env ρ s->Ok X.h₀ φ H s.heap->Mini.fG C es ρ Q H->U0 X Q φ s K ->
  wpAny (M7 X) A (eval (.BoolOp .And res p) env) K EX s
 | [],_,_,_,_,_,_,_,_,_,_,_,_,_,_,_,h,_=>False.elim h
 | e::es,res,env,nm,ρ,Q,H,φ,s,K,EX,p,hs,hc,L,O,h,k=>by
  cases res with
  | nil=>nomatch hc
  | cons re res =>
   replace hc:=Mini.D1 hc
   cases es with
   | nil =>
    cases res with
    | cons _ _=>nomatch hc.2
    | nil=>exact BoolOp_one (hs e (by simp) _ env nm ρ Q H φ s K EX hc.1 L O h k)
   | cons e2 es =>
    cases res with
    | nil=>nomatch hc.2
    | cons re2 res =>
     refine BoolOp_and (hs e (by simp) _ env nm ρ _ H φ s _ EX hc.1 L O h fun v H1 φ1 x1 s1 q1 F1 r1=>?_)
     unfold Mini.boo at q1
     split at q1
     ·rename_i t e
      obtain rfl:=gE r1 e
      refine wpAny_truthy_bool ?_
      cases t with
      | false=>exact k _ _ _ _ _ q1 F1 r1
      | true =>
       simp only at q1
       exact oL (e2::es) (re2::res) env nm ρ Q H1 φ1 s1 K EX p (fun e' he'=>hs e' (List.mem_cons_of_mem _ he')) hc.2 (L.fwd O F1) F1.ok q1 (k.after F1)
     ·exact q1.elim
set_option tactic.hygienic true in
theorem rU:∀ (es:List Mini.E) (res:List Expr) (env:Env) (nm:List Str) (ρ:Mini.D7) (Q:V->Mini.Heap->Prop) (H:Mini.Heap) (φ:List Addr) (s:Shared) (K EX:Value->Shared->Prop) (p:Pos),
  eI X A C es->Mini.J7 X.gl env.scope.names nm es res=true->H9 X φ nm env ρ s->Ok X.h₀ φ H s.heap->Mini.tZ C es ρ Q H->U0 X Q φ s K ->
  wpAny (M7 X) A (eval (.BoolOp .Or res p) env) K EX s
 | [],_,_,_,_,_,_,_,_,_,_,_,_,_,_,_,h,_=>False.elim h
 | e::es,res,env,nm,ρ,Q,H,φ,s,K,EX,p,hs,hc,L,O,h,k=>by
  cases res with
  | nil=>nomatch hc
  | cons re res =>
   replace hc:=Mini.D1 hc
   cases es with
   | nil =>
    cases res with
    | cons _ _=>nomatch hc.2
    | nil=>exact BoolOp_one (hs e (by simp) _ env nm ρ Q H φ s K EX hc.1 L O h k)
   | cons e2 es =>
    cases res with
    | nil=>nomatch hc.2
    | cons re2 res =>
     refine BoolOp_or (hs e (by simp) _ env nm ρ _ H φ s _ EX hc.1 L O h fun v H1 φ1 x1 s1 q1 F1 r1=>?_)
     unfold Mini.boo at q1
     split at q1
     ·rename_i t e
      obtain rfl:=gE r1 e
      refine wpAny_truthy_bool ?_
      cases t with
      | true=>exact k _ _ _ _ _ q1 F1 r1
      | false =>
       simp only at q1
       exact rU (e2::es) (re2::res) env nm ρ Q H1 φ1 s1 K EX p (fun e' he'=>hs e' (List.mem_cons_of_mem _ he')) hc.2 (L.fwd O F1) F1.ok q1 (k.after F1)
     ·exact q1.elim
theorem Bz3 {es:List Mini.E}(hs:eI X A C es):E1 X A C (.and es):=by
 intro re env nm ρ Q H φ s K EX hc L O h k
 refine Mini.Aw2 hc fun es' p e9 hc9=>?_
 clear hc;subst e9
 ·replace h:=Mini.Bj1 h
  exact oL es _ env nm ρ Q H φ s K EX _ hs hc9 L O h k
theorem Ck3 {es:List Mini.E}(hs:eI X A C es):E1 X A C (.or es):=by
 intro re env nm ρ Q H φ s K EX hc L O h k
 refine Mini.Bj9 hc fun es' p e9 hc9=>?_
 clear hc;subst e9
 ·replace h:=Mini.Cg5 h
  exact rU es _ env nm ρ Q H φ s K EX _ hs hc9 L O h k
end
end MiniS
namespace MiniS
open PySem PySem.Calls PyProof.Rows
open Mini (V D)
noncomputable def dN (v:Option Int) (d:Int) (n:Nat):Int:=match v with
 | none=>d
 | some i=>max 0 (min (if i<0 then i+n else i) n)
theorem Bh5 {a b:Int}(h:a<0):a+b<=b:=by
 have:=Int.add_le_add_right (Int.le_of_lt h) b
 rw [Int.zero_add] at this;exact this
theorem Au4 (i:Int) (n:Nat):max 0 (min (if i<0 then i+n else i) n)=(Mini.mU i n:Int):=by
 show _=(((if i<0 then (i+n).toNat else min i.toNat n):Nat):Int)
 by_cases h:i<0
 ·rw [if_pos h,if_pos h,Int.min_eq_left (Bh5 h),Int.max_comm,Int.ofNat_toNat]
 ·obtain ⟨k,rfl⟩:=Int.eq_ofNat_of_zero_le (Int.not_lt.mp h)
  rw [if_neg h,if_neg h,Int.toNat_natCast,Int.max_eq_right (Int.le_min.mpr ⟨Int.natCast_nonneg k,Int.natCast_nonneg n⟩)]
  rcases Nat.le_total k n with q | q
  ·rw [Nat.min_eq_left q,Int.min_eq_left (Int.ofNat_le.mpr q)]
  ·rw [Nat.min_eq_right q,Int.min_eq_right (Int.ofNat_le.mpr q)]
theorem yY (v:Option Int) (n:Nat):dN v 0 n=(Mini.Ai5 v n:Int):=by
 cases v with
 | none=>rfl
 | some i=>exact Au4 i n
theorem yZ (v:Option Int) (n:Nat):dN v n n=(Mini.xR v n:Int):=by
 cases v with
 | none=>rfl
 | some i=>exact Au4 i n
theorem Am7 {α:Type}(l:List α) (a b:Nat) (hb:b<=l.length):(sliceRange (a:Int) (b:Int) 1).filterMap (l[·]?)=(l.take b).drop a:=by
 unfold sliceRange
 by_cases h:a<b
 ·have e:(if (1:Int)>0 then (if (a:Int)<b then ((b:Int) - a+1 - 1) / 1 else 0) else (if (a:Int)>b then ((a:Int) - b - 1 - 1) / (-1) else 0)).toNat=b - a:=by
   rw [if_pos (by decide),if_pos (Int.ofNat_lt.mpr h),Int.ediv_one,Int.add_sub_cancel];exact Int.toNat_sub b a
  simp only [e]
  have e2:(List.range (b - a)).map (fun k:Nat=>((a:Int)+1 * (k:Int)).toNat)=(List.range (b - a)).map (fun k=>a+k):=List.map_congr_left fun k zz=>by rw [Int.one_mul];rfl
  rw [e2,StrLaws.picks l (b - a) a (by rw [Nat.add_sub_cancel' (B5 h)];exact hb),List.drop_take]
 ·have e:(if (1:Int)>0 then (if (a:Int)<b then ((b:Int) - a+1 - 1) / 1 else 0) else (if (a:Int)>b then ((a:Int) - b - 1 - 1) / (-1) else 0)).toNat=0:=by
   rw [if_pos (by decide),if_neg fun q=>h (Int.ofNat_lt.mp q)];rfl
  simp only [e]
  rw [List.drop_eq_nil_of_le (A3 (List.length_take_le b l) (Nat.le_of_not_lt h))]
  rfl
theorem Bb0 (i:Int) (n:Nat):Mini.mU i n<=n:=by
 show (if i<0 then (i+n).toNat else min i.toNat n)<=n
 by_cases h:i<0
 ·rw [if_pos h];exact Int.toNat_le.mpr (Bh5 h)
 ·rw [if_neg h];exact Nat.min_le_right _ _
theorem Au2 (hi:Option Int) (n:Nat):Mini.xR hi n<=n:=by
 cases hi with
 | none=>exact A4 _
 | some i=>exact Bb0 i _
theorem oP {α:Type}(l:List α) (lo hi:Option Int):(sliceRange (dN lo 0 l.length) (dN hi l.length l.length) 1).filterMap (l[·]?)=Mini.slice l lo hi:=by
 rw [yY,yZ,Am7 _ _ _ (Au2 hi _)]
 rfl
theorem gT (vs:List Value) (lo hi:Option Int):slicePick vs.toArray lo hi none=(Mini.slice vs lo hi).toArray:=by
 have:=oP vs lo hi
 unfold slicePick
 rw [<- this]
 congr 1
 have e:∀ x:Nat,vs.toArray[x]? = vs[x]?:=fun x=>by simp
 simp only [e]
 cases lo<;>cases hi<;>simp [sliceBounds,dN]
theorem Ad3 (l:List Nat) (lo hi:Option Int):Txt.slice ⟨l.toArray⟩ lo hi=⟨(Mini.slice l lo hi).toArray⟩:=by
 have h:=oP l lo hi
 have e:Builtin.Str.strSliceIndices lo hi 1 (Str.length ⟨l.toArray⟩)=sliceRange (dN lo 0 l.length) (dN hi l.length l.length) 1:=by
  cases lo<;>cases hi<;>simp [Builtin.Str.strSliceIndices,dN,Str.length]
 have e1:∀ x:Nat,(Str.mk l.toArray).cps[x]? = l[x]?:=fun x=>by simp
 unfold Txt.slice
 rw [e]
 split
 ·rename_i hc
  simp only [BEq.rfl,Bool.true_and,beq_iff_eq] at hc
  have hr:(sliceRange (dN lo 0 l.length) (dN hi l.length l.length) 1).length=l.length:=by simpa [Str.length] using hc
  rw [yY,yZ] at hr
  unfold Mini.slice
  have hb':=Au2 hi l.length
  generalize Mini.Ai5 lo l.length=a at *
  generalize Mini.xR hi l.length=b at *
  unfold sliceRange at hr
  simp only [B6,List.length_range] at hr
  rw [if_pos (by decide)] at hr
  by_cases hab:(a:Int)<b
  ·rw [if_pos hab,Int.ediv_one] at hr
   have h1:a=0:=by lia
   have h2:b=l.length:=by lia
   subst h1;subst h2;simp
  ·rw [if_neg hab] at hr
   have:l=[]:=by
    apply List.eq_nil_of_length_eq_zero;simpa using hr.symm
   subst this;simp
 ·simp only [e1,h]
theorem C5.take {h₀ φ h}:∀ {l:List V}{vs:List Value}(n:Nat),C5 h₀ φ h l vs->C5 h₀ φ h (l.take n) (vs.take n)
 | _,_,0,_=>by simpa using C5.nil
 | [],vs,n+1,r=>by have:=r.unnil;subst this;simpa using C5.nil
 | v::l,vs,n+1,r=>by
  obtain ⟨x,vs',rfl,r1,r2⟩:=r.uncons
  simp only [List.take_succ_cons]
  exact C5.cons r1 (C5.take n r2)
theorem C5.drop {h₀ φ h}:∀ {l:List V}{vs:List Value}(n:Nat),C5 h₀ φ h l vs->C5 h₀ φ h (l.drop n) (vs.drop n)
 | _,_,0,r=>by simpa using r
 | [],vs,n+1,r=>by have:=r.unnil;subst this;simpa using C5.nil
 | v::l,vs,n+1,r=>by
  obtain ⟨x,vs',rfl,r1,r2⟩:=r.uncons
  simp only [List.drop_succ_cons]
  exact C5.drop n r2
theorem C5.slice {h₀ φ h}{l:List V}{vs:List Value}(lo hi:Option Int) (r:C5 h₀ φ h l vs):C5 h₀ φ h (Mini.slice l lo hi) (Mini.slice vs lo hi):=by
 unfold Mini.slice
 rw [r.length]
 exact C5.drop _ (C5.take _ r)
theorem bP.rels {h₀ φ h}:∀ {l:List Int}{vs:List Value},bP l vs->C5 h₀ φ h (l.map V.int) vs
 | [],[],_=>C5.nil
 | i::l,x::r,H=>by
  obtain ⟨⟨t,rfl⟩,H⟩:=H
  exact C5.cons P6 (bP.rels H)
 | [],_::_,H=>False.elim H
 | _::_,[],H=>False.elim H
theorem Ba6 {α β:Type}(f:α->β) (l:List α) (lo hi:Option Int):Mini.slice (l.map f) lo hi=(Mini.slice l lo hi).map f:=by
 unfold Mini.slice
 simp [List.map_drop,List.map_take]
theorem iQ {α:Type}(l:List α) (lo hi:Option Int):(Mini.slice l lo hi).length<=l.length:=by
 unfold Mini.slice
 rw [List.length_drop]
 exact A3 (Nat.sub_le _ _) (List.length_take_le' _ _)
theorem rV {i:Int}{n j:Nat}(h:Mini.K3 i n=some j):seqIndex? i n=some j/\j<n/\-(n:Int)<=i/\i<n:=by
 replace h:(if 0<=i then (if i<n then some i.toNat else none) else if -(n:Int)<=i then some (i+n).toNat else none)=some j:=h
 by_cases h1:0<=i
 ·rw [if_pos h1] at h
  obtain ⟨h2,h⟩:=Mini.X4 h
  subst h
  exact ⟨StrLaws.seqIndex_nonneg h1 h2,(Int.toNat_lt h1).mpr h2,Int.le_trans (Int.neg_nonpos_of_nonneg (Int.natCast_nonneg n)) h1,h2⟩
 ·rw [if_neg h1] at h
  obtain ⟨h2,h⟩:=Mini.X4 h
  subst h
  have h3:=Int.not_le.mp h1
  exact ⟨StrLaws.seqIndex_neg h3 h2,by lia,h2,Int.lt_of_lt_of_le h3 (Int.natCast_nonneg n)⟩
section
variable {X:Cx}{A:Around}{C:Mini.Calls}
theorem bG {s:Shared}{l:Addr}{vs:List Value}{k:Int}{t:Tok}{j:Nat}{x:Value}{K EX:Value->Shared->Prop}(hl:s.heap.IsList l vs.toArray) (hz:vs.length<=Mini.I8)
  (hj:Mini.K3 k vs.length=some j) (hx:vs[j]? = some x) (h:K x s):wpAny (M7 X) A (getItem (.ref l) (.int k t)) K EX s:=by
 have hlim:Mini.I8=16777216:=rfl
 unfold Mini.K3 at hj
 split at hj
 ·split at hj
  ·cases hj
   exact wpAny_getItem_list hl (by assumption) (by lia) (by simpa using hx) h
  ·cases hj
 ·split at hj
  ·cases hj
   refine wpAny_getItem_list_neg hl (by lia) (by simpa using by assumption) ?_ ?_ h
   all_goals first | lia | (simp;lia) | (simpa using hx)
  ·cases hj
theorem Bm9 {o i v:V}{x y:Value}{H:Mini.Heap}{φ:List Addr}{s:Shared}{K EX:Value->Shared->Prop}{value slice:Expr}
  (hs:subscripted slice false x y=operate [x,y] (getItem x y)) (O:Ok X.h₀ φ H s.heap) (ro:E7 X.h₀ φ s.heap o x) (ri:E7 X.h₀ φ s.heap i y) (h:Mini.X9 o i H=some v)
  (k:∀ z tk,E7 X.h₀ φ s.heap v z->s.toks<=tk->K z { s with toks:=tk }):wpAny (M7 X) A (subscriptTail value slice x y) K EX s:=by
 have hlim:Mini.I8=16777216:=rfl
 replace h:=Mini.I9 h;obtain ⟨i,rfl,h⟩:=h
 cases o with
 | str l =>
  replace h:(Mini.K3 i l.length).bind (fun k=>(l[k]?).map fun c=>V.str [c])=some v:=h
  have hz:=len_str ro
  obtain ⟨t,rfl⟩:=H5 ro
  obtain ⟨u,rfl⟩:=E3 ri
  cases e:Mini.K3 i l.length with
  | none=>rw [e] at h;cases h
  | some j =>
   rw [e] at h
   obtain ⟨p1,p2,p3,p4⟩:=rV e
   have hj:l[j]? = some l[j]:=List.getElem?_eq_getElem p2
   simp only [Option.bind_some,hj,Option.map_some,Option.some.injEq] at h
   subst h
   have hch:Txt.charAt ⟨l.toArray⟩ i=some l[j]:=by
    unfold Txt.charAt
    have:(Str.mk l.toArray).length=l.length:=by simp [Str.length]
    rw [this,p1]
    simp [hj]
   refine tail_any (typeIs_str _ _ _) F.slot_str_getitem.lookup (SB.getItem ?_ ?_ ?_) hs
   ·unfold fitsSsize
    simp
    lia
   ·rw [hch];rfl
   ·refine k _ _ (lV ?_ (by simp;exact Mini.M4 (Nat.le_of_eq hlim.symm))) (B8 _)
    unfold Txt.item
    rw [hch];rfl
 | tup l =>
  replace h:(Mini.K3 i l.length).bind (fun k=>l[k]?)=some v:=h
  have hz:=Au0 ro
  obtain ⟨a,vs,rfl,ht,rs⟩:=gD ro
  obtain ⟨u,rfl⟩:=E3 ri
  cases e:Mini.K3 i l.length with
  | none=>rw [e] at h;cases h
  | some j =>
   rw [e] at h
   obtain ⟨p1,p2,p3,p4⟩:=rV e
   simp only [Option.bind_some] at h
   obtain ⟨z,hz',rz⟩:=rs.get h
   have hl9:l.length=vs.length:=rs.length
   refine tail_any (T := "tuple") ht.typeIs F.slot_tuple_getitem.lookup (PyProof.Rows.getItem_tuple ht (by lia) (by lia) (j:=j) ?_ ?_ (k _ s.toks rz (A4 _))) hs
   ·rw [List.size_toArray,<- hl9];exact p1
   ·simpa using hz'
 | frz l =>
  replace h:(Mini.K3 i l.length).bind (fun k=>(l[k]?).map V.int)=some v:=h
  obtain ⟨hz,a,vs,rfl,ht,rs⟩:=bU ro
  obtain ⟨u,rfl⟩:=E3 ri
  have rs':C5 X.h₀ φ s.heap (l.map V.int) vs:=rs.rels
  have hl9:l.length=vs.length:=by simpa using rs'.length
  have hL:s.heap.IsList a vs.toArray:=by obtain ⟨o,ho,r⟩:=ht;exact ⟨o,O.base _ _ ho,r⟩
  cases e:Mini.K3 i l.length with
  | none=>rw [e] at h;cases h
  | some j =>
   rw [e] at h
   simp only [Option.bind_some] at h
   have h':(l.map V.int)[j]? = some v:=by simpa using h
   obtain ⟨z,hz',rz⟩:=rs'.get h'
   exact tail_any (T := "list") hL.typeIs F.slot_list_getitem.lookup (bG hL (by exact Mini.M4 (Mini.M9 (Nat.le_of_eq hl9.symm) hz)) (by rw [<- hl9];exact e) hz' (k _ s.toks rz (A4 _))) hs
 | ref a =>
  replace h:(H[a]?).bind (fun l=>(Mini.K3 i l.length).bind fun k=>l[k]?)=some v:=h
  obtain ⟨p,hp,rfl⟩:=K1 ro
  obtain ⟨u,rfl⟩:=E3 ri
  cases e0:H[a]? with
  | none=>rw [e0] at h;cases h
  | some l =>
   rw [e0] at h
   simp only [Option.bind_some] at h
   obtain ⟨vs,hpl,rs⟩:=O.lists _ _ _ hp e0
   have hz:=O.small l (B9 e0)
   have hl9:l.length=vs.length:=rs.length
   cases e:Mini.K3 i l.length with
   | none=>rw [e] at h;cases h
   | some j =>
    rw [e] at h
    simp only [Option.bind_some] at h
    obtain ⟨z,hz',rz⟩:=rs.get h
    exact tail_any (T := "list") hpl.isList.typeIs F.slot_list_getitem.lookup (bG hpl.isList (by exact Mini.M4 (Mini.M9 (Nat.le_of_eq hl9.symm) hz)) (by rw [<- hl9];exact e) hz' (k _ s.toks rz (A4 _))) hs
 | _=>exact nomatch (show Option.none=some v from h)
theorem Ba7 {gl sc nm e re}(h:Mini.D0 gl sc nm e re=true) (o i:Value):subscripted re false o i=operate [o,i] (getItem o i):=by
 have h:=(Mini.jN h).form
 cases re<;>first | rfl | nomatch h
set_option tactic.hygienic true in
theorem By9 {o i:Mini.E}(ho:E1 X A C o) (hi:E1 X A C i):E1 X A C (.idx o i):=by
 intro re env nm ρ Q H φ s K EX hc L O h k
 refine Mini.Cb7 hc fun o' i' p e9 hc9=>?_
 clear hc;subst e9
 ·simp only [Bool.and_eq_true] at hc9
  replace h:=Mini.Bi9 h
  refine Subscript_ (ho _ env nm ρ _ H φ s _ EX hc9.1 L O h fun a H1 φ1 x1 s1 q1 F1 r1=>?_)
  refine hi _ env nm ρ _ H1 φ1 s1 _ EX hc9.2 (L.fwd O F1) F1.ok q1 fun b H2 φ2 x2 s2 q2 F2 r2=>?_
  unfold Mini.val at q2
  split at q2
  ·rename_i v e
   exact Bm9 (Ba7 hc9.2 _ _) F2.ok (F2.val F1.ok r1) r2 e fun z tk rz ht=>k _ _ _ _ _ q2 ((F1.trans F2).trans (I7.tok F2.ok ht)) rz
  ·exact q2.elim
end
end MiniS
namespace MiniS
open PySem PySem.Calls PyProof.Rows
open Mini (V D)
noncomputable def pv:Option (Int×Tok)->Value
 | none=>.none
 | some (i,t)=>.int i t
theorem lU (v:Option (Int×Tok)):IsPart (pv v) (v.map (·.1)):=by
 cases v with
 | none=>exact .none
 | some v=>exact .int _ _
theorem iR {vs:List Value}(h:vs.length<=Mini.I8):sizeOk (.seq vs.toArray):=by
 show vs.toArray.size<=_
 have:sizeLine=Mini.I8:=F9
 simp;exact Mini.M4 (Mini.M9 h (Nat.le_of_eq this.symm))
section
variable {X:Cx}{A:Around}{C:Mini.Calls}
theorem nN {o:V}{x:Value}{lo hi:Option (Int×Tok)}{Q:V->Mini.Heap->Prop}{H:Mini.Heap}{φ:List Addr}{s:Shared}{K EX:Value->Shared->Prop}{value:Expr}{lx hx:Option Expr}{p:Pos}
  (O:Ok X.h₀ φ H s.heap) (ro:E7 X.h₀ φ s.heap o x) (h:Mini.res (Mini.dL o (lo.map (·.1)) (hi.map (·.1)) H) Q) (k:U0 X Q φ s K) :
  wpAny (M7 X) A (subscriptTail value (.Slice lx hx none p) x (.ref s.heap.objs.size)) K EX { s with heap:=s.heap.push { cls:=.type "slice",data:=.fields #[pv lo,pv hi,.none] } }:=by
 have F0:I7 X.h₀ φ s φ H { s with heap:=s.heap.push { cls:=.type "slice",data:=.fields #[pv lo,pv hi,.none] } }:=I7.push O
 have ro':=F0.val O ro
 cases o with
 | str l =>
  have hz:=len_str ro
  obtain ⟨t,rfl⟩:=H5 ro
  refine free (tail_any (typeIs_str _ _ _) F.slot_str_getitem.lookup (ops:=[.ref s.heap.objs.size,_]) (wpAny_getItem_str_slice (l:=lo) (u:=hi) (st:=none) ⟨_,Heap.get?_push_size _ rfl,rfl,?_⟩ rfl
   (post_val_or_str ⟨?_,fun t' k' ht=>?_⟩)) rfl)
  ·cases lo<;>cases hi<;>rfl
  ·have:(Txt.slice ⟨l.toArray⟩ (lo.map (·.1)) (hi.map (·.1))).length<=sizeLine:=by
    refine A3 (Txt.slice_le _ _ _) ?_
    rw [F9];simpa [Str.length] using hz
   exact this
  ·refine k _ _ _ _ _ h (F0.trans (I7.tok F0.ok ht)) (lV (Ad3 _ _ _) ?_)
   exact A3 (iQ _ _ _) hz
 | frz l =>
  obtain ⟨hz,a,vs,rfl,ht,rs⟩:=bU ro
  have rs':C5 X.h₀ φ (s.heap.push { cls:=.type "slice",data:=.fields #[pv lo,pv hi,.none] }) (l.map V.int) vs:=rs.rels
  have hL:(s.heap.push { cls:=.type "slice",data:=.fields #[pv lo,pv hi,.none] }).IsList a vs.toArray:=by
   obtain ⟨o,ho,r⟩:=ht;exact ⟨o,Heap.get?_push_of_some _ (O.base _ _ ho),r⟩
  have hl9:l.length=vs.length:=by simpa using rs'.length
  have F1:=I7.alloc (n:=0) (tk:=s.toks) F0.ok (rs'.slice (lo.map (·.1)) (hi.map (·.1))) (by
   refine A3 (iQ _ _ _) ?_;simpa using hz)
  refine tail_any (T := "list") (ops:=[.ref s.heap.objs.size,_]) (Heap.IsList.typeIs (s:={ s with heap:=s.heap.push { cls:=.type "slice",data:=.fields #[pv lo,pv hi,.none] } }) hL) F.slot_list_getitem.lookup
   (wpAny_getItem_list_slice hL (Heap.IsSliceOf.new ..) (lU lo) (lU hi) .none (by simp) ?_ ?_) rfl
  ·rw [gT]
   rw [Ba6] at F1
   exact k _ _ _ _ _ h (F0.trans F1) (eN (by rw [<- O.len];simp))
  ·rw [F9];simp [<- hl9];exact hz
 | ref a =>
  obtain ⟨q,hq,rfl⟩:=K1 ro
  replace h:Mini.res ((H[a]?).map fun l=>(.ref H.length,H++[Mini.slice l (lo.map (·.1)) (hi.map (·.1))])) Q:=h
  cases e0:H[a]? with
  | none=>rw [e0] at h;exact h.elim
  | some l =>
   rw [e0] at h
   obtain ⟨vs,hpl,rs⟩:=F0.ok.lists _ _ _ hq e0
   have hz:=O.small l (B9 e0)
   have hl9:l.length=vs.length:=rs.length
   have F1:=I7.alloc (n:=0) (tk:=s.toks) F0.ok (rs.slice (lo.map (·.1)) (hi.map (·.1))) (A3 (iQ _ _ _) hz)
   refine tail_any (T := "list") (ops:=[.ref s.heap.objs.size,_]) (Heap.IsList.typeIs (s:={ s with heap:=s.heap.push { cls:=.type "slice",data:=.fields #[pv lo,pv hi,.none] } }) hpl.isList) F.slot_list_getitem.lookup
    (wpAny_getItem_list_slice hpl.isList (Heap.IsSliceOf.new ..) (lU lo) (lU hi) .none (by simp) ?_ ?_) rfl
   ·rw [gT]
    exact k _ _ _ _ _ h (F0.trans F1) (eN (by rw [<- O.len];simp))
   ·rw [F9];simp [<- hl9];exact hz
 | _=>exact False.elim h
theorem Bx8 {o l r:Mini.E}(ho:E1 X A C o) (hl:E1 X A C l) (hr:E1 X A C r):E1 X A C (.slc o l r):=by
 intro re env nm ρ Q H φ s K EX hc L O h k
 refine Mini.Cb2 hc fun o' l' u' q p e9 hc9=>?_
 clear hc;subst e9
 ·simp only [Bool.and_eq_true] at hc9
  obtain ⟨⟨h1,h2⟩,h3⟩:=hc9
  replace h:=Mini.Bi5 h
  refine Subscript_ (ho _ env nm ρ _ H φ s _ EX h1 L O h fun a H1 φ1 x1 s1 q1 F1 r1=>?_)
  refine wpAny_Slice ?_
  rw [evalPart_some,evalPart_some,evalPart_none]
  refine hl _ env nm ρ _ H1 φ1 s1 _ EX h2 (L.fwd O F1) F1.ok q1 fun b H2 φ2 x2 s2 q2 F2 r2=>?_
  refine hr _ env nm ρ _ H2 φ2 s2 _ EX h3 ((L.fwd O F1).fwd F1.ok F2) F2.ok q2 fun c H3 φ3 x3 s3 q3 F3 r3=>?_
  refine wpAny_pure ?_
  cases b with
  | int i =>
   cases c with
   | int j =>
   obtain ⟨t,rfl⟩:=E3 r2
   obtain ⟨u,rfl⟩:=E3 r3
   exact nN (lo:=some (i,t)) (hi:=some (j,u)) F3.ok (F3.val F2.ok (F2.val F1.ok r1)) q3 (k.after ((F1.trans F2).trans F3))
   | _=>exact False.elim q3
  | _=>exact False.elim q3
theorem Bm1 {o l:Mini.E}(ho:E1 X A C o) (hl:E1 X A C l):E1 X A C (.slcL o l):=by
 intro re env nm ρ Q H φ s K EX hc L O h k
 refine Mini.Bq0 hc fun o' l' q p e9 hc9=>?_
 clear hc;subst e9
 ·simp only [Bool.and_eq_true] at hc9
  obtain ⟨h1,h2⟩:=hc9
  replace h:=Mini.Av1 h
  refine Subscript_ (ho _ env nm ρ _ H φ s _ EX h1 L O h fun a H1 φ1 x1 s1 q1 F1 r1=>?_)
  refine wpAny_Slice ?_
  rw [evalPart_some,evalPart_none]
  refine hl _ env nm ρ _ H1 φ1 s1 _ EX h2 (L.fwd O F1) F1.ok q1 fun b H2 φ2 x2 s2 q2 F2 r2=>?_
  refine wpAny_pure (wpAny_pure ?_)
  cases b with
  | int i =>
   obtain ⟨t,rfl⟩:=E3 r2
   exact nN (lo:=some (i,t)) (hi:=none) F2.ok (F2.val F1.ok r1) q2 (k.after (F1.trans F2))
  | _=>exact False.elim q2
theorem Bm2 {o l:Mini.E}(ho:E1 X A C o) (hl:E1 X A C l):E1 X A C (.slcH o l):=by
 intro re env nm ρ Q H φ s K EX hc L O h k
 refine Mini.Bq1 hc fun o' u' q p e9 hc9=>?_
 clear hc;subst e9
 ·simp only [Bool.and_eq_true] at hc9
  obtain ⟨h1,h2⟩:=hc9
  replace h:=Mini.Av2 h
  refine Subscript_ (ho _ env nm ρ _ H φ s _ EX h1 L O h fun a H1 φ1 x1 s1 q1 F1 r1=>?_)
  refine wpAny_Slice ?_
  rw [evalPart_some,evalPart_none]
  refine wpAny_pure ?_
  refine hl _ env nm ρ _ H1 φ1 s1 _ EX h2 (L.fwd O F1) F1.ok q1 fun b H2 φ2 x2 s2 q2 F2 r2=>?_
  refine wpAny_pure ?_
  cases b with
  | int i =>
   obtain ⟨t,rfl⟩:=E3 r2
   exact nN (lo:=none) (hi:=some (i,t)) F2.ok (F2.val F1.ok r1) q2 (k.after (F1.trans F2))
  | _=>exact False.elim q2
theorem O9 {gl sc nm e re}(h:Mini.D0 gl sc nm e re=true) (rest:List Expr) (env:Env):starEach (re::rest) env=(false,eval re env)::starEach rest env:=by
 have h:=(Mini.jN h).form
 cases re<;>first | rfl | nomatch h
noncomputable def Au8 (ps:Bool) (es:List Mini.E) (xs:List Value) (tk:Nat):Prop:=ps=true->∀ (j:Nat) (l:List Nat),es[j]? = some (.str l)->∀ x,xs[j]? = some x->∃ y t,x=.str y t/\0<t/\t<tk
theorem uZ {re:Expr}{env:Env}{nm:List Str}{l:List Nat}{s:Shared}{K EX:Value->Shared->Prop}(hc:Mini.D0 X.gl env.scope.names nm (.str l) re=true)
  (k:K (.str ⟨l.toArray⟩ s.toks) { s with toks:=s.toks+1 }):wpAny (M7 X) A (eval re env) K EX s:=by
 refine Mini.vH hc fun x k9 p e9 hx9 hl=>?_
 clear hc;subst e9
 ·subst hx9
  exact Constant_str (by simpa using k)
theorem uY {l:List Nat}{ρ:Mini.D7}{Q:V->Mini.Heap->Prop}{H:Mini.Heap}(h:Mini.D9 C (.str l) ρ Q H):Q (.str l) H:=h
theorem At9 {re:Expr}{env:Env}{nm:List Str}{l:List Nat}(hc:Mini.D0 X.gl env.scope.names nm (.str l) re=true):l.length<=Mini.I8:=by
 exact Mini.vH hc fun x k9 p e9 hx9 hl=>hl
theorem Y8:∀ (es:List Mini.E) (res:List Expr) (env:Env) (nm:List Str) (ρ:Mini.D7) (Q:List V->Mini.Heap->Prop) (H:Mini.Heap) (φ:List Addr) (s:Shared) (K:List Value->Shared->Prop) (EX:Value->Shared->Prop) (p:Pos),
  eI X A C es->Mini.J7 X.gl env.scope.names nm es res=true->H9 X φ nm env ρ s->Ok X.h₀ φ H s.heap->Mini.R7 C es ρ Q H ->
  (∀ vs H' φ' xs s',Q vs H'->I7 X.h₀ φ s φ' H' s'->C5 X.h₀ φ' s'.heap vs xs->vs.length=es.length->Au8 X.gl.pos es xs s'.toks->K xs s') ->
  wpAny (M7 X) A (spliced (backTo p (starEach res env))) K EX s
 | [],res,env,nm,ρ,Q,H,φ,s,K,EX,p,_,hc,L,O,h,k=>by
  obtain rfl:=Mini.Ao1 hc
  ·replace h:=Mini.Cl2 h
   exact args_nil (k _ _ _ _ _ h (I7.refl O) C5.nil rfl (fun zz j l e=>by simp at e))
 | e::es,res,env,nm,ρ,Q,H,φ,s,K,EX,p,hs,hc,L,O,h,k=>by
  obtain ⟨re,res,e9,hc9⟩:=Mini.Ae6 hc
  clear hc;subst e9
  have hc:=hc9
  clear hc9
  ·
   replace h:=Mini.Av5 h
   by_cases hlit:∃ l,e=.str l
   ·obtain ⟨l,rfl⟩:=hlit
    refine args_cons (uZ hc.1 ?_) (O9 hc.1 _ _)
    have F1:I7 X.h₀ φ s φ H { s with toks:=s.toks+1 }:=I7.tok O
    refine Y8 es res env nm ρ _ H φ _ _ EX p (fun e' he'=>hs e' (List.mem_cons_of_mem _ he')) hc.2 (L.fwd O F1) F1.ok (uY h) fun vs H2 φ2 xs s2 q2 F2 r2 hl hla=>?_
    refine k _ _ _ _ _ q2 (F1.trans F2) (C5.cons (F2.val F1.ok (aH (At9 hc.1))) r2) (by simp [hl]) ?_
    intro hps j l' e x hx
    cases j with
    | zero =>
     simp at hx;subst hx
     exact ⟨_,_,rfl,L.pos hps,F2.step.toks⟩
    | succ j=>exact hla hps j l' (by simpa using e) x (by simpa using hx)
   ·refine args_cons (hs e (by simp) _ env nm ρ _ H φ s _ EX hc.1 L O h fun v H1 φ1 x1 s1 q1 F1 r1=>?_) (O9 hc.1 _ _)
    refine Y8 es res env nm ρ _ H1 φ1 s1 _ EX p (fun e' he'=>hs e' (List.mem_cons_of_mem _ he')) hc.2 (L.fwd O F1) F1.ok q1 fun vs H2 φ2 xs s2 q2 F2 r2 hl hla=>?_
    refine k _ _ _ _ _ q2 (F1.trans F2) (C5.cons (F2.val F1.ok r1) r2) (by simp [hl]) ?_
    intro hps j l' e' x hx
    cases j with
    | zero=>simp at e';exact absurd ⟨l',e'⟩ hlit
    | succ j=>exact hla hps j l' (by simpa using e') x (by simpa using hx)
theorem Bm7 {es:List Mini.E}(hs:eI X A C es):E1 X A C (.list es):=by
 intro re env nm ρ Q H φ s K EX hc L O h k
 refine Mini.Bq4 hc fun res p e9 hc9=>?_
 clear hc;subst e9
 ·simp only [Bool.and_eq_true,decide_eq_true_eq] at hc9
  replace h:=Mini.Ca5 h
  show wpAny (M7 X) A (do standAt p;newList (<- spliced (backTo p (starEach res env)))) K EX s
  refine wpAny_bind (wpAny_standAt (wpAny_bind (Y8 es res env nm ρ _ H φ s _ EX p hs hc9.1 L O h fun vs H1 φ1 xs s1 q1 F1 r1 hl zz=>?_)))
  have F2:=I7.alloc (n:=0) (tk:=s1.toks) F1.ok r1 (by rw [hl];exact hc9.2)
  exact wpAny_newObj_type (hd:=iR (by rw [<- r1.length,hl];exact hc9.2)) (k _ _ _ _ _ q1 (F1.trans F2) (eN (by rw [<- F1.ok.len];simp)))
theorem Ck5 {h₀ φ h}{l:List V}{vs:List Value}{a:Addr}(hl:l.length<=Mini.I8) (ht:IsTup h a vs.toArray) (r:C5 h₀ φ h l vs):E7 h₀ φ h (.tup l) (.ref a):=by
 exact ⟨hl,a,vs,rfl,ht,r⟩
theorem Bx6 {es:List Mini.E}(hs:eI X A C es):E1 X A C (.tup es):=by
 intro re env nm ρ Q H φ s K EX hc L O h k
 refine Mini.Cb1 hc fun res k9 p e9 hc9=>?_
 clear hc;subst e9
 ·simp only [Bool.and_eq_true,decide_eq_true_eq] at hc9
  replace h:=Mini.Ck9 h
  show wpAny (M7 X) A (do standAt p;newTuple (<- spliced (backTo p (starEach res env)))) K EX s
  refine wpAny_bind (wpAny_standAt (wpAny_bind (Y8 es res env nm ρ _ H φ s _ EX p hs hc9.1 L O h fun vs H1 φ1 xs s1 q1 F1 r1 hl zz=>?_)))
  have F2:I7 X.h₀ φ1 s1 φ1 H1 { s1 with heap:=s1.heap.push { cls:=.type "tuple",data:=.seq xs.toArray } }:=I7.push F1.ok
  refine wpAny_newObj_type (hd:=iR (by rw [<- r1.length,hl];exact hc9.2)) (k _ _ _ _ _ q1 (F1.trans F2) (Ck5 (by rw [hl];exact hc9.2) ?_ (F2.vals F1.ok r1)))
  exact ⟨_,Heap.get?_push_size _ rfl,rfl,0,rfl⟩
end
end MiniS
namespace MiniS
open PySem PySem.Calls PyProof.Rows
open Mini (V D)
section
variable {X:Cx}{A:Around}{C:Mini.Calls}
noncomputable def iE (X:Cx) (A:Around) (C:Mini.Calls):Prop :=
 ∀ (f:String) (ls:List Nat) (fa:Addr) (vs:List V) (Q:V->Mini.Heap->Prop) (H:Mini.Heap) (φ:List Addr) (s:Shared) (xs:List Value) (K EX:Value->Shared->Prop),
  X.gl.fns.lookup f=some ls->X.mg (Str.ofString f)=some (.ref fa)->C f vs Q H->Ok X.h₀ φ H s.heap->C5 X.h₀ φ s.heap vs xs->(X.gl.pos=true->0<s.toks∨∃ fn,X.P f=some fn/\fn.bump=true) ->
  (∀ j∈ls,∀ x,xs[j]? = some x->∃ y t,x=.str y t/\0<t/\t<s.toks)->U0 X Q φ s K->wpAny (M7 X) A (call (.ref fa) xs) K EX s
theorem aW {f:Value}{es:List Mini.E}{res:List Expr}{env:Env}{nm:List Str}{s:Shared}{p:Pos}{Q:Args->Shared->Prop}{EX:Value->Shared->Prop}
  (hc:Mini.J7 X.gl env.scope.names nm es res=true) (h:wpAny (M7 X) A (spliced (backTo p (starEach res env))) (fun vs s'=>Q ⟨vs,[]⟩ s') EX s) :
  wpAny (M7 X) A (evalArgs f true (backTo p (starEach res env)) []) Q EX s:=by
 cases res with
 | nil =>
  exact fun Γ p hΓ=>h Γ p hΓ
 | cons re res =>
  cases es with
  | nil=>nomatch hc
  | cons e es =>
   replace hc:=Mini.D1 hc
   rw [O9 hc.1] at h ⊢
   exact evalArgs_plain h
theorem iY:∀ {es:List Mini.E}{res:List Expr}{env:Env}{nm:List Str}{p:Pos},Mini.J7 X.gl env.scope.names nm es res=true->(backTo p (starEach res env)).any (·.1)=false
 | [],[],_,_,_,_=>rfl
 | [],_::_,_,_,_,h=>nomatch h
 | _::_,[],_,_,_,h=>nomatch h
 | e::es,re::res,env,nm,p,h=>by
  replace h:=Mini.D1 h
  rw [O9 h.1]
  show (false||(backTo p (starEach res env)).any (·.1))=false
  rw [iY h.2];rfl
theorem iZ:∀ {es:List Mini.E}{res:List Expr}{env:Env}{nm:List Str}{p:Pos},Mini.J7 X.gl env.scope.names nm es res=true->(backTo p (starEach res env)).all (fun x=>!x.1)=true
 | [],[],_,_,_,_=>rfl
 | [],_::_,_,_,_,h=>nomatch h
 | _::_,[],_,_,_,h=>nomatch h
 | e::es,re::res,env,nm,p,h=>by
  replace h:=Mini.D1 h
  rw [O9 h.1]
  show (!false&&(backTo p (starEach res env)).all (fun x=>!x.1))=true
  rw [iZ h.2];rfl
theorem Au5:∀ {es:List Mini.E}{res:List Expr}{gl:Mini.Gl}{sc:List (Str×NameKind)}{nm:List Str},Mini.J7 gl sc nm es res=true->res.length=es.length
 | [],[],_,_,_,_=>rfl
 | [],_::_,_,_,_,h=>nomatch h
 | _::_,[],_,_,_,h=>nomatch h
 | e::es,re::res,gl,sc,nm,h=>by
  replace h:=Mini.D1 h
  simp [Au5 h.2]
theorem Bn8 (G:iB X) (hC:iE X A C) {f:String}{es:List Mini.E}(hs:eI X A C es):E1 X A C (.call f es):=by
 intro re env nm ρ Q H φ s K EX hc L O h k
 refine Mini.Br0 hc fun id p0 res p e9 hc9=>?_
 clear hc;subst e9
 ·simp only [Bool.and_eq_true,beq_iff_eq] at hc9
  obtain ⟨⟨⟨⟨h1,h2⟩,h3⟩,h4⟩,h5⟩:=hc9
  subst h1
  simp only [Mini.R9,Bool.and_eq_true,Bool.not_eq_true'] at h4
  unfold Mini.Ak2 at h2
  cases hls:X.gl.fns.lookup f with
  | none=>rw [hls] at h2;cases h2
  | some ls =>
   rw [hls] at h2
   obtain ⟨fn,fa,o,params,body,scope,pm,cd,doc,hP,hl,hm,ho,hd,hcd,hck⟩:=G.fns f ls hls
   replace h:=Mini.Ca7 h
   refine wpAny_Call_NameR (rW G L O h3 h4.1 hm ?_)
   refine callWith_function (o:=o) (fd:=docDef (Str.ofString f) params body scope pm cd doc) (aW h5 (Y8 es res env nm ρ _ H φ s _ EX p hs h5 L O h fun vs H1 φ1 xs s1 q1 F1 r1 hle hla=>?_))
   refine ⟨⟨F1.ok.base _ _ ho,hd⟩,?_⟩
   refine hC f ls fa vs Q H1 φ1 s1 xs K EX hls hm q1 F1.ok r1 (fun hp=>Or.inl (A8 (L.pos hp) F1.step.toks)) (fun j hj x hx=>?_) (k.after F1)
   simp only [Bool.and_eq_true,Bool.or_eq_true] at h2
   have hps:X.gl.pos=true:=by
    rcases h2.1 with q | q
    ·exact q
    ·rw [List.isEmpty_iff] at q;subst q;cases hj
   have:=List.all_eq_true.mp h2.2 j hj
   cases he:es[j]? with
   | none=>rw [he] at this;cases this
   | some e =>
    rw [he] at this
    obtain ⟨l9,rfl⟩:=Mini.vE this
    exact hla hps j _ he x hx
theorem cN {sc:List (Str×NameKind)}{n:String}{e:Expr}(h:Mini.P8 sc n e=true):∃ p,e=.Name (Str.ofString n) p/\Mini.V6 sc (Str.ofString n)=true:=by
 refine Mini.N3 h fun id p e9 h=>?_
 have e8:=eq_of_beq (Mini.D1 h).1
 subst e8
 exact ⟨p,e9,(Mini.D1 h).2⟩
theorem At8 (G:iB X) {env:Env}{nm:List Str}{ρ:Mini.D7}{φ:List Addr}{H:Mini.Heap}{s:Shared}{K EX:Value->Shared->Prop}{n:String}{e:Expr}(hn:n∈bN)
  (L:H9 X φ nm env ρ s) (O:Ok X.h₀ φ H s.heap) (h:Mini.P8 env.scope.names n e=true) (k:K (.builtin n) s):wpAny (M7 X) A (eval e env) K EX s:=by
 obtain ⟨p,rfl,hg⟩:=cN h
 refine yS G L O hg ?_ (G.bf n hn).1 (G.bf n hn).2 k
 simp only [bN,List.mem_cons,List.not_mem_nil,or_false] at hn
 rcases hn with rfl | rfl | rfl | rfl<;>decide +kernel
theorem At7 (G:iB X) {env:Env}{nm:List Str}{ρ:Mini.D7}{φ:List Addr}{H:Mini.Heap}{s:Shared}{K EX:Value->Shared->Prop}{n:String}{e:Expr}(hn:n∈bM)
  (L:H9 X φ nm env ρ s) (O:Ok X.h₀ φ H s.heap) (h:Mini.P8 env.scope.names n e=true) (k:K (.type n) s):wpAny (M7 X) A (eval e env) K EX s:=by
 obtain ⟨p,rfl,hg⟩:=cN h
 refine yS G L O hg ?_ (G.bt n hn).1 (G.bt n hn).2 k
 simp only [bM,List.mem_cons,List.not_mem_nil,or_false] at hn
 rcases hn with rfl | rfl | rfl | rfl | rfl | rfl | rfl<;>decide +kernel
theorem fn1 (G:iB X) {n:String}{fn re:Expr}{e:Mini.E}{env:Env}{nm:List Str}{ρ:Mini.D7}{φ:List Addr}{H:Mini.Heap}{s:Shared}{K EX:Value->Shared->Prop}{p:Pos}{Q:V->Mini.Heap->Prop}(hn:n∈bN)
  (he:E1 X A C e) (hc:Mini.D0 X.gl env.scope.names nm e re=true) (hf:Mini.P8 env.scope.names n fn=true) (L:H9 X φ nm env ρ s) (O:Ok X.h₀ φ H s.heap) (h:Mini.D9 C e ρ Q H)
  (k:∀ v H' φ' x s',Q v H'->I7 X.h₀ φ s φ' H' s'->E7 X.h₀ φ' s'.heap v x->wpAny (M7 X) A (call (.builtin n) [x]) K EX s') :
  wpAny (M7 X) A (eval (.Call fn [re] [] p) env) K EX s:=by
 obtain ⟨p0,rfl,hg⟩:=cN hf
 refine wpAny_Call_NameR (At8 G hn L O hf ?_)
 refine PyProof.Rows.callWith_builtin1 (args_cons (he _ env nm ρ _ H φ s _ EX hc L O h fun v H1 φ1 x1 s1 q1 F1 r1=>args_nil (k v H1 φ1 x1 s1 q1 F1 r1)) (O9 hc _ _)) (O9 hc _ _)
theorem ty1 (G:iB X) {n:String}{fn re:Expr}{e:Mini.E}{env:Env}{nm:List Str}{ρ:Mini.D7}{φ:List Addr}{H:Mini.Heap}{s:Shared}{K EX:Value->Shared->Prop}{p:Pos}{Q:V->Mini.Heap->Prop}(hn:n∈bM)
  (he:E1 X A C e) (hc:Mini.D0 X.gl env.scope.names nm e re=true) (hf:Mini.P8 env.scope.names n fn=true) (L:H9 X φ nm env ρ s) (O:Ok X.h₀ φ H s.heap) (h:Mini.D9 C e ρ Q H)
  (k:∀ v H' φ' x s',Q v H'->I7 X.h₀ φ s φ' H' s'->E7 X.h₀ φ' s'.heap v x->wpAny (M7 X) A (call (.type n) [x]) K EX s') :
  wpAny (M7 X) A (eval (.Call fn [re] [] p) env) K EX s:=by
 obtain ⟨p0,rfl,hg⟩:=cN hf
 refine wpAny_Call_NameR (At7 G hn L O hf ?_)
 refine PyProof.Rows.callWith_type1 (args_cons (he _ env nm ρ _ H φ s _ EX hc L O h fun v H1 φ1 x1 s1 q1 F1 r1=>args_nil (k v H1 φ1 x1 s1 q1 F1 r1)) (O9 hc _ _)) (O9 hc _ _)
set_option tactic.hygienic true in
theorem By6 (G:iB X) {e:Mini.E}(he:E1 X A C e):E1 X A C (.len e):=by
 intro re env nm ρ Q H φ s K EX hc L O h k
 have hlim:Mini.I8=16777216:=rfl
 refine Mini.cP hc fun fn e' p e9 hf9 hc9=>?_
 clear hc;subst e9
 ·replace h:=Mini.Cl1 h
  refine fn1 G (by decide) he hc9 hf9 L O h fun v H1 φ1 x s1 q F1 r=>?_
  unfold Mini.val at q
  split at q
  ·rename_i w e
   obtain ⟨i,e1,rfl⟩:=Option.map_eq_some_iff.mp e
   cases v with
   | str a0 =>
    cases e1
    have hz:=len_str r
    obtain ⟨t,rfl⟩:=H5 r
    refine P.len_str (by simp [Str.length];exact Int.ofNat_lt.mpr (Mini.M4 (Mini.M9 hz (Nat.le_of_eq hlim)))) (k _ _ _ _ _ q (F1.trans (I7.tok F1.ok)) ?_)
    simpa [Str.length] using P6
   | tup a0 =>
    cases e1
    have hz:=Au0 r
    obtain ⟨a,vs,rfl,ht,rs⟩:=gD r
    have:=rs.length
    refine PyProof.Rows.len_tuple ht (by simp;exact Int.ofNat_lt.mpr (Mini.M4 (Mini.M9 (Nat.le_of_eq this.symm) (Mini.M9 hz (Nat.le_of_eq hlim))))) (k _ _ _ _ _ q (F1.trans (I7.tok F1.ok)) ?_)
    simpa [this] using P6
   | frz a0 =>
    cases e1
    obtain ⟨hz,a,vs,rfl,ht,rs⟩:=bU r
    have rs':C5 X.h₀ φ1 s1.heap (_:List V) vs:=rs.rels
    have:=rs'.length
    simp at this
    have hL:s1.heap.IsList a vs.toArray:=by obtain ⟨o,ho,r⟩:=ht;exact ⟨o,F1.ok.base _ _ ho,r⟩
    refine call_len_list hL (by simp;exact Int.ofNat_lt.mpr (Mini.M4 (Mini.M9 (Nat.le_of_eq this.symm) (Mini.M9 hz (Nat.le_of_eq hlim))))) (k _ _ _ _ _ q (F1.trans (I7.tok F1.ok)) ?_)
    simpa [this] using P6
   | ref a =>
    replace e1:(H1[a]?).map (fun l=>(l.length:Int))=some i:=e1
    cases e0:H1[a]? with
    | none=>rw [e0] at e1;cases e1
    | some l =>
     rw [e0] at e1
     simp at e1;subst e1
     obtain ⟨p,hp,rfl⟩:=K1 r
     obtain ⟨vs,hpl,rs⟩:=F1.ok.lists _ _ _ hp e0
     have hz:=F1.ok.small l (B9 e0)
     have:=rs.length
     refine call_len_list hpl.isList (by simp;exact Int.ofNat_lt.mpr (Mini.M4 (Mini.M9 (Nat.le_of_eq this.symm) (Mini.M9 hz (Nat.le_of_eq hlim))))) (k _ _ _ _ _ q (F1.trans (I7.tok F1.ok)) ?_)
     simpa [this] using P6
   | _=>exact nomatch (show Option.none=some _ from e1)
  ·exact q.elim
theorem By1 (G:iB X) {e:Mini.E}(he:E1 X A C e):E1 X A C (.ord e):=by
 intro re env nm ρ Q H φ s K EX hc L O h k
 refine Mini.cP hc fun fn e' p e9 hf9 hc9=>?_
 clear hc;subst e9
 ·replace h:=Mini.Bi7 h
  refine fn1 G (by decide) he hc9 hf9 L O h fun v H1 φ1 x s1 q F1 r=>?_
  obtain ⟨c,rfl,q⟩:=Mini.Q2 (Mini.Cg7 q)
  ·obtain ⟨t,rfl⟩:=H5 r
   exact P.ord_of_char (k _ _ _ _ _ q (F1.trans (I7.tok F1.ok)) P6)
theorem Az8 (G:iB X) {e:Mini.E}(he:E1 X A C e):E1 X A C (.toInt e):=by
 intro re env nm ρ Q H φ s K EX hc L O h k
 refine Mini.cP hc fun fn e' p e9 hf9 hc9=>?_
 clear hc;subst e9
 ·replace h:=Mini.zF h
  refine ty1 G (by decide) he hc9 hf9 L O h fun v H1 φ1 x s1 q F1 r=>?_
  cases v with
  | bool b0 =>
   obtain rfl:=U5 r
   exact call_int_bool (k _ _ _ _ _ q (F1.trans (I7.tok F1.ok)) P6)
  | _=>exact False.elim q
theorem bW {T:String}{s:Shared}{K EX:Value->Shared->Prop}(hne:(Value.type "NoneType" == Value.type T)=false) (hty:typeOf (.type T)=pure (.type "type")) (hsub:isSubtype (.type "NoneType") (.type T)=pure false)
  (h:K (.bool false) { s with toks:=s.toks+1 }):wpAny (M7 X) A (call (.builtin "isinstance") [.none,.type T]) K EX s :=
 call_isinstance (isinstance_false_none hne hty hsub) h
theorem wG:isSubtype (.type "NoneType") (.type "str")=pure false:=by rw [isSubtype_type];kernel_rfl
theorem wH:isSubtype (.type "NoneType") (.type "int")=pure false:=by rw [isSubtype_type];kernel_rfl
theorem qW:isSubtype (.type "NoneType") (.type "bool")=pure false:=by rw [isSubtype_type];kernel_rfl
theorem qV:isSubtype (.type "NoneType") (.type "list")=pure false:=by rw [isSubtype_type];kernel_rfl
theorem qJ:isSubtype (.type "NoneType") (.type "tuple")=pure false:=by rw [isSubtype_type];kernel_rfl
theorem Bp2 {v:V}{x:Value}{t:Mini.Ty}{φ:List Addr}{H:Mini.Heap}{s:Shared}{K EX:Value->Shared->Prop}(O:Ok X.h₀ φ H s.heap) (r:E7 X.h₀ φ s.heap v x)
  (k:∀ tk,s.toks<=tk->K (.bool (Mini.cR v t)) { s with toks:=tk }):wpAny (M7 X) A (call (.builtin "isinstance") [x,.type (Mini.Aj3 t)]) K EX s:=by
 have k0:=k s.toks (A4 _)
 have k1:=k (s.toks+1) (B8 _)
 cases v
 ·obtain rfl:=iP r
  cases t
  ·exact bW (by decide +kernel) F.isi_meta_str wG k1
  ·exact bW (by decide +kernel) F.isi_meta_int wH k1
  ·exact bW (by decide +kernel) F.isi_meta_bool qW k1
  ·exact bW (by decide +kernel) F.isi_meta_list qV k1
  ·exact bW (by decide +kernel) F.isi_meta_tuple qJ k1
 ·obtain rfl:=U5 r
  cases t
  ·exact IsiPair.bool_str k1
  ·exact IsiPair.bool_int k0
  ·exact IsiPair.bool_bool k0
  ·exact IsiPair.bool_list k1
  ·exact IsiPair.bool_tuple k1
 ·obtain ⟨_,rfl⟩:=E3 r
  cases t
  ·exact IsiPair.int_str k1
  ·exact IsiPair.int_int k0
  ·exact IsiPair.int_bool k1
  ·exact IsiPair.int_list k1
  ·exact IsiPair.int_tuple k1
 ·obtain ⟨_,rfl⟩:=H5 r
  cases t
  ·exact IsiPair.str_str k0
  ·exact IsiPair.str_int k1
  ·exact IsiPair.str_bool k1
  ·exact IsiPair.str_list k1
  ·exact IsiPair.str_tuple k1
 ·obtain ⟨a,ha,rfl⟩:=K1 r
  obtain ⟨vs,n,e⟩:=O.mem (B9 ha)
  cases t
  ·exact IsiPair.list_str e rfl k1
  ·exact IsiPair.list_int e rfl k1
  ·exact IsiPair.list_bool e rfl k1
  ·exact IsiPair.list_list e rfl k0
  ·exact IsiPair.list_tuple e rfl k1
 ·obtain ⟨a,vs,rfl,⟨o,e,hc,_⟩,_⟩:=gD r
  cases t
  ·exact IsiPair.tuple_str e hc k1
  ·exact IsiPair.tuple_int e hc k1
  ·exact IsiPair.tuple_bool e hc k1
  ·exact IsiPair.tuple_list e hc k1
  ·exact IsiPair.tuple_tuple e hc k0
 ·obtain ⟨_,a,vs,rfl,⟨o,e,hc,_⟩,_⟩:=bU r
  have e:=O.base _ _ e
  cases t
  ·exact IsiPair.list_str e hc k1
  ·exact IsiPair.list_int e hc k1
  ·exact IsiPair.list_bool e hc k1
  ·exact IsiPair.list_list e hc k0
  ·exact IsiPair.list_tuple e hc k1
theorem Al9 (G:iB X) {e:Mini.E}{t:Mini.Ty}(he:E1 X A C e):E1 X A C (.isinst e t):=by
 intro re env nm ρ Q H φ s K EX hc L O h k
 refine Mini.Ao0 hc fun fn re' ty p e9 hc9=>?_
 clear hc;subst e9
 ·simp only [Bool.and_eq_true] at hc9
  obtain ⟨⟨h1,h2⟩,h3⟩:=hc9
  replace h:=Mini.Bb3 h
  obtain ⟨p0,rfl,hg⟩:=cN h1
  obtain ⟨p1,rfl,hg1⟩:=cN h2
  refine wpAny_Call_NameR (At8 G (by decide) L O h1 ?_)
  refine PyProof.Rows.callWith_builtin1 (args_cons (he _ env nm ρ _ H φ s _ EX h3 L O h fun v H1 φ1 x1 s1 q1 F1 r1=>?_) (O9 h3 _ _)) (O9 h3 _ _)
  refine args_cons (At7 G (by cases t<;>decide) (L.fwd O F1) F1.ok h2 ?_)
  exact args_nil (Bp2 F1.ok r1 fun tk ht=>k _ _ _ _ _ q1 (F1.trans (I7.tok F1.ok ht)) aM)
end
end MiniS
namespace MiniS
open PySem PySem.Calls PyProof.Rows
open Mini (V D)
section
variable {X:Cx}{A:Around}{C:Mini.Calls}
set_option tactic.hygienic true in
theorem Au7 {o:Expr}(h:Mini.xO o=true) (name:Str) (env:Env):attributeBase o name env (eval o env)=eval o env:=by
 cases o<;>try rfl
 rename_i f args kws p
 cases args with
 | cons _ _=>cases f<;>rfl
 | nil=>cases kws with
  | cons _ _=>cases f<;>rfl
  | nil=>nomatch h
theorem Ai2 {o:Mini.E}{o':Expr}{es:List Mini.E}{res:List Expr}{env:Env}{nm:List Str}{ρ:Mini.D7}{φ:List Addr}{H:Mini.Heap}{s:Shared}{K EX:Value->Shared->Prop}{ap p:Pos}{name:Str}{T id:String}
  {Q:V->Mini.Heap->Prop}{Q':V->List V->Mini.Heap->Prop}
  (ho:E1 X A C o) (hs:eI X A C es) (hr:Mini.xO o'=true) (hline:(ap.endLine==p.line)=true) (hc:Mini.D0 X.gl env.scope.names nm o o'=true) (hcs:Mini.J7 X.gl env.scope.names nm es res=true) (hfew:es.length<30)
  (pa:PlainAttrs T) (slot:Slot T name id) (hty:typeOf (.builtin id)=pure (.type "method_descriptor"))
  (L:H9 X φ nm env ρ s) (O:Ok X.h₀ φ H s.heap) (h:Mini.D9 C o ρ Q H)
  (hq:∀ v H',Q v H'->Mini.R7 C es ρ (Q' v) H')
  (hT:∀ v H' φ' x s',Q v H'->I7 X.h₀ φ s φ' H' s'->E7 X.h₀ φ' s'.heap v x->s'.TypeIs x T/\∀ a,x=.ref a->∃ ob,s'.heap.get? a=some ob/\ob.dict=none)
  (k:∀ v vs H' φ' x xs s',Q' v vs H'->I7 X.h₀ φ s φ' H' s'->E7 X.h₀ φ' s'.heap v x->C5 X.h₀ φ' s'.heap vs xs->Au8 X.gl.pos es xs s'.toks->wpAny (M7 X) A (call (.builtin id) (x::xs)) K EX s') :
  wpAny (M7 X) A (eval (.Call (.Attribute o' name ap) res [] p) env) K EX s:=by
 refine wpAny_Call_method (Au7 hr _ _) ?_ hline pa slot hty (ho _ env nm ρ _ H φ s _ EX hc L O h fun v H1 φ1 x s1 q1 F1 r1=>?_)
 ·rw [iZ hcs]
  have:=Au5 hcs
  have h1:decide (res.length+([]:List Keyword).length+(if ([]:List Keyword).isEmpty then 0 else 1)<30)=true:=by
   simp;exact Mini.M4 (Mini.M9 (Nat.le_of_eq this) hfew)
  rw [h1];rfl
 ·refine ⟨(hT v H1 φ1 x s1 q1 F1 r1).1,(hT v H1 φ1 x s1 q1 F1 r1).2,?_⟩
  refine callWith_builtin (iY hcs) (aW hcs (Y8 es res env nm ρ _ H1 φ1 s1 _ EX p hs hcs (L.fwd O F1) F1.ok (hq v H1 q1) fun vs H2 φ2 xs s2 q2 F2 r2 hl hla=>?_))
  exact k v vs H2 φ2 x xs s2 q2 (F1.trans F2) (F2.val F1.ok r1) r2 hla
theorem eT {φ:List Addr}{H:Mini.Heap}{s:Shared}{a:Nat}{x:Value}(O:Ok X.h₀ φ H s.heap) (r:E7 X.h₀ φ s.heap (.ref a) x):s.TypeIs x "list" /\ ∀ b,x=.ref b->∃ ob,s.heap.get? b=some ob/\ob.dict=none:=by
 obtain ⟨p,hp,rfl⟩:=K1 r
 obtain ⟨vs,n,e⟩:=O.mem (B9 hp)
 refine ⟨⟨_,e,rfl⟩,fun b hb=>?_⟩
 cases hb
 exact ⟨_,e,rfl⟩
theorem U6 {φ:List Addr}{s:Shared}{l:List Nat}{x:Value}(r:E7 X.h₀ φ s.heap (.str l) x):s.TypeIs x "str" /\ ∀ b,x=.ref b->∃ ob,s.heap.get? b=some ob/\ob.dict=none:=by
 obtain ⟨t,rfl⟩:=H5 r
 exact ⟨typeIs_str _ _ _,fun b hb=>by cases hb⟩
theorem Bo3:eI X A C []:=fun e he=>by cases he
theorem bV {e:Mini.E}(he:E1 X A C e):eI X A C [e]:=fun e' he'=>by simp at he';subst he';exact he
theorem Bo2 {e e2:Mini.E}(he:E1 X A C e) (he2:E1 X A C e2):eI X A C [e,e2]:=fun e' he'=>by
 simp at he';rcases he' with rfl | rfl<;>assumption
theorem fQ {gl sc nm e re}(h:Mini.D0 gl sc nm e re=true):Mini.J7 gl sc nm [e] [re]=true:=Mini.eY h rfl
theorem lW {gl sc nm e re e2 re2}(h:Mini.D0 gl sc nm e re=true) (h2:Mini.D0 gl sc nm e2 re2=true):Mini.J7 gl sc nm [e,e2] [re,re2]=true:=Mini.eY h (Mini.eY h2 rfl)
noncomputable def one (Q:V->Mini.Heap->Prop) (vs:List V) (H:Mini.Heap):Prop:=match vs with
 | [a]=>Q a H
 | _=>False
noncomputable def two (Q:V->V->Mini.Heap->Prop) (vs:List V) (H:Mini.Heap):Prop:=match vs with
 | [a,b]=>Q a b H
 | _=>False
theorem mX {e:Mini.E}{ρ:Mini.D7}{Q:V->Mini.Heap->Prop}{H:Mini.Heap}(h:Mini.D9 C e ρ Q H):Mini.R7 C [e] ρ (one Q) H:=h
theorem Ck0 {e e2:Mini.E}{ρ:Mini.D7}{Q:V->V->Mini.Heap->Prop}{H:Mini.Heap}(h:Mini.D9 C e ρ (fun v H₁=>Mini.D9 C e2 ρ (Q v) H₁) H):Mini.R7 C [e,e2] ρ (two Q) H:=h
theorem mY {Q:V->Mini.Heap->Prop}{vs:List V}{H:Mini.Heap}(h:one Q vs H):∃ v,vs=[v]/\Q v H:=by
 unfold one at h
 split at h
 ·exact ⟨_,rfl,h⟩
 ·exact h.elim
theorem Ck1 {Q:V->V->Mini.Heap->Prop}{vs:List V}{H:Mini.Heap}(h:two Q vs H):∃ v w,vs=[v,w]/\Q v w H:=by
 unfold two at h
 split at h
 ·exact ⟨_,_,rfl,h⟩
 ·exact h.elim
noncomputable def rL (P:List Nat->Prop) (v:V):Prop:=match v with
 | .str s=>P s
 | _=>False
theorem gF {P:List Nat->Prop}{v:V}(h:rL P v):∃ s,v=.str s/\P s:=by
 unfold rL at h
 split at h
 ·exact ⟨_,rfl,h⟩
 ·exact h.elim
set_option tactic.hygienic true in
theorem Am2 {o e:Mini.E}(ho:E1 X A C o) (he:E1 X A C e):E1 X A C (.append o e):=by
 intro re env nm ρ Q H φ s K EX hc L O h k
 refine Mini.m1 hc fun o' e' ap p e9 h2 h3 h4 h5=>?_
 clear hc;subst e9
 ·replace h:=Mini.sF h
  refine Ai2 (Q':=fun vo=>one fun v H₂=>Mini.hea (Mini.X1 vo v H₂) Q) ho (bV he) h3 h2 h4 (fQ h5) (by simp) F.plainAttrs_list F.slot_list_append F.type_list_append L O h (fun v H' q=>?_) (fun v H1 φ1 x s1 q F1 r=>?_)
   (fun v vs H1 φ1 x xs s1 q F1 r rs zz=>?_)
  ·cases v<;>first | exact mX q | exact False.elim q
  ·cases v<;>first | exact eT F1.ok r | exact False.elim q
  ·have q2:=mY q
   clear q
   obtain ⟨w,rfl,q⟩:=q2
   unfold Mini.hea at q
   split at q
   ·rename_i H2 e2
    unfold Mini.X1 at e2
    split at e2
    ·rename_i a
     obtain ⟨p,hp,rfl⟩:=K1 r
     obtain ⟨y,r',rfl,ry,rn⟩:=rs.uncons
     obtain rfl:=rn.unnil
     cases e0:H1[a]? with
     | none=>rw [e0] at e2;cases e2
     | some l =>
      rw [e0] at e2
      simp only [Option.bind_some] at e2
      split at e2
      ·rename_i hlt
       cases e2
       obtain ⟨vs',⟨n,hl⟩,rl⟩:=F1.ok.lists _ _ _ hp e0
       have hz:vs'.toArray.size<=sizeLine:=by rw [F9];simp [<- rl.length];exact Mini.M4 hlt
       refine call_meets F.slot_list_append ⟨_,hl,rfl⟩ F.entry_list_append (F.args_list_append_2 _ _) (list_append p _ n y hz) ⟨hl,?_⟩
       have F2:=I7.change (tk:=s1.toks) F1.ok hp (Heap.SameBut.update s1.heap p (Obj.mapSeq fun xs=>xs.push y)) ⟨_,by
        have:=IsL.update hl (fun xs=>xs.push y)
        rwa [List.push_toArray] at this⟩ (rl.append (C5.one ry)) (by simp;exact Mini.M4 hlt)
       exact k _ _ _ _ _ q (F1.trans F2) (by rfl)
      ·cases e2
    ·cases e2
   ·exact q.elim
set_option tactic.hygienic true in
theorem Am0 {o e:Mini.E}(ho:E1 X A C o) (he:E1 X A C e):E1 X A C (.extend o e):=by
 intro re env nm ρ Q H φ s K EX hc L O h k
 refine Mini.m1 hc fun o' e' ap p e9 h2 h3 h4 h5=>?_
 clear hc;subst e9
 ·replace h:=Mini.sE h
  refine Ai2 (Q':=fun vo=>one fun v H₂=>Mini.hea (Mini.vL vo v H₂) Q) ho (bV he) h3 h2 h4 (fQ h5) (by simp) F.plainAttrs_list F.slot_list_extend F.type_list_extend L O h (fun v H' q=>?_) (fun v H1 φ1 x s1 q F1 r=>?_)
   (fun v vs H1 φ1 x xs s1 q F1 r rs zz=>?_)
  ·cases v<;>first | exact mX q | exact False.elim q
  ·cases v<;>first | exact eT F1.ok r | exact False.elim q
  ·have q2:=mY q
   clear q
   obtain ⟨w,rfl,q⟩:=q2
   unfold Mini.hea at q
   split at q
   ·rename_i H2 e2
    replace e2:=Mini.gI e2;obtain ⟨a,rfl,e2⟩:=e2
    replace e2:=Mini.gI e2;obtain ⟨b,rfl,e2⟩:=e2
    ·obtain ⟨p,hp,rfl⟩:=K1 r
     obtain ⟨y,r',rfl,ry,rn⟩:=rs.uncons
     obtain rfl:=rn.unnil
     obtain ⟨p',hp',rfl⟩:=K1 ry
     cases e0:H1[a]? with
     | none=>rw [e0] at e2;cases e2
     | some l =>
      cases e1:H1[b]? with
      | none=>rw [e0,e1] at e2;cases e2
      | some l2 =>
       rw [e0,e1] at e2
       simp only [Option.bind_some] at e2
       split at e2
       ·rename_i hlt
        cases e2
        obtain ⟨vs',⟨n,hl⟩,rl⟩:=F1.ok.lists _ _ _ hp e0
        obtain ⟨vs2,⟨n2,hl2⟩,rl2⟩:=F1.ok.lists _ _ _ hp' e1
        have z1:=rl.length
        have z2:=rl2.length
        have hz:vs'.toArray.size<=sizeLine:=by rw [F9];simp;exact Mini.M4 (Mini.M9 (Nat.le_of_eq z1.symm) hlt.2)
        have hz2:vs'.toArray.size+vs2.toArray.size<=sizeLine+1:=by rw [F9];simp;exact Mini.M4 (Mini.M9 (Nat.le_of_eq z1.symm) (Mini.M9 hlt.2 (Nat.le_of_eq z2.symm)))
        refine call_meets F.slot_list_extend ⟨_,hl,rfl⟩ F.entry_list_extend (F.args_list_extend_2 _ _) (AutoSeq1.list_extend_list_list_0 p _ n p' _ n2 ?_ hz hz2) ⟨hl,hl2,?_⟩
        ·simp only [Builtin.List.listTooLong,Bool.and_eq_true,decide_eq_true_eq,not_and,Nat.not_lt]
         intro _
         rw [F9];simp;exact Mini.M4 (Mini.M9 (Nat.le_of_eq z1.symm) (Mini.M9 hlt.2 (Nat.le_of_eq z2.symm)))
        ·have F2:=I7.change (tk:=s1.toks) F1.ok hp (Heap.SameBut.update s1.heap p (Obj.mapSeq fun xs=>xs++vs2.toArray)) ⟨_,by
          have:=IsL.update hl (fun xs=>xs++vs2.toArray)
          rwa [List.append_toArray] at this⟩ (rl.append rl2) (by simp;exact Mini.M4 hlt.2)
         exact k _ _ _ _ _ q (F1.trans F2) (by rfl)
       ·cases e2
   ·exact q.elim
theorem qK (vs:List Value) (h:vs≠[]):vs.toArray.eraseIdxIfInBounds (vs.toArray.size - 1)=vs.dropLast.toArray:=by
 have hl:vs.length - 1<vs.length:=by
  have:0<vs.length:=List.length_pos_iff.mpr h
  exact Nat.sub_lt (Mini.M4 this) (Mini.fkz)
 unfold Array.eraseIdxIfInBounds
 rw [dif_pos (by simpa using hl)]
 apply Array.ext'
 simp
theorem C5.dropLast {h₀ φ h}{l:List V}{vs:List Value}(r:C5 h₀ φ h l vs):C5 h₀ φ h l.dropLast vs.dropLast:=by
 rw [List.dropLast_eq_take,List.dropLast_eq_take,<- r.length]
 exact C5.take _ r
set_option tactic.hygienic true in
theorem By0 {o:Mini.E}(ho:E1 X A C o):E1 X A C (.pop o):=by
 intro re env nm ρ Q H φ s K EX hc L O h k
 refine Mini.Cb4 hc fun o' ap p e9 h2 h3 h4=>?_
 clear hc;subst e9
 ·replace h:=Mini.Bi6 h
  refine Ai2 (Q':=fun vo vs H₂=>vs=[]/\Mini.res (Mini.Ai3 vo H₂) Q) (es:=[]) ho Bo3 h3 h2 h4 rfl (by simp) F.plainAttrs_list F.slot_list_pop F.type_list_pop L O h (fun v H' q=>?_) (fun v H1 φ1 x s1 q F1 r=>?_)
   (fun v vs H1 φ1 x xs s1 q F1 r rs zz=>?_)
  ·cases v<;>first | exact ⟨rfl,q⟩ | exact False.elim q
  ·cases v<;>first | exact eT F1.ok r | exact False.elim q
  ·obtain ⟨rfl,q⟩:=q
   obtain rfl:=rs.unnil
   unfold Mini.res at q
   split at q
   ·rename_i w H2 e2
    unfold Mini.Ai3 at e2
    split at e2
    ·rename_i a
     obtain ⟨p,hp,rfl⟩:=K1 r
     cases e0:H1[a]? with
     | none=>rw [e0] at e2;cases e2
     | some l =>
      rw [e0] at e2
      simp only [Option.bind_some] at e2
      obtain ⟨w',hw,e3⟩:=Option.map_eq_some_iff.mp e2
      cases e3
      obtain ⟨vs',⟨n,hl⟩,rl⟩:=F1.ok.lists _ _ _ hp e0
      have z1:=rl.length
      have z2:=F1.ok.small l (B9 e0)
      rw [List.getLast?_eq_getElem?] at hw
      obtain ⟨y,hy,ry⟩:=rl.get hw
      have hne:vs'≠[]:=by rintro rfl;simp at hy
      have hz:vs'.toArray.size<=sizeLine:=by rw [F9];simp;exact Mini.M4 (Mini.M9 (Nat.le_of_eq z1.symm) z2)
      refine call_meets F.slot_list_pop ⟨_,hl,rfl⟩ F.entry_list_pop (F.args_list_pop_1 _) (MeetsSeq.list_pop_last p _ n y (by rw [<- hy,z1];simp) hz) ⟨hl,?_⟩
      have F2:=I7.change (tk:=s1.toks) F1.ok hp (Heap.SameBut.update s1.heap p (Obj.mapSeq fun xs=>xs.eraseIdxIfInBounds (vs'.toArray.size - 1))) ⟨_,by
        have:=IsL.update hl (fun xs=>xs.eraseIdxIfInBounds (vs'.toArray.size - 1))
        rwa [qK _ hne] at this⟩ (C5.dropLast rl) (by simp;exact Mini.M4 z2)
      exact k _ _ _ _ _ q (F1.trans F2) (F2.val F1.ok ry)
    ·cases e2
   ·exact q.elim
theorem yV {c:Nat}:∀ {l:List Nat},(∀ j:Nat,l[j]? ≠ some c)->Mini.idx? c l=none
 | [],_=>rfl
 | x::l,h=>by
  unfold Mini.idx?
  have h0:¬ x=c:=fun e=>h 0 (by simp [e])
  rw [if_neg h0,yV fun j=>by have:=h (j+1);simpa using this];rfl
theorem yU {c:Nat}:∀ {l:List Nat}{k:Nat},l[k]? = some c->(∀ j:Nat,j<k->l[j]? ≠ some c)->Mini.idx? c l=some k
 | [],_,e,_=>by simp at e
 | x::l,0,e,_=>by
  unfold Mini.idx?
  have:x=c:=by simpa using e
  rw [if_pos this]
 | x::l,k+1,e,h=>by
  unfold Mini.idx?
  have h0:¬ x=c:=fun e=>h 0 (Nat.succ_pos _) (by simp [e])
  rw [if_neg h0,yU (k:=k) (by simpa using e) fun j hj=>by have:=h (j+1) (Nat.succ_lt_succ hj);simpa using this];rfl
theorem Ad9 (l:List Nat) (c:Nat) (i:Int) (h0:0<=i):Txt.find3 ⟨l.toArray⟩ ⟨#[c]⟩ i=Mini.rO l c i.toNat:=by
 have hg:∀ v,l[v]? = some c->(Str.mk l.toArray).cps.getD v 0=c:=fun v hv=>by
  have hlt:=(List.getElem?_eq_some_iff.mp hv).1
  have:=(List.getElem?_eq_some_iff.mp hv).2
  simp [Array.getD,hlt,this]
 have hg':∀ v,v<l.length->(Str.mk l.toArray).cps.getD v 0=c->l[v]? = some c:=fun v hlt hv=>by
  simp [Array.getD,hlt] at hv
  rw [List.getElem?_eq_getElem hlt,hv]
 have hlen:(Str.mk l.toArray).length=l.length:=by simp [Str.length]
 have hf:fromIndex l.length i=i.toNat:=by
  show (max 0 (if i<0 then i+(l.length:Nat) else i)).toNat=_
  rw [if_neg (Int.not_lt.mpr h0),Int.max_eq_right h0]
 unfold Mini.rO
 rcases StrLaws.find3_spec ⟨l.toArray⟩ c i with ⟨e,hn⟩ | ⟨k,e,h1,h2,h3,h4⟩
 ·rw [e]
  rw [hlen,hf] at hn
  rw [yV fun j hj=>?_]
  rw [List.getElem?_drop] at hj
  exact hn (i.toNat+j) (B4 _ _) (List.getElem?_eq_some_iff.mp hj).1 (hg _ hj)
 ·rw [e]
  rw [hlen] at h2
  rw [hlen,hf] at h1 h4
  rw [yU (k:=k - i.toNat) ?_ fun j hj hx=>?_]
  ·simp only
   congr 1
   exact (Nat.add_sub_cancel' (Mini.M4 h1)).symm
  ·rw [List.getElem?_drop]
   have:i.toNat+(k - i.toNat)=k:=Nat.add_sub_cancel' h1
   rw [this];exact hg' k h2 h3
  ·rw [List.getElem?_drop] at hx
   exact h4 (i.toNat+j) (B4 _ _) (Nat.add_lt_of_lt_sub' hj) (hg _ hx)
theorem Bn2 {o a b:Mini.E}(ho:E1 X A C o) (ha:E1 X A C a) (hb:E1 X A C b):E1 X A C (.find o a b):=by
 intro re env nm ρ Q H φ s K EX hc L O h k
 refine Mini.Bq7 hc fun o' x' y' ap p e9 h2 h3 h4 h5 h6=>?_
 clear hc;subst e9
 ·replace h:=Mini.Av4 h
  refine Ai2 (Q':=fun vo=>two fun va vb H₂=>rL (fun s=>Mini.yB s va vb Q H₂) vo) ho (Bo2 ha hb) h3 h2 h4 (lW h5 h6) (by simp) F.plainAttrs_str F.slot_str_find F.type_str_find L O h (fun v H' q=>?_) (fun v H1 φ1 x s1 q F1 r=>?_)
   (fun v vs H1 φ1 x xs s1 q F1 r rs zz=>?_)
  ·cases v<;>first | exact Ck0 q | exact False.elim q
  ·cases v<;>first | exact U6 r | exact False.elim q
  ·have q2:=Ck1 q
   clear q
   obtain ⟨va,vb,rfl,q3⟩:=q2
   have q2:=gF q3
   clear q3
   obtain ⟨l,rfl,q⟩:=q2
   replace q:=Mini.Q2 q;obtain ⟨c,rfl,q⟩:=q
   replace q:=Mini.Av6 q;obtain ⟨i,rfl,q⟩:=q
   ·obtain ⟨t,rfl⟩:=H5 r
    obtain ⟨y,r',rfl,ry,rn⟩:=rs.uncons
    obtain ⟨z,r'',rfl,rz,rn⟩:=rn.uncons
    obtain rfl:=rn.unnil
    obtain ⟨u,rfl⟩:=H5 ry
    obtain ⟨u',rfl⟩:=E3 rz
    refine SC.find3 ?_
    rw [Ad9 _ _ _ q.1]
    exact k _ _ _ _ _ q.2 (F1.trans (I7.tok F1.ok)) P6
noncomputable def mkS (l:List Nat):Str:=⟨l.toArray⟩
theorem rS {h₀ φ h}:∀ {l:List V}{ls:List (List Nat)}{vs:List Value},Mini.qR l=some ls->C5 h₀ φ h l vs->∃ lt:List (Str×Tok),vs=strValues lt/\lt.map (·.1)=ls.map mkS
 | [],ls,vs,e,r=>by
  cases (show some []=some ls from e)
  obtain rfl:=r.unnil
  exact ⟨[],rfl,rfl⟩
 | v::l,ls,vs,e,r=>by
  obtain ⟨x,vs',rfl,rx,rr⟩:=r.uncons
  cases v with
  | str w =>
   obtain ⟨ls',e',rfl⟩:=Option.map_eq_some_iff.mp (show (Mini.qR l).map (w::·)=some ls from e)
   obtain ⟨t,rfl⟩:=H5 rx
   obtain ⟨lt,rfl,h2⟩:=rS e' rr
   exact ⟨(mkS w,t)::lt,rfl,congrArg (mkS w::·) h2⟩
  | _=>exact nomatch (show Option.none=some ls from e)
theorem vA (s:List Nat):∀ ls:List (List Nat),Txt.join (mkS s) (ls.map mkS)=mkS (Mini.joinWith s ls):=by
 intro ls
 show Builtin.Str.glued _ _=_
 rw [StrLaws.glued_eq_join]
 induction ls with
 | nil=>rfl
 | cons w r ih =>
  cases r with
  | nil=>rfl
  | cons w2 r =>
   show mkS w++mkS s++Str.join (mkS s) ((w2::r).map mkS)=_
   rw [ih]
   show Str.append (Str.append (mkS w) (mkS s)) (mkS (Mini.joinWith s (w2::r)))=mkS (w++s++Mini.joinWith s (w2::r))
   simp [Str.append,mkS]
theorem Bz6 {s:List Nat}{ls:List (List Nat)}(h:(ls.map List.length).sum+ls.length * s.length<=Mini.I8):JoinOk (mkS s) (ls.map mkS)=true:=by
 unfold JoinOk
 rw [StrLaws.joinTotal]
 have e:((ls.map mkS).map (·.length))=ls.map List.length:=by
  simp [List.map_map,Function.comp_def,mkS,Str.length]
 rw [e]
 simp only [Builtin.Str.tooLong,B6,Bool.not_eq_true',decide_eq_false_iff_not,Nat.not_lt]
 rw [F9]
 simpa [mkS,Str.length] using h
theorem ar4 (w s M X:Nat):w+s+(M+X)=w+M+(X+s):=by rw [Nat.add_comm X s,<- Nat.add_assoc (w+M),Nat.add_right_comm w M s,Nat.add_assoc (w+s)]
theorem yT (s:List Nat):∀ ls:List (List Nat),(Mini.joinWith s ls).length<=(ls.map List.length).sum+ls.length * s.length
 | []=>B0 _
 | [w]=>by
  show w.length<=w.length+0+1 * s.length
  exact B4 _ _
 | w::w2::r=>by
  have:=yT s (w2::r)
  show (w++s++Mini.joinWith s (w2::r)).length<=w.length+((w2::r).map List.length).sum+((w2::r).length+1) * s.length
  rw [A6,A6,Nat.add_mul,Nat.one_mul]
  exact A3 (Nat.add_le_add_left this (w.length+s.length)) (Nat.le_of_eq (ar4 _ _ _ _))
set_option tactic.hygienic true in
theorem Bm8 {o a:Mini.E}(ho:E1 X A C o) (ha:E1 X A C a):E1 X A C (.join o a):=by
 intro re env nm ρ Q H φ s K EX hc L O h k
 refine Mini.m1 hc fun o' e' ap p e9 h2 h3 h4 h5=>?_
 clear hc;subst e9
 ·replace h:=Mini.Av3 h
  refine Ai2 (Q':=fun vo=>one fun va H₂=>rL (fun s=>Mini.dP s va Q H₂) vo) ho (bV ha) h3 h2 h4 (fQ h5) (by simp) F.plainAttrs_str F.slot_str_join F.type_str_join L O h (fun v H' q=>?_) (fun v H1 φ1 x s1 q F1 r=>?_)
   (fun v vs H1 φ1 x xs s1 q F1 r rs zz=>?_)
  ·cases v<;>first | exact mX q | exact False.elim q
  ·cases v<;>first | exact U6 r | exact False.elim q
  ·have q2:=mY q
   clear q
   obtain ⟨va,rfl,q3⟩:=q2
   have q2:=gF q3
   clear q3
   obtain ⟨l,rfl,q⟩:=q2
   unfold Mini.dP at q
   split at q
   ·rename_i b
    obtain ⟨t,rfl⟩:=H5 r
    obtain ⟨y,r',rfl,ry,rn⟩:=rs.uncons
    obtain rfl:=rn.unnil
    obtain ⟨p,hp,rfl⟩:=K1 ry
    cases e0:H1[b]? with
    | none=>rw [e0] at q;exact q.elim
    | some ls =>
     rw [e0] at q
     simp only [Option.bind_some] at q
     split at q
     ·rename_i ts e1
      obtain ⟨vs',hpl,rl⟩:=F1.ok.lists _ _ _ hp e0
      obtain ⟨lt,rfl,hlt⟩:=rS e1 rl
      refine free (SC.join hpl.isList hlt (Bz6 q.1) (fun t' k' ht=>?_))
      have e9:Txt.join ⟨l.toArray⟩ (ts.map mkS)=⟨(Mini.joinWith l ts).toArray⟩:=vA l ts
      rw [e9]
      exact k _ _ _ _ _ q.2 (F1.trans (I7.tok F1.ok ht)) (aH (A3 (yT _ _) q.1))
     ·exact q.elim
   ·exact q.elim
theorem gS {c:Nat}:∀ {p:List Nat},c ∉ p->Mini.splitAt c p=[p]
 | [],_=>rfl
 | x::l,h=>by
  have h1:¬ x=c:=fun e=>h (by simp [e])
  have h2:c ∉ l:=fun e=>h (by simp [e])
  unfold Mini.splitAt
  rw [if_neg h1,gS h2]
theorem jW {c:Nat}(rest:List Nat):∀ {p:List Nat},c ∉ p->Mini.splitAt c (p++c::rest)=p::Mini.splitAt c rest
 | [],_=>by simp [Mini.splitAt]
 | x::l,h=>by
  have h1:¬ x=c:=fun e=>h (by simp [e])
  have h2:c ∉ l:=fun e=>h (by simp [e])
  have e:Mini.splitAt c (x::(l++c::rest))=match Mini.splitAt c (l++c::rest) with
   | []=>[[x]]
   | w::r=>(x::w)::r:=by
   conv=>lhs;unfold Mini.splitAt
   rw [if_neg h1]
   all_goals (cases Mini.splitAt c (l++c::rest)<;>rfl)
  show Mini.splitAt c (x::(l++c::rest))=_
  rw [e,jW rest h2]
theorem gR {c:Nat}:∀ {ps:List (List Nat)},ps≠[]->(∀ p∈ps,c ∉ p)->Mini.splitAt c (Mini.joinWith [c] ps)=ps
 | [],h,_=>absurd rfl h
 | [p],_,h=>gS (h p (by simp))
 | p::q::r,_,h=>by
  have e:Mini.joinWith [c] (p::q::r)=p++c::Mini.joinWith [c] (q::r):=A7 p [c] _
  rw [e,jW _ (h p (by simp)),gR (by simp) fun x hx=>h x (List.mem_cons_of_mem _ hx)]
theorem jV (c:Nat):∀ l:List Nat,(Mini.splitAt c l).length<=l.length+1
 | []=>by simp [Mini.splitAt]
 | x::l=>by
  have:=jV c l
  unfold Mini.splitAt
  split
  ·simp;exact Mini.M4 this
  ·split
   ·simp
   ·rename_i e;rw [e] at this;simp at this ⊢;exact Mini.M4 this
set_option tactic.hygienic true in
theorem dR (c:Nat):∀ l:List Nat,∀ p∈Mini.splitAt c l,p.length<=l.length
 | [],p,h=>by simp [Mini.splitAt] at h;simp [h]
 | x::l,p,h=>by
  have ih:=dR c l
  unfold Mini.splitAt at h
  split at h
  ·rcases List.mem_cons.mp h with rfl | h
   ·simp
   ·have:=ih p h;simp;exact Mini.M4 this
  ·split at h
   ·simp at h;simp [h]
   ·rename_i w r e
    rcases List.mem_cons.mp h with rfl | h
    ·have:=ih w (by rw [e];simp);simp;exact Mini.M4 this
    ·have:=ih p (by rw [e];simp [h]);simp;exact Mini.M4 this
theorem yO (c:Nat) (l:List Nat):Txt.split (mkS l) ⟨#[c]⟩=(Mini.splitAt c l).map mkS:=by
 have hj:=StrLaws.join_split (mkS l) ⟨#[c]⟩
 have hf:=StrLaws.split_free (mkS l) c
 have hne:Txt.split (mkS l) ⟨#[c]⟩≠[]:=by
  unfold Txt.split
  split
  ·simp
  ·split
   ·simp
   ·rw [StrLaws.partsBetween_eq]
    obtain ⟨p,r,e⟩:=StrLaws.partsFrom_ne (mkS l) (Str.length ⟨#[c]⟩) 0 (Builtin.Str.occurrences (mkS l) ⟨#[c]⟩ 0 (mkS l).length ((mkS l).length+1))
    rw [e];simp
 generalize Txt.split (mkS l) ⟨#[c]⟩=ps at *
 have e:ps=(ps.map fun p=>p.cps.toList).map mkS:=by
  rw [List.map_map]
  conv=>lhs;rw [<- List.map_id ps]
  apply List.map_congr_left
  intro p _
  simp [mkS,Function.comp]
 have hj2:mkS (Mini.joinWith [c] (ps.map fun p=>p.cps.toList))=mkS l:=by
  rw [<- vA,<- e]
  show Builtin.Str.glued _ _=_
  rw [StrLaws.glued_eq_join];exact hj
 have hj3:Mini.joinWith [c] (ps.map fun p=>p.cps.toList)=l:=by
  have:=congrArg (fun s:Str=>s.cps.toList) hj2
  simpa [mkS] using this
 have:=gR (c:=c) (ps:=ps.map fun p=>p.cps.toList) (by simpa using hne) (by
  intro p hp
  obtain ⟨q,hq,rfl⟩:=List.mem_map.mp hp
  exact hf q hq)
 rw [hj3] at this
 rw [this,<- e]
theorem C5.ofStrs {h₀ φ h}:∀ {lt:List (Str×Tok)}{ls:List (List Nat)},lt.map (·.1)=ls.map mkS->(∀ p∈ls,p.length<=Mini.I8)->C5 h₀ φ h (ls.map V.str) (strValues lt)
 | [],[],_,_=>C5.nil
 | [],_::_,e,_=>by simp at e
 | _::_,[],e,_=>by simp at e
 | (x,t)::lt,p::ls,e,hz=>by
  simp only [List.map_cons,List.cons.injEq] at e
  obtain ⟨e1,e2⟩:=e
  subst e1
  exact C5.cons (aH (hz p (by simp))) (C5.ofStrs e2 fun q hq=>hz q (List.mem_cons_of_mem _ hq))
theorem Az9 {o a:Mini.E}(ho:E1 X A C o) (ha:E1 X A C a):E1 X A C (.split o a):=by
 intro re env nm ρ Q H φ s K EX hc L O h k
 refine Mini.m1 hc fun o' e' ap p e9 h2 h3 h4 h5=>?_
 clear hc;subst e9
 ·replace h:=Mini.zG h
  refine Ai2 (Q':=fun vo=>one fun va H₂=>rL (fun s=>Mini.Aj4 s va Q H₂) vo) ho (bV ha) h3 h2 h4 (fQ h5) (by simp) F.plainAttrs_str F.slot_str_split F.type_str_split L O h (fun v H' q=>?_) (fun v H1 φ1 x s1 q F1 r=>?_)
   (fun v vs H1 φ1 x xs s1 q F1 r rs zz=>?_)
  ·cases v<;>first | exact mX q | exact False.elim q
  ·cases v<;>first | exact U6 r | exact False.elim q
  ·have q2:=mY q
   clear q
   obtain ⟨va,rfl,q3⟩:=q2
   have q2:=gF q3
   clear q3
   obtain ⟨l,rfl,q⟩:=q2
   replace q:=Mini.Q2 q
   obtain ⟨c,rfl,q⟩:=q
   ·skip
    have hz:=len_str r
    obtain ⟨t,rfl⟩:=H5 r
    obtain ⟨y,r',rfl,ry,rn⟩:=rs.uncons
    obtain rfl:=rn.unnil
    obtain ⟨u,rfl⟩:=H5 ry
    have hx:(mkS l).length<=sizeLine:=by rw [F9];simpa [mkS,Str.length] using hz
    have hsp:=yO c l
    have hparts:∀ p∈Mini.splitAt c l,p.length<=Mini.I8:=fun p hp=>A3 (dR c l p hp) hz
    have hlen:((Mini.splitAt c l).map V.str).length<=Mini.I8:=by
     have:=jV c l
     simp;exact Mini.M4 (Mini.M9 this q.1)
    have fin:∀ (lt:List (Str×Tok)) (tk:Nat),lt.map (·.1)=(Mini.splitAt c l).map mkS->s1.toks<=tk ->
      K (.ref s1.heap.objs.size) { s1 with heap:=s1.heap.push { cls:=.type "list",data:=.seq (strValues lt).toArray },toks:=tk }:=by
     intro lt tk e ht
     have F2:=I7.alloc (n:=0) (tk:=tk) F1.ok (C5.ofStrs e hparts) hlen ht
     exact k _ _ _ _ _ q.2 (F1.trans F2) (eN (by rw [<- F1.ok.len];simp))
    have hy:((Str.mk #[c]).length==0)=false:=rfl
    unfold Txt.split at hsp
    cases h1:(decide ((mkS l).length<(Str.mk #[c]).length)||decide (Builtin.Str.strKind (mkS l)<Builtin.Str.strKind ⟨#[c]⟩)) with
    | true =>
     rw [if_pos h1] at hsp
     refine call_meets F.slot_str_split (typeIs_str _ _ _) F.entry_str_split (F.args_str_split_2 _ _) (meets_str_split_cannot_occur (mkS l) ⟨#[c]⟩ t u h1) ?_
     exact fin [(mkS l,t)] s1.toks (by simpa using hsp) (A4 _)
    | false =>
     rw [if_neg (by rw [h1];simp)] at hsp
     cases hf:(Builtin.Str.occurrences (mkS l) ⟨#[c]⟩ 0 (mkS l).length ((mkS l).length+1)).isEmpty with
     | true =>
      rw [if_pos hf] at hsp
      refine call_meets F.slot_str_split (typeIs_str _ _ _) F.entry_str_split (F.args_str_split_2 _ _) (meets_str_split_not_found (mkS l) ⟨#[c]⟩ t u h1 hy hf) ?_
      exact fin [(mkS l,t)] s1.toks (by simpa using hsp) (A4 _)
     | false =>
      rw [if_neg (by rw [hf];simp)] at hsp
      have hn:(Builtin.Str.partsBetween (mkS l) (Builtin.Str.occurrences (mkS l) ⟨#[c]⟩ 0 (mkS l).length ((mkS l).length+1)) (Str.mk #[c]).length).length<=sizeLine:=by
       rw [hsp,F9];simpa using hlen
      refine call_meets F.slot_str_split (typeIs_str _ _ _) F.entry_str_split (F.args_str_split_2 _ _) (meets_str_split_sep (mkS l) ⟨#[c]⟩ t u h1 hy hf hx hn) ?_
      rw [strsFrom_eq]
      exact fin (numbered s1.toks _) _ ((numbered_texts _ _).trans hsp) (B4 _ _)
theorem dS (c d:Nat):∀ l:List Nat,Mini.joinWith [d] (Mini.splitAt c l)=Mini.T5 l c d
 | []=>rfl
 | x::l=>by
  have ih:=dS c d l
  have hne:Mini.splitAt c l≠[]:=by
   cases l with
   | nil=>simp [Mini.splitAt]
   | cons y l =>
    unfold Mini.splitAt
    split
    ·simp
    ·split<;>simp
  unfold Mini.splitAt
  unfold Mini.T5 at ih ⊢
  cases e:Mini.splitAt c l with
  | nil=>exact absurd e hne
  | cons w r =>
   rw [e] at ih
   split
   ·rename_i hx
    simp only [List.map_cons,if_pos hx]
    rw [<- ih];rfl
   ·rename_i hx
    simp only [List.map_cons,if_neg hx]
    rw [<- ih]
    cases r<;>rfl
theorem Am6 (c d:Nat) (l:List Nat):Txt.replace (mkS l) ⟨#[c]⟩ ⟨#[d]⟩=mkS (Mini.T5 l c d):=by
 rw [StrLaws.replace_one,yO,<- StrLaws.glued_eq_join]
 have:=vA [d] (Mini.splitAt c l)
 rw [dS] at this
 exact this
set_option tactic.hygienic true in
theorem Ad6 {o a b:Mini.E}(ho:E1 X A C o):E1 X A C (.replace o a b):=by
 intro re env nm ρ Q H φ s K EX hc L O h k
 refine Mini.Ae4 hc fun o' x' y' ap p e9 h2 h3 g1 g2 h4 h5 h6=>?_
 clear hc;subst e9
 ·obtain ⟨lb,rfl⟩:=Mini.vE g2
  replace h:=Mini.oV h
  refine wpAny_Call_method (Au7 h3 _ _) ?_ h2 F.plainAttrs_str F.slot_str_replace F.type_str_replace (ho _ env nm ρ _ H φ s _ EX h4 L O h fun v H1 φ1 x s1 q1 F1 r1=>?_)
  ·rw [iZ (lW h5 h6)];rfl
  ·split at q1
   ·rename_i l
    refine ⟨(U6 r1).1,(U6 r1).2,?_⟩
    refine callWith_builtin (iY (lW h5 h6)) (aW (lW h5 h6) ?_)
    have hz:=len_str r1
    obtain ⟨t,rfl⟩:=H5 r1
    have fin:∀ (va:V) (ya:Str) (ta:Tok) (s2:Shared),I7 X.h₀ φ1 s1 φ1 H1 s2->E7 X.h₀ φ1 s2.heap va (.str ya ta)->0<ta->ta<s2.toks->Mini.D9 C (.str lb) ρ (fun vb H₃=>Mini.Y9 l va vb Q H₃) H1 ->
      wpAny (M7 X) A (spliced (backTo p (starEach [y'] env))) (fun vs s₂=>wpAny (M7 X) A (call (.builtin "str.replace") ([Value.str ⟨l.toArray⟩ t]++(Args.mk (.str ya ta::vs) []).pos) (Args.mk (.str ya ta::vs) []).kw) K EX s₂) EX s2:=by
     intro va ya ta s2 F2 ra hta0 hta1 hq
     have hq:=uY hq
     refine args_cons (uZ h6 ?_) (O9 h6 _ _)
     refine args_nil ?_
     replace hq:=Mini.Q2 hq;obtain ⟨c,rfl,hq⟩:=hq
     obtain ⟨d,e9,hq⟩:=Mini.Q2 hq
     ·cases e9
      obtain ⟨t9,e9⟩:=H5 ra
      cases e9
      have F3:I7 X.h₀ φ1 s2 φ1 H1 { s2 with toks:=s2.toks+1 }:=I7.tok F2.ok
      refine free (SC.replace (u:=ta) (v:=s2.toks) (Nat.ne_of_gt hta0) (Nat.ne_of_gt (Nat.lt_trans hta0 hta1)) (Nat.ne_of_lt hta1) ?_ ?_ fun t' k' ht=>?_)
      ·have:¬ ((⟨#[c]⟩:Str)=⟨#[d]⟩):=fun e=>hq.1 (by simpa using e)
       simpa using this
      ·simp [Str.length];lia
      ·have e8:Txt.replace ⟨l.toArray⟩ ⟨[c].toArray⟩ ⟨[d].toArray⟩=⟨(Mini.T5 l c d).toArray⟩:=Am6 c d l
       rw [e8]
       exact k _ _ _ _ _ hq.2.2 (((F1.trans F2).trans F3).trans (I7.tok F3.ok ht)) (aH (by simpa [Mini.T5] using hz))
    rcases Mini.Bc2 g1 with g1 | ⟨xv,rfl,h7⟩
    ·obtain ⟨g1,h7⟩:=Mini.D1 g1
     obtain ⟨la,rfl⟩:=Mini.vE g1
     have hpos:0<s1.toks:=A8 (L.pos h7) F1.step.toks
     refine args_cons (uZ h5 ?_) (O9 h5 _ _)
     have q2:=uY q1
     have F2:I7 X.h₀ φ1 s1 φ1 H1 { s1 with toks:=s1.toks+1 }:=I7.tok F1.ok
     exact fin (.str la) _ _ _ F2 (aH (At9 h5)) hpos (B1 _) q2
    ·refine Mini.Av8 h5 fun id pid e9 hc8=>?_
     clear h5;subst e9
     ·simp only [Bool.and_eq_true,beq_iff_eq] at hc8
      obtain ⟨⟨g1,g2⟩,g3⟩:=hc8
      simp only [Mini.R9,Bool.and_eq_true,Bool.not_eq_true'] at g3
      replace q1:=Mini.Aj1 q1
      split at q1
      ·rename_i va hva
       refine args_cons (wpAny_Name (yR (L.fwd O F1) g1 g2 hva (fun y ry lr=>?_) g3.2) g3.1)
       obtain ⟨ly,ty,rfl,u1,u2⟩:=lr (by simpa using h7) y rfl
       exact fin va _ _ _ (I7.refl F1.ok) ry u1 u2 q1
      ·exact q1.elim
   ·exact q1.elim
end
end MiniS
namespace MiniS
open PySem PySem.Calls PyProof.Rows
open Mini (V D)
section
variable {X:Cx}{A:Around}{C:Mini.Calls}
end
end MiniS
set_option linter.unusedVariables false
namespace MiniS
open PySem PySem.Calls PyProof.Rows
open Mini (V D)
section
variable {X:Cx}{A:Around}{C:Mini.Calls}
theorem Ck2 (l:List Nat) (i j:Nat):Builtin.Str.strSub (mkS l) i j=mkS ((l.drop i).take (j - i)):=by
 show Str.mk (l.toArray.extract i j)=Str.mk _
 rw [List.extract_toArray]
theorem Bm0 (l:List Nat) (c:Nat):stripped (Str.mk #[c]).cps.contains true false (mkS l)=mkS (l.dropWhile (· == c))/\(stripSame (Str.mk #[c]).cps.contains true false (mkS l)=true->l.dropWhile (· == c)=l):=by
 have eg:(Str.mk #[c]).cps.contains=fun d=>d==c:=by
  funext d
  show ([c].toArray).contains d=_
  rw [List.contains_toArray,List.contains_cons,List.contains_nil,Bool.or_false]
 have e1:stripLo (fun d=>d==c) true (mkS l)=(l.takeWhile (· == c)).length:=by
  show ((mkS l).cps.toList.takeWhile _).length=_
  simp [mkS]
 have ed:l.drop (l.takeWhile (· == c)).length=l.dropWhile (· == c):=by
  have:=List.takeWhile_append_dropWhile (p:=(· == c)) (l:=l)
  replace this:=congrArg (fun x=>x.drop (l.takeWhile (· == c)).length) this
  simp only [List.drop_left] at this
  exact this.symm
 rw [eg]
 refine ⟨?_,fun h=>?_⟩
 ·show Builtin.Str.strSub (mkS l) (stripLo (fun d=>d==c) true (mkS l)) (mkS l).length=_
  rw [e1,Ck2,ed,List.take_of_length_le]
  rw [<- ed,List.length_drop];simp [mkS,Str.length]
 ·unfold stripSame at h
  rw [e1] at h
  have h0:(l.takeWhile (· == c)).length=0:=by simpa using (Bool.and_eq_true_iff.mp h).1
  rw [h0,List.drop_zero] at ed
  exact ed.symm
theorem Al8 {o a:Mini.E}(ho:E1 X A C o) (ha:E1 X A C a):E1 X A C (.lstrip o a):=by
 intro re env nm ρ Q H φ s K EX hc L O h k
 refine Mini.m1 hc fun o' e' ap p e9 h2 h3 h4 h5=>?_
 clear hc;subst e9
 replace h:=Mini.sD h
 refine Ai2 (Q':=fun vo=>one fun va H₂=>rL (fun s=>Mini.vF s va Q H₂) vo) ho (bV ha) h3 h2 h4 (fQ h5) (by simp) F.plainAttrs_str F.slot_str_lstrip F.type_str_lstrip L O h (fun v H' q=>?_) (fun v H1 φ1 x s1 q F1 r=>?_)
  (fun v vs H1 φ1 x xs s1 q F1 r rs zz=>?_)
 ·cases v<;>first | exact mX q | exact False.elim q
 ·cases v<;>first | exact U6 r | exact False.elim q
 ·have q2:=mY q
  clear q
  obtain ⟨va,rfl,q3⟩:=q2
  have q2:=gF q3
  clear q3
  obtain ⟨l,rfl,q⟩:=q2
  replace q:=Mini.Q2 q
  obtain ⟨c,rfl,q⟩:=q
  ·skip
   have hz:=len_str r
   obtain ⟨t,rfl⟩:=H5 r
   obtain ⟨y,r',rfl,ry,rn⟩:=rs.uncons
   obtain rfl:=rn.unnil
   obtain ⟨u,rfl⟩:=H5 ry
   have hx:(mkS l).length<=sizeLine:=by rw [F9];simpa [mkS,Str.length] using hz
   obtain ⟨g1,g2⟩:=Bm0 l c
   refine call_gives F.slot_str_lstrip (typeIs_str _ _ _) F.entry_str_lstrip (F.args_str_lstrip_2 _ _) (gives_str_lstrip_chars (mkS l) ⟨#[c]⟩ t u) ?_
   by_cases hs:stripSame (Str.mk #[c]).cps.contains true false (mkS l)=true
   ·rw [if_pos hs]
    rw [g2 hs] at q
    exact k _ _ _ _ _ q F1 r
   ·rw [if_neg hs,g1]
    have hd:(l.dropWhile (· == c)).length<=Mini.I8:=A3 (List.dropWhile_sublist _).length_le hz
    refine ⟨by rw [<- g1];exact fits_stripped _ _ _ hx,k _ _ _ _ _ q (F1.trans (I7.tok F1.ok)) (aH hd)⟩
end
end MiniS
namespace MiniS
open PySem PySem.Calls PyProof.Rows
open Mini (V D)
section
variable {X:Cx}{A:Around}{C:Mini.Calls}
noncomputable def W6 (X:Cx) (A:Around) (C:Mini.Calls) (e:Mini.E):Prop :=
 ∀ (re:Expr) (env:Env) (nm:List Str) (ρ:Mini.D7) (Q:Bool->Mini.Heap->Prop) (H:Mini.Heap) (φ:List Addr) (s:Shared) (K:Bool->Shared->Prop) (EX:Value->Shared->Prop),
  Mini.D0 X.gl env.scope.names nm e re=true->H9 X φ nm env ρ s->Ok X.h₀ φ H s.heap->Mini.D9 C e ρ (fun v H₁=>Mini.boo (Mini.J1 v) Q H₁) H ->
  (∀ b H' φ' s',Q b H'->I7 X.h₀ φ s φ' H' s'->K b s')->wpAny (M7 X) A (isTrue re env (eval re env)) K EX s
set_option tactic.hygienic true in
theorem Am8 {gl sc nm e re}(h:Mini.D0 gl sc nm e re=true) (hp:Mini.plainC e=true) (env:Env) (w:Sem Value) :
  isTrue re env w=(do let v <- w;standAt re.pos;holding [v] (truthy v)):=by
 have hf:=(Mini.jN h).form
 have ht:=(Mini.jN h).test hp
 clear h
 cases re<;>first | rfl | exact Bool.noConfusion hf | exact Bool.noConfusion ht | skip
 rename_i o _ _
 cases o<;>first | rfl | exact Bool.noConfusion ht
set_option tactic.hygienic true in
theorem Am3 {e:Mini.E}(he:E1 X A C e) (hp:Mini.plainC e=true):W6 X A C e:=by
 intro re env nm ρ Q H φ s K EX hc L O h k
 refine isTrue_plain (he re env nm ρ _ H φ s _ EX hc L O h fun v H1 φ1 x s1 q F1 r=>?_) (Am8 hc hp env _)
 unfold Mini.boo at q
 split at q
 ·rename_i t e
  obtain rfl:=gE r e
  exact wpAny_truthy_bool (k _ _ _ _ q F1)
 ·exact q.elim
theorem Bo4 {e:Mini.E}(he:W6 X A C e):W6 X A C (.not e):=by
 intro re env nm ρ Q H φ s K EX hc L O h k
 refine Mini.Av9 hc fun e' p e9 hc9=>?_
 clear hc;subst e9
 ·replace h:=Mini.Bi8 h
  refine isTrue_not (he _ env nm ρ (fun b H=>Q (!b) H) H φ s _ EX hc9 L O ?_ fun b H1 φ1 s1 q F1=>k _ _ _ _ q F1)
  have e:(fun v H₁=>Mini.boo (Mini.J1 v) (fun b H=>Mini.boo (Mini.J1 (V.bool !b)) Q H) H₁)=fun v H₁=>Mini.boo (Mini.J1 v) (fun b H=>Q (!b) H) H₁:=by
   funext v H₁
   cases v<;>rfl
  rw [e] at h;exact h
set_option tactic.hygienic true in
theorem Bo5 (hu:A.units+106<cLine) {o:Mini.Cmp}{l r:Mini.E}(hl:E1 X A C l) (hr:E1 X A C r):W6 X A C (.cmp o l r):=by
 intro re env nm ρ Q H φ s K EX hc L O h k
 refine Mini.Aw1 hc fun l' o' r' p e9 hc9=>?_
 clear hc;subst e9
 ·simp only [Bool.and_eq_true] at hc9
  obtain ⟨⟨h1,h2⟩,h3⟩:=hc9
  replace h:=Mini.Aj2 h
  refine wpAny_isTrue_Compare1 (hl _ env nm ρ _ H φ s _ EX h2 L O h fun a H1 φ1 x1 s1 q1 F1 r1=>?_) (gG h3 _)
  refine hr _ env nm ρ _ H1 φ1 s1 _ EX h3 (L.fwd O F1) F1.ok q1 fun b H2 φ2 x2 s2 q2 F2 r2=>?_
  unfold Mini.boo at q2
  split at q2
  ·rename_i t e
   exact Y7 hu h1 F2.ok (F2.val F1.ok r1) r2 e (wpAny_truthy_bool (k _ _ _ _ q2 (F1.trans F2)))
  ·exact q2.elim
set_option tactic.hygienic true in
theorem Ba5 (hu:A.units+106<cLine) {o₁ o₂:Mini.Cmp}{a b c:Mini.E}(ha:E1 X A C a) (hb:E1 X A C b) (hcc:E1 X A C c):W6 X A C (.cmp2 o₁ o₂ a b c):=by
 intro re env nm ρ Q H φ s K EX hc L O h k
 refine Mini.zN hc fun a' o' p' b' c' p e9 hc9=>?_
 clear hc;subst e9
 ·simp only [Bool.and_eq_true] at hc9
  obtain ⟨⟨⟨⟨h1,h2⟩,h3⟩,h4⟩,h5⟩:=hc9
  replace h:=Mini.vD h
  refine isTrue_chain (ha _ env nm ρ _ H φ s _ EX h3 L O h fun va H1 φ1 x1 s1 q1 F1 r1=>?_) (by simpa [lastMarks] using gG h5 _)
  refine test_link (hb _ env nm ρ _ H1 φ1 s1 _ EX h4 (L.fwd O F1) F1.ok q1 fun vb H2 φ2 x2 s2 q2 F2 r2=>?_)
  unfold Mini.boo at q2
  split at q2
  ·rename_i t e
   refine Y7 hu h1 F2.ok (F2.val F1.ok r1) r2 e (wpAny_truthy_bool ?_)
   cases t with
   | false=>exact k _ _ _ _ q2 (F1.trans F2)
   | true =>
    refine test_last (hcc _ env nm ρ _ H2 φ2 s2 _ EX h5 ((L.fwd O F1).fwd F1.ok F2) F2.ok q2 fun vc H3 φ3 x3 s3 q3 F3 r3=>?_)
    split at q3
    ·rename_i t e
     exact Y7 hu h2 F3.ok (F3.val F2.ok r2) r3 e (wpAny_truthy_bool (k _ _ _ _ q3 ((F1.trans F2).trans F3)))
    ·exact q3.elim
  ·exact q2.elim
theorem Bz5 {e:Mini.E}{c:Mini.xJ}(he:E1 X A C e):W6 X A C (.is e c):=by
 intro re env nm ρ Q H φ s K EX hc L O h k
 refine Mini.Bk0 hc fun e' r' p e9 hc9=>?_
 clear hc;subst e9
 ·simp only [Bool.and_eq_true] at hc9
  replace h:=Mini.Cg6 h
  refine wpAny_isTrue_Compare1 (he _ env nm ρ _ H φ s _ EX hc9.1 L O h fun a H1 φ1 x1 s1 q1 F1 r1=>?_) (dB hc9.2 _)
  obtain ⟨y,ev,hp,hq⟩:=uD (X:=X) (A:=A) (env:=env) (s:=s1) r1 hc9.2
  refine ev (wpAny_is_plain hp ?_)
  rw [hq]
  exact wpAny_truthy_bool (k _ _ _ _ q1 F1)
theorem Am4 {e:Mini.E}{c:Mini.xJ}(he:E1 X A C e):W6 X A C (.isnot e c):=by
 intro re env nm ρ Q H φ s K EX hc L O h k
 refine Mini.sI hc fun e' r' p e9 hc9=>?_
 clear hc;subst e9
 ·simp only [Bool.and_eq_true] at hc9
  replace h:=Mini.zH h
  refine wpAny_isTrue_Compare1 (he _ env nm ρ _ H φ s _ EX hc9.1 L O h fun a H1 φ1 x1 s1 q1 F1 r1=>?_) (dB hc9.2 _)
  obtain ⟨y,ev,hp,hq⟩:=uD (X:=X) (A:=A) (env:=env) (s:=s1) r1 hc9.2
  refine ev (wpAny_isNot_plain hp ?_)
  rw [hq]
  exact wpAny_truthy_bool (k _ _ _ _ q1 F1)
noncomputable def mO (X:Cx) (A:Around) (C:Mini.Calls) (es:List Mini.E):Prop:=∀ e∈es,W6 X A C e
set_option tactic.hygienic true in
theorem jX:∀ (es:List Mini.E) (res:List Expr) (env:Env) (nm:List Str) (ρ:Mini.D7) (Q:Bool->Mini.Heap->Prop) (H:Mini.Heap) (φ:List Addr) (s:Shared) (K:Bool->Shared->Prop) (EX:Value->Shared->Prop) (p:Pos) (w:Sem Value),
  mO X A C es->Mini.J7 X.gl env.scope.names nm es res=true->H9 X φ nm env ρ s->Ok X.h₀ φ H s.heap->Mini.fG C es ρ (fun v H₁=>Mini.boo (Mini.J1 v) Q H₁) H ->
  (∀ b H' φ' s',Q b H'->I7 X.h₀ φ s φ' H' s'->K b s')->wpAny (M7 X) A (isTrue (.BoolOp .And res p) env w) K EX s
 | [],_,_,_,_,_,_,_,_,_,_,_,_,_,_,_,_,h,_=>False.elim h
 | e::es,res,env,nm,ρ,Q,H,φ,s,K,EX,p,w,hs,hc,L,O,h,k=>by
  cases res with
  | nil=>nomatch hc
  | cons re res =>
   replace hc:=Mini.D1 hc
   cases es with
   | nil =>
    cases res with
    | cons _ _=>nomatch hc
    | nil =>
     refine isTrue_and (hs e (by simp) _ env nm ρ Q H φ s _ EX hc.1 L O h fun b H1 φ1 s1 q F1=>?_)
     cases b with
     | false=>exact k _ _ _ _ q F1
     | true=>exact isTrue_and_nil (k _ _ _ _ q F1)
   | cons e2 es =>
    refine isTrue_and (hs e (by simp) _ env nm ρ (fun b H₁=>match b with
      | true=>Mini.fG C (e2::es) ρ (fun v H₁=>Mini.boo (Mini.J1 v) Q H₁) H₁
      | false=>Q false H₁) H φ s _ EX hc.1 L O ?_ fun b H1 φ1 s1 q F1=>?_)
    ·have e9:(fun v H₁=>Mini.boo (Mini.J1 v) (fun b H₁=>match b with
      | true=>Mini.fG C (e2::es) ρ (fun v H₁=>Mini.boo (Mini.J1 v) Q H₁) H₁
      | false=>Mini.boo (Mini.J1 v) Q H₁) H₁)=fun v H₁=>Mini.boo (Mini.J1 v) (fun b H₁=>match b with
      | true=>Mini.fG C (e2::es) ρ (fun v H₁=>Mini.boo (Mini.J1 v) Q H₁) H₁
      | false=>Q false H₁) H₁:=by
      funext v H₁
      cases v<;>try rfl
      rename_i b
      cases b<;>rfl
     exact Eq.mp (congrArg (fun q=>Mini.D9 C e ρ q H) e9) h
    ·cases b with
     | false=>exact k _ _ _ _ q F1
     | true=>exact jX (e2::es) res env nm ρ Q H1 φ1 s1 K EX p w (fun e' he'=>hs e' (List.mem_cons_of_mem _ he')) hc.2 (L.fwd O F1) F1.ok q fun b H2 φ2 s2 q2 F2=>k _ _ _ _ q2 (F1.trans F2)
set_option tactic.hygienic true in
theorem oO:∀ (es:List Mini.E) (res:List Expr) (env:Env) (nm:List Str) (ρ:Mini.D7) (Q:Bool->Mini.Heap->Prop) (H:Mini.Heap) (φ:List Addr) (s:Shared) (K:Bool->Shared->Prop) (EX:Value->Shared->Prop) (p:Pos) (w:Sem Value),
  mO X A C es->Mini.J7 X.gl env.scope.names nm es res=true->H9 X φ nm env ρ s->Ok X.h₀ φ H s.heap->Mini.tZ C es ρ (fun v H₁=>Mini.boo (Mini.J1 v) Q H₁) H ->
  (∀ b H' φ' s',Q b H'->I7 X.h₀ φ s φ' H' s'->K b s')->wpAny (M7 X) A (isTrue (.BoolOp .Or res p) env w) K EX s
 | [],_,_,_,_,_,_,_,_,_,_,_,_,_,_,_,_,h,_=>False.elim h
 | e::es,res,env,nm,ρ,Q,H,φ,s,K,EX,p,w,hs,hc,L,O,h,k=>by
  cases res with
  | nil=>nomatch hc
  | cons re res =>
   replace hc:=Mini.D1 hc
   cases es with
   | nil =>
    cases res with
    | cons _ _=>nomatch hc
    | nil =>
     refine isTrue_or (hs e (by simp) _ env nm ρ Q H φ s _ EX hc.1 L O h fun b H1 φ1 s1 q F1=>?_)
     cases b with
     | true=>exact k _ _ _ _ q F1
     | false=>exact isTrue_or_nil (k _ _ _ _ q F1)
   | cons e2 es =>
    refine isTrue_or (hs e (by simp) _ env nm ρ (fun b H₁=>match b with
      | true=>Q true H₁
      | false=>Mini.tZ C (e2::es) ρ (fun v H₁=>Mini.boo (Mini.J1 v) Q H₁) H₁) H φ s _ EX hc.1 L O ?_ fun b H1 φ1 s1 q F1=>?_)
    ·have e9:(fun v H₁=>Mini.boo (Mini.J1 v) (fun b H₁=>match b with
      | true=>Mini.boo (Mini.J1 v) Q H₁
      | false=>Mini.tZ C (e2::es) ρ (fun v H₁=>Mini.boo (Mini.J1 v) Q H₁) H₁) H₁)=fun v H₁=>Mini.boo (Mini.J1 v) (fun b H₁=>match b with
      | true=>Q true H₁
      | false=>Mini.tZ C (e2::es) ρ (fun v H₁=>Mini.boo (Mini.J1 v) Q H₁) H₁) H₁:=by
      funext v H₁
      cases v<;>try rfl
      rename_i b
      cases b<;>rfl
     exact Eq.mp (congrArg (fun q=>Mini.D9 C e ρ q H) e9) h
    ·cases b with
     | true=>exact k _ _ _ _ q F1
     | false=>exact oO (e2::es) res env nm ρ Q H1 φ1 s1 K EX p w (fun e' he'=>hs e' (List.mem_cons_of_mem _ he')) hc.2 (L.fwd O F1) F1.ok q fun b H2 φ2 s2 q2 F2=>k _ _ _ _ q2 (F1.trans F2)
theorem Bo6 {es:List Mini.E}(hs:mO X A C es):W6 X A C (.and es):=by
 intro re env nm ρ Q H φ s K EX hc L O h k
 refine Mini.Aw2 hc fun es' p e9 hc9=>?_
 clear hc;subst e9
 ·replace h:=Mini.Bj1 h
  exact jX es _ env nm ρ Q H φ s K EX _ _ hs hc9 L O h k
theorem Bz4 {es:List Mini.E}(hs:mO X A C es):W6 X A C (.or es):=by
 intro re env nm ρ Q H φ s K EX hc L O h k
 refine Mini.Bj9 hc fun es' p e9 hc9=>?_
 clear hc;subst e9
 ·replace h:=Mini.Cg5 h
  exact oO es _ env nm ρ Q H φ s K EX _ _ hs hc9 L O h k
end
end MiniS
namespace MiniS
open PySem PySem.Calls PyProof.Rows
open Mini (V D)
noncomputable def Own (env:Env) (b:Addr):Prop:=b=env.locals∨∃ x,env.cells.lookup x=some b
structure M8 (h₀:Heap) (env:Env) (φ:List Addr) (s:Shared) (φ':List Addr) (H':Mini.Heap) (s':Shared):Prop where
 same:∃ h' tk,s'={ s with heap:=h',toks:=tk }
 keep:∀ b o,b ∉ φ->¬ Own env b->s.heap.get? b=some o->s'.heap.get? b=some o
 size:s.heap.objs.size<=s'.heap.objs.size
 toks:s.toks<=s'.toks
 grow:∃ ψ,φ'=φ++ψ/\∀ a∈ψ,s.heap.objs.size<=a
 ok:Ok h₀ φ' H' s'.heap
theorem I7.toS {h₀ φ s φ' H' s'}(F:I7 h₀ φ s φ' H' s') (env:Env):M8 h₀ env φ s φ' H' s' :=
 ⟨F.step.same,fun b o h zz e=>F.step.keep b o h e,F.step.size,F.step.toks,F.grow,F.ok⟩
theorem M8.refl {h₀ env φ s H}(K:Ok h₀ φ H s.heap):M8 h₀ env φ s φ H s:=(I7.refl K).toS env
theorem M8.trans {h₀ env φ s φ₁ H₁ s₁ φ₂ H₂ s₂}(a:M8 h₀ env φ s φ₁ H₁ s₁) (b:M8 h₀ env φ₁ s₁ φ₂ H₂ s₂):M8 h₀ env φ s φ₂ H₂ s₂:=by
 obtain ⟨⟨h1,t1,e1⟩,k1,z1,w1,⟨ψ1,g1,m1⟩,o1⟩:=a
 obtain ⟨⟨h2,t2,e2⟩,k2,z2,w2,⟨ψ2,g2,m2⟩,o2⟩:=b
 refine ⟨⟨h2,t2,by rw [e2,e1]⟩,fun b o hb hn e=>?_,A3 z1 z2,A3 w1 w2,⟨ψ1++ψ2,by rw [g2,g1,A7],fun a ha=>?_⟩,o2⟩
 ·refine k2 b o ?_ hn (k1 b o hb hn e)
  rw [g1,List.mem_append,not_or]
  exact ⟨hb,fun hm=>absurd (Heap.lt_size e) (Nat.not_lt.mpr (m1 b hm))⟩
 ·rcases List.mem_append.mp ha with q | q
  ·exact m1 a q
  ·exact A3 z1 (m2 a q)
theorem M8.idx {h₀ env φ s φ' H' s'}(F:M8 h₀ env φ s φ' H' s'):∀ (i:Nat) (a:Addr),φ[i]? = some a->φ'[i]? = some a:=by
 obtain ⟨ψ,e,_⟩:=F.grow
 intro i a hi
 rw [e,List.getElem?_append_left (List.getElem?_eq_some_iff.mp hi).1];exact hi
theorem M8.fields {X:Cx}{env φ nm ρ s φ' H H' s'}(K:Ok X.h₀ φ H s.heap) (L:H9 X φ nm env ρ s) (F:M8 X.h₀ env φ s φ' H' s') {b:Addr}{o:Obj}{vs:Array Value}(hd:o.data=.fields vs)
  (e:s.heap.get? b=some o):s'.heap.get? b=some o:=by
 refine F.keep b o (fun hm=>?_) (fun hn=>?_) e
 ·obtain ⟨vs',n,e'⟩:=K.mem hm
  rw [e'] at e;cases e;simp at hd
 ·rcases hn with rfl | ⟨x,hx⟩
  ·obtain ⟨m,⟨o',es,ep,ho',hd',_⟩,_⟩:=L.locals
   rw [ho'] at e;cases e;rw [hd'] at hd;cases hd
  ·obtain ⟨ov,o',ho',hd'⟩:=L.cellAll x b hx
   rw [ho'] at e;cases e;rw [hd'] at hd;cases hd
theorem Ok.other {h₀ φ H h h'}{a:Addr}{o:Obj}(K:Ok h₀ φ H h) (hs:Heap.SameBut a h h') (ho:h.get? a=some o) (hn:∀ vs n,o.data≠.seq vs n) (hab:h₀.objs.size<=a):Ok h₀ φ H h':=by
 have hna:a ∉ φ:=fun hm=>by
  obtain ⟨vs,n,e⟩:=K.mem hm
  rw [e] at ho;cases ho;exact hn _ _ rfl
 have keep:∀ b o,b≠a->h.get? b=some o->h'.get? b=some o:=fun b o hb e=>(hs.2 b hb).trans e
 have tups:∀ b o,N2 o->h.get? b=some o->h'.get? b=some o:=fun b o' ht e=>keep b o' (by
  rintro rfl
  rw [e] at ho;cases ho
  obtain ⟨_,vs,n,hd⟩:=ht
  exact hn _ _ hd) e
 refine ⟨fun b o e=>keep b o (fun q=>?_) (K.base b o e),K.len,K.nodup,K.above,K.small,A3 K.room (Nat.le_of_eq hs.1.symm),fun i b l hi hl=>?_⟩
 ·subst q;exact absurd (Heap.lt_size e) (Nat.not_lt.mpr hab)
 ·obtain ⟨vs,⟨n,e⟩,r⟩:=K.lists i b l hi hl
  have hb:b≠a:=fun q=>hna (q▸B9 hi)
  exact ⟨vs,⟨n,keep b _ hb e⟩,C5.mono (fun zz zz q=>q) tups l r⟩
theorem oH {h₀ φ h h'}{a:Addr}{o:Obj}(hs:Heap.SameBut a h h') (ho:h.get? a=some o) (hn:∀ vs n,o.data≠.seq vs n) {v:V}{x:Value}(r:E7 h₀ φ h v x):E7 h₀ φ h' v x :=
 E7.mono (fun zz zz q=>q) (fun b o' ht e=>(hs.2 b (by
  rintro rfl
  rw [e] at ho;cases ho
  obtain ⟨_,vs,n,hd⟩:=ht
  exact hn _ _ hd)).trans e) v r
section
variable {X:Cx}{A:Around}{C:Mini.Calls}
theorem aU {ρ:Mini.D7}{x:Nat}{v:V}(h:x<ρ.length):((ρ.set x (some v))[x]?).getD none=some v:=by
 rw [List.getElem?_set_self h];rfl
theorem S7 {ρ:Mini.D7}{x y:Nat}{v:V}(h:x≠y):(ρ.set x (some v))[y]? = ρ[y]?:=List.getElem?_set_ne h
theorem aB {env:Env}{nm:List Str}{ρ:Mini.D7}{φ:List Addr}{H:Mini.Heap}{s:Shared}{K:Unit->Shared->Prop}{EX:Value->Shared->Prop}{id:Str}{x:Nat}{v:V}{y:Value}
  (L:H9 X φ nm env ρ s) (O:Ok X.h₀ φ H s.heap) (hx:nm[x]? = some id) (hl:Mini.R2 env.scope.names id=true) (hf:(env.scope.names.lookup id != some .free)=true) (hlit:X.gl.lits.contains x=false)
  (r:E7 X.h₀ φ s.heap v y) (k:∀ s',M8 X.h₀ env φ s φ H s'->H9 X φ nm env (ρ.set x (some v)) s'->K () s'):wpAny (M7 X) A (storeName env id y) K EX s:=by
 have hkind:env.kindOf id=env.scope.names.lookup id:=rfl
 have hxl:x<ρ.length:=by rw [L.len];exact (List.getElem?_eq_some_iff.mp hx).1
 have hxlit:x ∉ X.gl.lits:=by simpa using hlit
 have hone:∀ (i:Nat) (z:Str),nm[i]? = some z->z=id->i=x:=fun i z hz e=>by
  subst e
  exact (List.getElem?_inj (List.getElem?_eq_some_iff.mp hz).1 L.nodup).mp (hz.trans hx.symm)
 have hother:∀ (i:Nat) (z:Str),nm[i]? = some z->z≠id->i≠x:=fun i z hz e q=>by
  subst q
  rw [hx] at hz;cases hz;exact e rfl
 unfold Mini.R2 at hl
 split at hl
 ·rename_i e
  obtain ⟨m,hns,hm⟩:=L.locals
  obtain ⟨o,es,ep,ho,hd,_⟩:=_root_.id hns
  refine wpAny_storeName_local (hkind.trans e) hns (fun h' hn hs=>?_) (by rw [L.kind];rfl)
  have hnd:∀ vs n,o.data≠.seq vs n:=fun vs n q=>by rw [hd] at q;cases q
  have O':Ok X.h₀ φ H h':=O.other hs ho hnd L.above
  have hr:∀ v x,E7 X.h₀ φ s.heap v x->E7 X.h₀ φ h' v x:=fun v x q=>oH hs ho hnd q
  refine k _ ⟨⟨h',_,rfl⟩,fun b o hb hno e=>(hs.2 b fun q=>hno (Or.inl q)).trans e,Nat.le_of_eq hs.1.symm,B8 _,⟨[],by simp,by simp⟩,O'⟩ ?_
  refine ⟨L.kind,L.glob,L.blt,by simp [L.len],L.nodup,fun hp=>A8 (L.pos hp) (B8 _),⟨_,hn,fun i z hz hk=>?_⟩,fun i z hz hk=>?_,L.above,L.aboveC,fun z c hc=>?_,L.apart⟩
  ·by_cases hzi:z=id
   ·have:=hone i z hz hzi
    subst this
    rw [aU hxl,if_pos hzi]
    exact ⟨⟨y,rfl,hr _ _ r⟩,fun hi=>absurd hi hxlit⟩
   ·rw [S7 (Ne.symm (hother i z hz hzi)),if_neg hzi]
    exact ⟨(hm i z hz hk).1.mono hr,(hm i z hz hk).2.mono (B8 _)⟩
  ·obtain ⟨c,ov,hc,⟨oc,hoc,hdc⟩,q,lr⟩:=L.cells i z hz hk
   have hzi:z≠id:=by
    rintro rfl
    rw [hkind,e] at hk
    rcases hk with hk | hk<;>cases hk
   have hcl:c≠env.locals:=by
    rintro rfl
    rw [ho] at hoc;cases hoc;rw [hd] at hdc;cases hdc
   rw [S7 (Ne.symm (hother i z hz hzi))]
   exact ⟨c,ov,hc,⟨oc,(hs.2 c hcl).trans hoc,hdc⟩,q.mono hr,lr.mono (B8 _)⟩
  ·obtain ⟨ov,oc,hoc,hdc⟩:=L.cellAll z c hc
   have hcl:c≠env.locals:=by
    rintro rfl
    rw [ho] at hoc;cases hoc;rw [hd] at hdc;cases hdc
   exact ⟨ov,oc,(hs.2 c hcl).trans hoc,hdc⟩
 ·rename_i e
  obtain ⟨c,ov,hc,hcell,q,lr⟩:=L.cells x id hx (Or.inl (hkind.trans e))
  obtain ⟨o,ho,hd⟩:=_root_.id hcell
  refine wpAny_storeName_cell L.kind (hkind.trans e) hc hcell fun h' hn hs=>?_
  have hnd:∀ vs n,o.data≠.seq vs n:=fun vs n q=>by rw [hd] at q;cases q
  have O':Ok X.h₀ φ H h':=O.other hs ho hnd (L.aboveC _ _ hc)
  have hr:∀ v x,E7 X.h₀ φ s.heap v x->E7 X.h₀ φ h' v x:=fun v x q=>oH hs ho hnd q
  refine k _ ⟨⟨h',_,rfl⟩,fun b o hb hno e=>(hs.2 b fun q=>hno (Or.inr ⟨id,by rw [q];exact hc⟩)).trans e,Nat.le_of_eq hs.1.symm,A4 _,⟨[],by simp,by simp⟩,O'⟩ ?_
  refine ⟨L.kind,L.glob,L.blt,by simp [L.len],L.nodup,L.pos,?_,fun i z hz hk=>?_,L.above,L.aboveC,fun z c' hc'=>?_,L.apart⟩
  ·obtain ⟨m,hns,hm⟩:=L.locals
   obtain ⟨ol,es,ep,hol,hdl,rest⟩:=hns
   have hcl:env.locals≠c:=by
    intro q
    rw [q,ho] at hol;cases hol;rw [hd] at hdl;cases hdl
   refine ⟨m,⟨ol,es,ep,(hs.2 _ hcl).trans hol,hdl,rest⟩,fun i z hz hk=>?_⟩
   have hzi:z≠id:=by
    rintro rfl
    rw [hkind,e] at hk;cases hk
   rw [S7 (Ne.symm (hother i z hz hzi))]
   exact ⟨(hm i z hz hk).1.mono hr,(hm i z hz hk).2⟩
  ·obtain ⟨c',ov',hc',⟨oc,hoc,hdc⟩,q',lr'⟩:=L.cells i z hz hk
   by_cases hzi:z=id
   ·have:=hone i z hz hzi
    subst this
    subst hzi
    rw [hc] at hc';cases hc'
    rw [aU hxl]
    exact ⟨c,some y,hc,hn,⟨y,rfl,hr _ _ r⟩,fun hi=>absurd hi hxlit⟩
   ·have hcc:c'≠c:=by
     rintro rfl
     exact hzi (L.apart z id c' hc' hc)
    rw [S7 (Ne.symm (hother i z hz hzi))]
    exact ⟨c',ov',hc',⟨oc,(hs.2 c' hcc).trans hoc,hdc⟩,q'.mono hr,lr'⟩
  ·by_cases hcc:c'=c
   ·subst hcc;exact ⟨some y,hn⟩
   ·obtain ⟨ov',oc,hoc,hdc⟩:=L.cellAll z c' hc'
    exact ⟨ov',oc,(hs.2 c' hcc).trans hoc,hdc⟩
 ·rename_i e
  rw [e] at hf;simp at hf
 ·cases hl
end
end MiniS
namespace MiniS
open PySem
theorem yP (h:Heap) (a:Addr) (f:Obj->Obj):(h.update a f).objs.size=h.objs.size:=by
 obtain ⟨o,l⟩:=h
 simp [Heap.update]
theorem yQ (h:Heap) (o:Obj):(h.push o).objs.size=h.objs.size+1:=by
 obtain ⟨os,l⟩:=h
 simp [Heap.push]
theorem runs_size {M:Model}{Γ:Ctx}{p:Pos}{t:Sem Fin}{fs:List Frame}{s s':Shared}{e:End}(h:Runs M Γ p t fs s e s'):s.heap.objs.size<=s'.heap.objs.size:=by
 induction h<;>(try simp only [Shared.setGen,yP,yQ] at *)<;>lia
theorem wI {M:Model}{Γ:Ctx}{p:Pos}{s s':Shared}{r:Result}(h:Returns M Γ p s r s'):s.heap.objs.size<=s'.heap.objs.size:=runs_size h
theorem Al6 {M:Model}{Γ:Ctx}{p:Pos}{g:Nat}{r:Resume}{s s':Shared}{res:GenResult}(h:Wakes M Γ p g r s res s'):s.heap.objs.size<=s'.heap.objs.size:=by
 unfold Wakes at h
 split at h
 ·exact h.elim
 ·split at h
  ·obtain ⟨e₁,s₁,hr,_,_,rfl⟩:=h;exact (runs_size hr:(s.setGen g .running).heap.objs.size<=s₁.heap.objs.size)
  ·rw [h.2];exact A4 _
  ·rw [h.2];exact A4 _
 ·obtain ⟨e₁,s₁,hr,_,_,rfl⟩:=h;exact (runs_size hr:(s.setGen g .running).heap.objs.size<=s₁.heap.objs.size)
 ·rw [h.2];exact A4 _
 ·rw [h.2];exact A4 _
open Sem (wp)
theorem Bx2 {α:Type}(M:Model) (Γ:Ctx) (n:Nat) (t:Sem α):∀ (Q:α->Pos->Shared->Prop) (E:Value->Pos->Shared->Prop) (p:Pos) (s:Shared),n<=s.heap.objs.size->wp M Γ t Q E p s ->
  wp M Γ t (fun a p' s'=>n<=s'.heap.objs.size/\Q a p' s') (fun e p' s'=>n<=s'.heap.objs.size/\E e p' s') p s:=by
 induction t with
 | pure a=>intro Q E p s hn h;exact ⟨hn,h⟩
 | raise e=>intro Q E p s hn h;exact ⟨hn,h⟩
 | unsupported _=>intro Q E p s _ h;exact h
 | finish _=>intro Q E p s _ h;exact h
 | rule _ k ih=>intro Q E p s hn h;exact ih () Q E p s hn h
 | «at» p' k ih=>intro Q E p s hn h;exact ih () Q E p' s hn h
 | load a _ k ih=>intro Q E p s hn h;obtain ⟨o,ho,h⟩:=h;exact ⟨o,ho,ih o Q E p s hn h⟩
 | update a _ f k ih=>intro Q E p s hn h;exact ⟨h.1,ih () Q E p _ (by show n<=(s.heap.update a f).objs.size;rw [yP];exact hn) h.2⟩
 | loadIfAlive a k ih=>intro Q E p s hn h;exact ih _ Q E p s hn h
 | point _ k ih=>intro Q E p s hn h;exact ih () Q E p s hn h
 | register _ _=>intro Q E p s _ h;exact h
 | alloc o k ih=>intro Q E p s hn h;exact ih _ Q E p _ (by show n<=(s.heap.push o).objs.size;rw [yQ];exact Nat.le_succ_of_le hn) h
 | fresh k ih=>intro Q E p s hn h;exact ih _ Q E p _ hn h
 | ask k ih=>intro Q E p s hn h;exact ih _ Q E p s hn h
 | choose src m k ih=>intro Q E p s hn h;exact ⟨h.1,ih _ Q E p _ hn h.2⟩
 | os q _ k ih=>intro Q E p s hn h;exact ih _ Q E p _ hn h
 | call c hd _ _ k ih=>intro Q E p s hn h;obtain ⟨r,s',hr,h⟩:=h;exact ⟨r,s',hr,ih r Q E p s' (A3 hn (wI hr)) h⟩
 | handled own k ih=>intro Q E p s hn h;exact ih _ Q E p s hn h
 | genState g k ih=>intro Q E p s hn h;obtain ⟨st,hs,h⟩:=h;exact ⟨st,hs,ih _ Q E p s hn h⟩
 | newGen c k ih=>intro Q E p s hn h;exact ih _ Q E p _ hn h
 | resume g r _ k ih=>intro Q E p s hn h;obtain ⟨res,s',hw,h⟩:=h;exact ⟨res,s',hw,ih res Q E p s' (A3 hn (Al6 hw)) h⟩
 | yield _ _ _ _=>intro Q E p s _ h;exact h
 | stack k ih=>intro Q E p s hn h;exact ih _ Q E p s hn h
 | fork _ _=>intro Q E p s _ h;exact h
 | thread k ih=>intro Q E p s hn h;exact ih _ Q E p s hn h
 | await _ _ _ _ _=>intro Q E p s _ h;exact h
theorem rM {α:Type}{M:Model}{A:Around}{t:Sem α}{K:α->Shared->Prop}{EX:Value->Shared->Prop}{s:Shared}
  (h:wpAny M A t (fun x s'=>s.heap.objs.size<=s'.heap.objs.size->K x s') EX s):wpAny M A t K EX s :=
 fun Γ p hΓ=>Sem.wp_mono M Γ t (fun zz zz zz q=>q.2 q.1) (fun zz zz zz q=>q.2) p s (Bx2 M Γ s.heap.objs.size t _ _ p s (A4 _) (h Γ p hΓ))
end MiniS
namespace MiniS
open PySem PySem.Calls PyProof.Rows
open Mini (V D)
structure dH (I:Addr) (s s':Shared):Prop where
 same:∃ h' tk,s'={ s with heap:=h',toks:=tk }
 keep:∀ b o,b≠I->s.heap.get? b=some o->s'.heap.get? b=some o
 size:s.heap.objs.size<=s'.heap.objs.size
 toks:s.toks<=s'.toks
theorem dH.ok {h₀ φ H I s s'}{o:Obj}{vs:Array Value}(B:dH I s s') (K:Ok h₀ φ H s.heap) (ho:s.heap.get? I=some o) (hd:o.data=.fields vs) (hab:h₀.objs.size<=I):Ok h₀ φ H s'.heap:=by
 have hna:I ∉ φ:=fun hm=>by
  obtain ⟨vs',n,e⟩:=K.mem hm
  rw [e] at ho;cases ho;simp at hd
 have tups:∀ b o,N2 o->s.heap.get? b=some o->s'.heap.get? b=some o:=fun b o' ht e=>B.keep b o' (by
  rintro rfl
  rw [e] at ho;cases ho
  obtain ⟨_,vs',n,hd'⟩:=ht
  rw [hd] at hd';cases hd') e
 refine ⟨fun b o e=>B.keep b o (fun q=>?_) (K.base b o e),K.len,K.nodup,K.above,K.small,A3 K.room B.size,fun i b l hi hl=>?_⟩
 ·subst q;exact absurd (Heap.lt_size e) (Nat.not_lt.mpr hab)
 ·obtain ⟨vs',⟨n,e⟩,r⟩:=K.lists i b l hi hl
  have hb:b≠I:=fun q=>hna (q▸B9 hi)
  exact ⟨vs',⟨n,B.keep b _ hb e⟩,C5.mono (fun zz zz q=>q) tups l r⟩
theorem dH.val {h₀ φ I s s'}{o:Obj}{vs:Array Value}(B:dH I s s') (ho:s.heap.get? I=some o) (hd:o.data=.fields vs) {v:V}{x:Value}(r:E7 h₀ φ s.heap v x):E7 h₀ φ s'.heap v x :=
 E7.mono (fun zz zz q=>q) (fun b o' ht e=>B.keep b o' (by
  rintro rfl
  rw [e] at ho;cases ho
  obtain ⟨_,vs',n,hd'⟩:=ht
  rw [hd] at hd';cases hd') e) v r
theorem dH.env {X:Cx}{φ nm env ρ I s s'}{o:Obj}{vs:Array Value}(B:dH I s s') (L:H9 X φ nm env ρ s) (ho:s.heap.get? I=some o) (hd:o.data=.fields vs):H9 X φ nm env ρ s':=by
 have hr:∀ v x,E7 X.h₀ φ s.heap v x->E7 X.h₀ φ s'.heap v x:=fun v x r=>B.val ho hd r
 have hcell:∀ c ov,s.heap.IsCell c ov->s'.heap.IsCell c ov:=fun c ov hc=>by
  obtain ⟨oc,hoc,hdc⟩:=hc
  refine ⟨oc,B.keep c oc (fun q=>?_) hoc,hdc⟩
  subst q
  rw [ho] at hoc;cases hoc;rw [hd] at hdc;cases hdc
 refine ⟨L.kind,L.glob,L.blt,L.len,L.nodup,fun hp=>A8 (L.pos hp) B.toks,?_,?_,L.above,L.aboveC,fun x c hc=>?_,L.apart⟩
 ·obtain ⟨m,⟨ol,es,ep,hol,hdl,q⟩,hm⟩:=L.locals
  have hn:env.locals≠I:=fun e=>by
   rw [e,ho] at hol;cases hol;rw [hd] at hdl;cases hdl
  exact ⟨m,⟨ol,es,ep,B.keep _ _ hn hol,hdl,q⟩,fun i x hx hk=>⟨(hm i x hx hk).1.mono hr,(hm i x hx hk).2.mono B.toks⟩⟩
 ·intro i x hx hk
  obtain ⟨c,ov,hc,hcl,r,lr⟩:=L.cells i x hx hk
  exact ⟨c,ov,hc,hcell c ov hcl,r.mono hr,lr.mono B.toks⟩
 ·obtain ⟨ov,hcl⟩:=L.cellAll x c hc
  exact ⟨ov,hcell c ov hcl⟩
theorem M8.but {h₀ env φ₀ s₀ φ H I s s'}(F:M8 h₀ env φ₀ s₀ φ H s) (B:dH I s s') (hI:s₀.heap.objs.size<=I) (O:Ok h₀ φ H s'.heap):M8 h₀ env φ₀ s₀ φ H s':=by
 obtain ⟨⟨h1,t1,e1⟩,k1,z1,w1,g1,_⟩:=F
 obtain ⟨⟨h2,t2,e2⟩,k2,z2,w2⟩:=B
 exact ⟨⟨h2,t2,by rw [e2,e1]⟩,fun b o hb hn e=>k2 b o (fun q=>by
  subst q;exact absurd (Heap.lt_size e) (Nat.not_lt.mpr hI)) (k1 b o hb hn e),A3 z1 z2,A3 w1 w2,g1,O⟩
inductive ItOk (X:Cx) (φ:List Addr):Mini.It->Addr->Nat->Heap->Prop
 | lst {a:Nat}{p I:Addr}{i:Nat}{h:Heap}:φ[a]? = some p->h.IsListIter I p i->ItOk X φ (.lst a) I i h
 | frz {ns:List Int}{a:Addr}{items:List Value}{I:Addr}{i:Nat}{h:Heap}:X.h₀.IsList a items.toArray->bP ns items->h.IsListIter I a i->ItOk X φ (.fix (ns.map V.int)) I i h
 | str {l:List Nat}{ty:String}{t:Tok}{I:Addr}{i:Nat}{h:Heap}:(ty = "str_ascii_iterator" ∨ ty = "str_iterator")->h.IsStrIter I ty ⟨l.toArray⟩ t i->ItOk X φ (.fix (l.map fun c=>V.str [c])) I i h
 | rng {n:Nat}{I:Addr}{i:Nat}{h:Heap}:i<=n->IsRangeIter h I (i:Int) ((n:Int) - (i:Int)) 1->ItOk X φ (.fix ((List.range n).map fun k:Nat=>V.int (k:Int))) I i h
theorem ItOk.obj {X:Cx}{φ it I i h}(W:ItOk X φ it I i h):∃ o vs,h.get? I=some o/\o.data=.fields vs/\∀ φ' h',(∀ (j:Nat) (a:Addr),φ[j]? = some a->φ'[j]? = some a)->h'.get? I=some o->ItOk X φ' it I i h':=by
 cases W with
 | lst hp hi =>
  obtain ⟨o,ho,hc,hd⟩:=hi
  exact ⟨o,_,ho,hd,fun φ' h' hφ ho'=>.lst (hφ _ _ hp) ⟨o,ho',hc,hd⟩⟩
 | frz hl hn hi =>
  obtain ⟨o,ho,hc,hd⟩:=hi
  exact ⟨o,_,ho,hd,fun φ' h' hφ ho'=>.frz hl hn ⟨o,ho',hc,hd⟩⟩
 | str ht hi =>
  obtain ⟨o,ho,hc,hd⟩:=hi
  exact ⟨o,_,ho,hd,fun φ' h' hφ ho'=>.str ht ⟨o,ho',hc,hd⟩⟩
 | rng hle hi=>exact ⟨_,_,hi,rfl,fun φ' h' hφ ho'=>.rng hle ho'⟩
section
variable {X:Cx}{A:Around}{C:Mini.Calls}
theorem Au1 (hh:A.handled=none) {φ:List Addr}{H:Mini.Heap}{s:Shared}{it:Mini.It}{I:Addr}{i:Nat}{K:Option Value->Shared->Prop}{EX:Value->Shared->Prop}
  (O:Ok X.h₀ φ H s.heap) (W:ItOk X φ it I i s.heap)
  (hitem:∀ v x s',it.at H i=some v->E7 X.h₀ φ s'.heap v x->dH I s s'->ItOk X φ it I (i+1) s'.heap->K (some x) s')
  (hend:∀ s',it.at H i=none->dH I s s'->K none s'):wpAny (M7 X) A (pyNext (.ref I)) K EX s:=by
 have same:∀ {h':Heap}{tk:Nat},Heap.SameBut I s.heap h'->s.toks<=tk->dH I s { s with heap:=h',toks:=tk }:=fun hs ht =>
  ⟨⟨_,_,rfl⟩,fun b o hb e=>(hs.2 b hb).trans e,Nat.le_of_eq hs.1.symm,ht⟩
 obtain ⟨o,vs,hoI,hdI,_⟩:=W.obj
 have ext:∀ {h':Heap},Heap.ExtBut I s.heap h'->s.heap.objs.size<=h'.objs.size->dH I s { s with heap:=h' }:=fun hs hz =>
  ⟨⟨_,_,rfl⟩,fun b o hb e=>hs b o hb e,hz,A4 _⟩
 cases W with
 | @lst a p _ _ _ hp hi =>
  have hlt:a<H.length:=by rw [<- O.len];exact (List.getElem?_eq_some_iff.mp hp).1
  obtain ⟨l,hl⟩:∃ l,H[a]? = some l:=⟨_,List.getElem?_eq_getElem hlt⟩
  obtain ⟨vs',hpl,rs⟩:=O.lists _ _ _ hp hl
  cases hx:l[i]? with
  | some v =>
   obtain ⟨x,hx',rx⟩:=rs.get hx
   refine wpAny_pyNext_list_item hi hpl.isList (by simpa using hx') fun h' hi' hs=>?_
   have B:=same (tk:=s.toks) hs (A4 _)
   exact hitem v x _ (by simp [Mini.It.at,hl,hx]) (B.val hoI hdI rx) B (.lst hp hi')
  | none =>
   have hx':vs'[i]? = none:=by
    rw [List.getElem?_eq_none_iff] at hx ⊢
    rw [<- rs.length];exact hx
   exact rM (wpAny_pyNext_list_end hh hi hpl.isList (by simpa using hx') fun h' he hz=>hend _ (by simp [Mini.It.at,hl,hx]) (ext he hz))
 | @frz ns a items _ _ _ hl hn hi =>
  have rs:C5 X.h₀ φ s.heap (ns.map V.int) items:=hn.rels
  have hL:s.heap.IsList a items.toArray:=by obtain ⟨o,ho,r⟩:=hl;exact ⟨o,O.base _ _ ho,r⟩
  cases hx:(ns.map V.int)[i]? with
  | some v =>
   obtain ⟨x,hx',rx⟩:=rs.get hx
   refine wpAny_pyNext_list_item hi hL (by simpa using hx') fun h' hi' hs=>?_
   have B:=same (tk:=s.toks) hs (A4 _)
   exact hitem v x _ hx (B.val hoI hdI rx) B (.frz hl hn hi')
  | none =>
   have hx':items[i]? = none:=by
    rw [List.getElem?_eq_none_iff] at hx ⊢
    rw [<- rs.length];exact hx
   exact rM (wpAny_pyNext_list_end hh hi hL (by simpa using hx') fun h' he hz=>hend _ hx (ext he hz))
 | @str l ty t _ _ _ ht hi =>
  cases hx:l[i]? with
  | some c =>
   have hx':(Str.mk l.toArray).cps[i]? = some c:=by simpa using hx
   have hat:(Mini.It.fix (l.map fun c=>V.str [c])).at H i=some (.str [c]):=by simp [Mini.It.at,hx]
   rcases ht with rfl | rfl
   ·refine wpAny_pyNext_ascii_item hi hx' fun h' hi' hs=>?_
    exact hitem _ _ _ hat (aH (by simp [Mini.I8])) (same hs (B8 _)) (.str (Or.inl rfl) hi')
   ·refine wpAny_pyNext_wide_item hi hx' fun h' hi' hs=>?_
    exact hitem _ _ _ hat (aH (by simp [Mini.I8])) (same hs (B8 _)) (.str (Or.inr rfl) hi')
  | none =>
   have hx':(Str.mk l.toArray).cps[i]? = none:=by
    rw [List.getElem?_eq_none_iff] at hx
    simpa using hx
   have hat:(Mini.It.fix (l.map fun c=>V.str [c])).at H i=none:=by simp [Mini.It.at,hx]
   rcases ht with rfl | rfl
   ·exact rM (wpAny_pyNext_ascii_end hh hi hx' fun h' he hz=>hend _ hat (ext he hz))
   ·exact rM (wpAny_pyNext_wide_end hh hi hx' fun h' he hz=>hend _ hat (ext he hz))
 | @rng n _ _ _ hle hi =>
  by_cases hlt:i<n
  ·have hat:(Mini.It.fix ((List.range n).map fun k:Nat=>V.int (k:Int))).at H i=some (.int (i:Int)):=by simp [Mini.It.at,hlt]
   refine wpAny_pyNext_range_item hi (by lia) fun h' hi' hs=>?_
   refine hitem _ _ _ hat P6 (same hs (B8 _)) (.rng hlt ?_)
   have e1:((i:Int)+1)=((i+1:Nat):Int):=rfl
   have e2:((n:Int) - (i:Int) - 1)=(n:Int) - ((i+1:Nat):Int):=Int.sub_sub _ _ _
   rw [e1,e2] at hi'
   exact hi'
  ·have hat:(Mini.It.fix ((List.range n).map fun k:Nat=>V.int (k:Int))).at H i=none:=by simp [Mini.It.at];exact Mini.M4 (Nat.le_of_not_lt hlt)
   exact rM (wpAny_pyNext_range_end hh hi (by lia) fun h' he hz=>hend _ hat (ext he hz))
theorem Bz8 {φ:List Addr}{H:Mini.Heap}{s:Shared}{v:V}{x:Value}{it:Mini.It}{K:Value->Shared->Prop}{EX:Value->Shared->Prop}(O:Ok X.h₀ φ H s.heap) (r:E7 X.h₀ φ s.heap v x) (h:Mini.iterV v=some it)
  (k:∀ o s',s'={ s with heap:=s.heap.push o }->ItOk X φ it s.heap.objs.size 0 s'.heap->I7 X.h₀ φ s φ H s'->K (.ref s.heap.objs.size) s'):wpAny (M7 X) A (pyIter x) K EX s:=by
 cases v with
 | ref a =>
  cases h
  obtain ⟨p,hp,rfl⟩:=K1 r
  obtain ⟨vs,n,e⟩:=O.mem (B9 hp)
  exact wpAny_pyIter_list ⟨_,e,rfl,n,rfl⟩ (k _ _ rfl (.lst hp ⟨_,Heap.get?_push_size _ rfl,rfl,rfl⟩) (I7.push (tk:=s.toks) O))
 | frz a0 =>
  cases h
  obtain ⟨_,a,vs,rfl,hl,hn⟩:=bU r
  have hL:s.heap.IsList a vs.toArray:=by obtain ⟨o,ho,r⟩:=hl;exact ⟨o,O.base _ _ ho,r⟩
  exact wpAny_pyIter_list hL (k _ _ rfl (.frz hl hn ⟨_,Heap.get?_push_size _ rfl,rfl,rfl⟩) (I7.push (tk:=s.toks) O))
 | str l =>
  cases h
  obtain ⟨t,rfl⟩:=H5 r
  cases ha:(Str.mk l.toArray).cps.all (· < 128) with
  | true=>exact wpAny_pyIter_ascii ha (k _ _ rfl (.str (Or.inl rfl) ⟨_,Heap.get?_push_size _ rfl,rfl,rfl⟩) (I7.push (tk:=s.toks) O))
  | false=>exact wpAny_pyIter_wide ha (k _ _ rfl (.str (Or.inr rfl) ⟨_,Heap.get?_push_size _ rfl,rfl,rfl⟩) (I7.push (tk:=s.toks) O))
 | _=>exact nomatch (show Option.none=some _ from h)
theorem Bz7 {φ:List Addr}{s:Shared}{it:Mini.It}{I:Addr}{i:Nat}{K:Value->Shared->Prop}{EX:Value->Shared->Prop}(W:ItOk X φ it I i s.heap) (k:K (.ref I) s):wpAny (M7 X) A (pyIter (.ref I)) K EX s:=by
 cases W with
 | lst hp hi=>exact wpAny_pyIter_listiter hi k
 | frz hl hn hi=>exact wpAny_pyIter_listiter hi k
 | str ht hi =>
  rcases ht with rfl | rfl
  ·exact wpAny_pyIter_striter_ascii hi k
  ·exact wpAny_pyIter_striter_wide hi k
 | rng hle hi=>exact wpAny_pyIter_rangeiter hi k
set_option tactic.hygienic true in
theorem Bp0 {φ:List Addr}{H:Mini.Heap}{s:Shared}{v:V}{x:Value}{it:Mini.It}{K:Value->Shared->Prop}{EX:Value->Shared->Prop}(O:Ok X.h₀ φ H s.heap) (r:E7 X.h₀ φ s.heap v x) (h:Mini.rangeV v=some it)
  (k:∀ I s',s.heap.objs.size<=I->ItOk X φ it I 0 s'.heap->I7 X.h₀ φ s φ H s'->K (.ref I) s'):wpAny (M7 X) A (call (.type "range") [x]) (fun y s₁=>wpAny (M7 X) A (pyIter y) K EX s₁) EX s:=by
 unfold Mini.rangeV at h
 split at h
 ·rename_i n
  split at h
  ·rename_i hn
   cases h
   obtain ⟨t,rfl⟩:=E3 r
   refine call_range_1 ?_
   have F1:I7 X.h₀ φ s φ H { s with heap:=s.heap.push { cls:=.type "range",data:=.fields #[.int 0 s.toks,.int n t,.int 1 (s.toks+1)] },toks:=s.toks+1+1 }:=I7.push O
   ·refine wpAny_pyIter_range (IsRange.new ..) (small_one (by lia) (by lia) (by lia) (by lia)) ?_
    have F2:=I7.push (ob:={ cls:=.type "range_iterator",data:=.fields #[rawInt 0,rawInt (Builtin.Range.rangeSize 0 n 1),rawInt 1] }) (tk:=s.toks+1+1) F1.ok
    refine k _ _ ?_ (.rng (B0 _) ?_) (F1.trans F2)
    ·show s.heap.objs.size<=(s.heap.push _).objs.size
     rw [Heap.size_push];exact B8 _
    ·have e:Builtin.Range.rangeSize 0 n 1=((n.toNat:Nat):Int) - ((0:Nat):Int):=by
      rw [rangeSize_one];split<;>lia
     rw [e]
     exact Heap.get?_push_size _ rfl
  ·cases h
 ·cases h
end
end MiniS
namespace MiniS
open PySem PySem.Calls PyProof.Rows
open Mini (V D)
noncomputable def S2 (env:Env):List (Str×NameKind)->List (Str×Addr)->List (Str×Addr)
 | [],acc=>acc
 | (n,k)::r,acc=>if k==.free then S2 env r ((n,(env.cells.lookup n).getD 0)::acc) else S2 env r acc
theorem vB (env:Env) (f:Str×NameKind->List (Str×Addr)->Sem (ForInStep (List (Str×Addr)))) (hf:∀ n k cs,f (n,k) cs=if k==.free then (do let a <- cellOf env n;pure (.yield ((n,a)::cs))) else pure (.yield cs)) :
  ∀ (names:List (Str×NameKind)) (acc:List (Str×Addr)),(∀ x∈names,x.2=.free->(env.cells.lookup x.1).isSome=true)->(forIn names acc f:Sem (List (Str×Addr)))=pure (S2 env names acc)
 | [],acc,_=>by rw [List.forIn_nil];rfl
 | (n,k)::r,acc,h=>by
  rw [List.forIn_cons,hf]
  unfold S2
  cases hk:k==NameKind.free with
  | false =>
   simp only [Bool.false_eq_true,if_false]
   show (forIn r acc f:Sem _)=_
   exact vB env f hf r acc fun x hx=>h x (List.mem_cons_of_mem _ hx)
  | true =>
   simp only [if_true]
   have hs:=h (n,k) (by simp) (by simpa using hk)
   obtain ⟨c,hc⟩:=Option.isSome_iff_exists.mp hs
   have e:cellOf env n=pure c:=by unfold cellOf;simp only at hc;rw [hc]
   rw [e]
   simp only at hc
   rw [hc]
   show (forIn r ((n,c)::acc) f:Sem _)=_
   exact vB env f hf r _ fun x hx=>h x (List.mem_cons_of_mem _ hx)
theorem qX {scope:Scope}{env:Env}(h:∀ x∈scope.names,x.2=.free->(env.cells.lookup x.1).isSome=true):closureFor scope env=pure (S2 env scope.names []):=by
 unfold closureFor
 have:=vB env (fun x cs=>match x with | (name,kind)=>if kind==.free then (do let a <- cellOf env name;pure (.yield ((name,a)::cs))) else pure (.yield cs)) (fun n k cs=>rfl) scope.names [] h
 show (do let s <- forIn scope.names [] _;pure s)=_
 rw [this]
 rfl
theorem iV (env:Env):∀ (names:List (Str×NameKind)) (acc:List (Str×Addr)),(∀ x∈names,x.2=.free->(env.cells.lookup x.1).isSome=true)->(∀ x c,acc.lookup x=some c->env.cells.lookup x=some c) ->
  ∀ x c,(S2 env names acc).lookup x=some c->env.cells.lookup x=some c
 | [],_,_,ha,x,c,h=>ha x c h
 | (n,k)::r,acc,hn,ha,x,c,h=>by
  unfold S2 at h
  split at h
  ·rename_i hk
   refine iV env r _ (fun y hy=>hn y (List.mem_cons_of_mem _ hy)) (fun y d hd=>?_) x c h
   rw [List.lookup_cons] at hd
   split at hd
   ·rename_i e
    have e:y=n:=by simpa using e
    subst e
    cases hd
    obtain ⟨c',hc'⟩:=Option.isSome_iff_exists.mp (hn (y,k) (by simp) (by simpa using hk))
    simp only at hc'
    rw [hc'];rfl
   ·exact ha y d hd
  ·exact iV env r acc (fun y hy=>hn y (List.mem_cons_of_mem _ hy)) ha x c h
theorem iW (env:Env):∀ (names:List (Str×NameKind)) (acc:List (Str×Addr)) (x:Str),((x,NameKind.free)∈names∨(acc.lookup x).isSome=true)->((S2 env names acc).lookup x).isSome=true
 | [],_,_,h=>by
  rcases h with h | h
  ·cases h
  ·exact h
 | (n,k)::r,acc,x,h=>by
  unfold S2
  split
  ·rename_i hk
   refine iW env r _ x ?_
   rcases h with h | h
   ·rcases List.mem_cons.mp h with h | h
    ·cases h;right;simp
    ·exact Or.inl h
   ·right
    rw [List.lookup_cons]
    split
    ·rfl
    ·exact h
  ·rename_i hk
   refine iW env r _ x ?_
   rcases h with h | h
   ·rcases List.mem_cons.mp h with h | h
    ·cases h;simp at hk
    ·exact Or.inl h
   ·exact Or.inr h
theorem jY {scope:Scope}{env:Env}(hk:env.scope.kind=.function):(relabel scope env).names=Mini.P5 env.scope.names scope.names:=by
 unfold relabel Mini.P5
 simp only [hk]
 apply List.map_congr_left
 intro x _
 obtain ⟨n,k⟩:=x
 simp [Env.kindOf]
theorem gU {sc:List (Str×NameKind)}:∀ {names:List (Str×NameKind)}{z:Str}{k:NameKind},(Mini.P5 sc names).lookup z=some k->∃ k',names.lookup z=some k'/\(k=k'∨(k'=.free/\k=.cell))
 | [],_,_,h=>by simp [Mini.P5] at h
 | (n,k0)::r,z,k,h=>by
  unfold Mini.P5 at h
  simp only [List.map_cons] at h
  by_cases hz:z=n
  ·subst hz
   by_cases hc:(k0==NameKind.free&&sc.lookup z==some NameKind.cell)=true
   ·rw [if_pos hc] at h
    simp at h
    refine ⟨k0,by simp,Or.inr ⟨?_,h.symm⟩⟩
    simp at hc;exact hc.1
   ·rw [if_neg hc] at h
    simp at h
    exact ⟨k0,by simp,Or.inl h.symm⟩
  ·have hb:(z==n)=false:=by simpa using hz
   have:(Mini.P5 sc r).lookup z=some k:=by
    unfold Mini.P5
    by_cases hc:(k0==NameKind.free&&sc.lookup n==some NameKind.cell)=true
    ·rw [if_pos hc] at h
     simpa [List.lookup_cons,hb] using h
    ·rw [if_neg hc] at h
     simpa [List.lookup_cons,hb] using h
   obtain ⟨k',e,q⟩:=gU this
   exact ⟨k',by simp [List.lookup_cons,hb,e],q⟩
section
variable {X:Cx}{A:Around}{C:Mini.Calls}
structure Aj0 (env:Env) (nm:List Str) (id:Str) (scope:Scope):Prop where
 kind:scope.kind=.function
 loc:scope.names.lookup id=some .local
 nocell:∀ x∈scope.names,x.2≠.cell
 locs:∀ x∈scope.names,x.2=.local->scope.names.lookup x.1=some .local/\(x.1=id∨x.1 ∉ nm)
 frees:∀ x∈scope.names,x.2=.free->x.1∈nm/\(env.kindOf x.1=some .cell∨env.kindOf x.1=some .free)
theorem iU {env:Env}{nm:List Str}{id:Str}{scope:Scope}(h:Mini.P3 env.scope.names nm id scope=true):Aj0 env nm id scope:=by
 unfold Mini.P3 at h
 simp only [Bool.and_eq_true,List.all_eq_true,beq_iff_eq,bne_iff_ne,Bool.or_eq_true] at h
 obtain ⟨⟨⟨h1,h2⟩,h3⟩,h4⟩:=h
 refine ⟨h1,h2,fun x hx=>(h3 x hx).1,fun x hx hl=>?_,fun x hx hf=>?_⟩
 ·rcases (h3 x hx).2 with q | q
  ·exact absurd hl q
  ·refine ⟨q.1,q.2.imp _root_.id fun q=>by simpa using q⟩
 ·rcases h4 x hx with q | q
  ·exact absurd hf q
  ·exact ⟨by simpa using q.1,q.2⟩
end
end MiniS
namespace MiniS
open PySem PySem.Calls PyProof.Rows
open Mini (V D)
theorem dH.ok' {h₀ φ H a s s'}{o:Obj}(B:dH a s s') (K:Ok h₀ φ H s.heap) (hna:a ∉ φ) (ho:s.heap.get? a=some o) (ht:¬ N2 o) (hab:h₀.objs.size<=a):Ok h₀ φ H s'.heap:=by
 have tups:∀ b o,N2 o->s.heap.get? b=some o->s'.heap.get? b=some o:=fun b o' h e=>B.keep b o' (by
  rintro rfl
  rw [e] at ho;cases ho;exact ht h) e
 refine ⟨fun b o e=>B.keep b o (fun q=>?_) (K.base b o e),K.len,K.nodup,K.above,K.small,A3 K.room B.size,fun i b l hi hl=>?_⟩
 ·subst q;exact absurd (Heap.lt_size e) (Nat.not_lt.mpr hab)
 ·obtain ⟨vs',⟨n,e⟩,r⟩:=K.lists i b l hi hl
  have hb:b≠a:=fun q=>hna (q▸B9 hi)
  exact ⟨vs',⟨n,B.keep b _ hb e⟩,C5.mono (fun zz zz q=>q) tups l r⟩
theorem dH.val' {h₀ φ a s s'}{o:Obj}(B:dH a s s') (ho:s.heap.get? a=some o) (ht:¬ N2 o) {v:V}{x:Value}(r:E7 h₀ φ s.heap v x):E7 h₀ φ s'.heap v x :=
 E7.mono (fun zz zz q=>q) (fun b o' h e=>B.keep b o' (by
  rintro rfl
  rw [e] at ho;cases ho;exact ht h) e) v r
theorem dH.vals' {h₀ φ a s s'}{o:Obj}(B:dH a s s') (ho:s.heap.get? a=some o) (ht:¬ N2 o) {v:List V}{x:List Value}(r:C5 h₀ φ s.heap v x):C5 h₀ φ s'.heap v x :=
 C5.mono (fun zz zz q=>q) (fun b o' h e=>B.keep b o' (by
  rintro rfl
  rw [e] at ho;cases ho;exact ht h) e) v r
theorem dH.env' {X:Cx}{φ nm env ρ a s s'}{o:Obj}(B:dH a s s') (L:H9 X φ nm env ρ s) (ho:s.heap.get? a=some o) (ht:¬ N2 o) (hd1:∀ es ep,o.data≠.dict es ep) (hd2:∀ ov,o.data≠.cell ov):H9 X φ nm env ρ s':=by
 have hr:∀ v x,E7 X.h₀ φ s.heap v x->E7 X.h₀ φ s'.heap v x:=fun v x r=>B.val' ho ht r
 have hcell:∀ c ov,s.heap.IsCell c ov->s'.heap.IsCell c ov:=fun c ov hc=>by
  obtain ⟨oc,hoc,hdc⟩:=hc
  refine ⟨oc,B.keep c oc (fun q=>?_) hoc,hdc⟩
  subst q
  rw [ho] at hoc;cases hoc;exact hd2 _ hdc
 refine ⟨L.kind,L.glob,L.blt,L.len,L.nodup,fun hp=>A8 (L.pos hp) B.toks,?_,?_,L.above,L.aboveC,fun x c hc=>?_,L.apart⟩
 ·obtain ⟨m,⟨ol,es,ep,hol,hdl,q⟩,hm⟩:=L.locals
  have hn:env.locals≠a:=fun e=>by
   rw [e,ho] at hol;cases hol;exact hd1 _ _ hdl
  exact ⟨m,⟨ol,es,ep,B.keep _ _ hn hol,hdl,q⟩,fun i x hx hk=>⟨(hm i x hx hk).1.mono hr,(hm i x hx hk).2.mono B.toks⟩⟩
 ·intro i x hx hk
  obtain ⟨c,ov,hc,hcl,r,lr⟩:=L.cells i x hx hk
  exact ⟨c,ov,hc,hcell c ov hcl,r.mono hr,lr.mono B.toks⟩
 ·obtain ⟨ov,hcl⟩:=L.cellAll x c hc
  exact ⟨ov,hcell c ov hcl⟩
theorem I7.but {h₀ φ₀ s₀ φ H a s s'}(F:I7 h₀ φ₀ s₀ φ H s) (B:dH a s s') (ha:s₀.heap.objs.size<=a) (O:Ok h₀ φ H s'.heap):I7 h₀ φ₀ s₀ φ H s':=by
 obtain ⟨⟨⟨h1,t1,e1⟩,k1,z1,w1⟩,g1,_⟩:=F
 obtain ⟨⟨h2,t2,e2⟩,k2,z2,w2⟩:=B
 exact ⟨⟨⟨h2,t2,by rw [e2,e1]⟩,fun b o hb e=>k2 b o (fun q=>by
  subst q;exact absurd (Heap.lt_size e) (Nat.not_lt.mpr ha)) (k1 b o hb e),A3 z1 z2,A3 w1 w2⟩,g1,O⟩
theorem dH.of_same {a:Addr}{s:Shared}{h':Heap}{tk:Nat}(hs:Heap.SameBut a s.heap h') (ht:s.toks<=tk:=by first | exact A4 _ | exact B8 _):dH a s { s with heap:=h',toks:=tk } :=
 ⟨⟨_,_,rfl⟩,fun b o hb e=>(hs.2 b hb).trans e,Nat.le_of_eq hs.1.symm,ht⟩
theorem P4 {o:Obj}{es:Array DictEntry}{ep}(h:o.data=.dict es ep):¬ N2 o:=by
 rintro ⟨_,vs,n,e⟩;rw [h] at e;cases e
theorem W3 {o:Obj}{vs:Array Value}(h:o.data=.fields vs):¬ N2 o:=by
 rintro ⟨_,vs,n,e⟩;rw [h] at e;cases e
theorem gV {o:Obj}(h:o.cls=.type "list"):¬ N2 o:=by
 rintro ⟨e,_⟩;rw [h] at e;simp at e
theorem Ok.add {h₀ φ H h}{a:Addr}{l:List V}{vs:List Value}(K:Ok h₀ φ H h) (hna:a ∉ φ) (hab:h₀.objs.size<=a) (hp:h.PlainList a vs.toArray) (r:C5 h₀ φ h l vs) (hl:l.length<=Mini.I8):Ok h₀ (φ++[a]) (H++[l]) h:=by
 have hi:∀ (i:Nat) (b:Addr),φ[i]? = some b->(φ++[a])[i]? = some b:=fun i b e=>by
  rw [List.getElem?_append_left (List.getElem?_eq_some_iff.mp e).1];exact e
 refine ⟨K.base,by simp [K.len],?_,?_,?_,K.room,?_⟩
 ·rw [List.nodup_append]
  refine ⟨K.nodup,by simp,fun b hb c hc=>?_⟩
  simp at hc;subst hc
  rintro rfl;exact hna hb
 ·intro b hb
  rcases List.mem_append.mp hb with q | q
  ·exact K.above b q
  ·simp at q;subst q;exact hab
 ·intro l' hl'
  rcases List.mem_append.mp hl' with q | q
  ·exact K.small l' q
  ·simp at q;subst q;exact hl
 ·intro i b l' e el
  by_cases hlt:i<φ.length
  ·rw [List.getElem?_append_left hlt] at e
   rw [List.getElem?_append_left (by rw [<- K.len];exact hlt)] at el
   obtain ⟨vs',p,r'⟩:=K.lists i b l' e el
   exact ⟨vs',p,C5.mono hi (fun a o zz q=>q) l' r'⟩
  ·have hle:φ.length<=i:=Nat.le_of_not_lt hlt
   rw [List.getElem?_append_right hle] at e
   rw [List.getElem?_append_right (by rw [<- K.len];exact hle)] at el
   have:i - φ.length=0:=by
    cases h:i - φ.length with
    | zero=>rfl
    | succ k=>rw [h] at e;simp at e
   rw [this] at e
   rw [<- K.len,this] at el
   simp at e el
   subst e;subst el
   exact ⟨vs,hp,C5.mono hi (fun a o zz q=>q) _ r⟩
theorem I7.add {h₀ φ₀ s₀ φ H s}{a:Addr}{l:List V}{vs:List Value}(F:I7 h₀ φ₀ s₀ φ H s) (hna:a ∉ φ) (ha:s₀.heap.objs.size<=a) (hab:h₀.objs.size<=a) (hp:s.heap.PlainList a vs.toArray) (r:C5 h₀ φ s.heap l vs) (hl:l.length<=Mini.I8) :
  I7 h₀ φ₀ s₀ (φ++[a]) (H++[l]) s:=by
 obtain ⟨st,⟨ψ,g,m⟩,O⟩:=F
 refine ⟨st,⟨ψ++[a],by rw [g,A7],fun b hb=>?_⟩,O.add hna hab hp r hl⟩
 rcases List.mem_append.mp hb with q | q
 ·exact m b q
 ·simp at q;subst q;exact ha
section
variable {X:Cx}{A:Around}{C:Mini.Calls}
theorem Ad4 {env:Env}{nm:List Str}{ρ:Mini.D7}{φ:List Addr}{s:Shared}{K:Unit->Shared->Prop}{EX:Value->Shared->Prop}{id:Str}{x:Nat}{v:V}{y:Value}
  (L:H9 X φ nm env ρ s) (hx:nm[x]? = some id) (e:env.kindOf id=some .local) (hxlit:x ∉ X.gl.lits)
  (r:E7 X.h₀ φ s.heap v y) (k:∀ s',dH env.locals s s'->H9 X φ nm env (ρ.set x (some v)) s'->K () s'):wpAny (M7 X) A (storeName env id y) K EX s:=by
 have hxl:x<ρ.length:=by rw [L.len];exact (List.getElem?_eq_some_iff.mp hx).1
 have hone:∀ (i:Nat) (z:Str),nm[i]? = some z->z=id->i=x:=fun i z hz e=>by
  subst e
  exact (List.getElem?_inj (List.getElem?_eq_some_iff.mp hz).1 L.nodup).mp (hz.trans hx.symm)
 have hother:∀ (i:Nat) (z:Str),nm[i]? = some z->z≠id->i≠x:=fun i z hz e q=>by
  subst q
  rw [hx] at hz;cases hz;exact e rfl
 obtain ⟨m,hns,hm⟩:=L.locals
 obtain ⟨o,es,ep,ho,hd,_⟩:=_root_.id hns
 refine wpAny_storeName_local e hns (fun h' hn hs=>?_) (by rw [L.kind];rfl)
 have B:dH env.locals s { s with heap:=h',toks:=s.toks+1 }:=dH.of_same hs
 have hr:∀ v x,E7 X.h₀ φ s.heap v x->E7 X.h₀ φ h' v x:=fun v x q=>B.val' ho (P4 hd) q
 refine k _ B ?_
 refine ⟨L.kind,L.glob,L.blt,by simp [L.len],L.nodup,fun hp=>A8 (L.pos hp) (B8 _),⟨_,hn,fun i z hz hk=>?_⟩,fun i z hz hk=>?_,L.above,L.aboveC,fun z c hc=>?_,L.apart⟩
 ·by_cases hzi:z=id
  ·have:=hone i z hz hzi
   subst this
   rw [aU hxl,if_pos hzi]
   exact ⟨⟨y,rfl,hr _ _ r⟩,fun hi=>absurd hi hxlit⟩
  ·rw [S7 (Ne.symm (hother i z hz hzi)),if_neg hzi]
   exact ⟨(hm i z hz hk).1.mono hr,(hm i z hz hk).2.mono (B8 _)⟩
 ·obtain ⟨c,ov,hc,⟨oc,hoc,hdc⟩,q,lr⟩:=L.cells i z hz hk
  have hzi:z≠id:=by
   rintro rfl
   rw [e] at hk
   rcases hk with hk | hk<;>cases hk
  have hcl:c≠env.locals:=by
   rintro rfl
   rw [ho] at hoc;cases hoc;rw [hd] at hdc;cases hdc
  rw [S7 (Ne.symm (hother i z hz hzi))]
  exact ⟨c,ov,hc,⟨oc,(hs.2 c hcl).trans hoc,hdc⟩,q.mono hr,lr.mono (B8 _)⟩
 ·obtain ⟨ov,oc,hoc,hdc⟩:=L.cellAll z c hc
  have hcl:c≠env.locals:=by
   rintro rfl
   rw [ho] at hoc;cases hoc;rw [hd] at hdc;cases hdc
  exact ⟨ov,oc,(hs.2 c hcl).trans hoc,hdc⟩
theorem Bp1 {env:Env}{nm:List Str}{ρ:Mini.D7}{φ:List Addr}{s:Shared}{id:Str}{x:Nat}{scope:Scope}{Ca:Addr}(L:H9 X φ nm env ρ s) (W:Aj0 env nm id scope) (hx:nm[x]? = some id)
  (hn:s.heap.Ns Ca fun zz=>none) (hab:X.h₀.objs.size<=Ca) :
  H9 X φ nm (compEnvC scope (S2 env scope.names []) Ca env) (ρ.set x none) s:=by
 have hclos:∀ y∈scope.names,y.2=.free->(env.cells.lookup y.1).isSome=true:=fun y hy hf=>by
  obtain ⟨hm,hk⟩:=W.frees y hy hf
  obtain ⟨i,hi⟩:=List.getElem?_of_mem hm
  obtain ⟨c,ov,hc,_⟩:=L.cells i _ hi hk
  rw [hc];rfl
 have hsub:=iV env scope.names [] hclos (fun x c h=>by simp at h)
 have hlook:∀ z k,(compEnvC scope (S2 env scope.names []) Ca env).kindOf z=some k->∃ k',scope.names.lookup z=some k'/\(k=k'∨(k'=.free/\k=.cell)):=fun z k h=>by
  have h:(relabel scope env).names.lookup z=some k:=h
  rw [jY L.kind] at h
  exact gU h
 refine ⟨W.kind,L.glob,L.blt,by simp [L.len],L.nodup,L.pos,⟨_,hn,fun i z hz hk=>?_⟩,fun i z hz hk=>?_,hab,fun z c hc=>L.aboveC z c (hsub z c hc),fun z c hc=>L.cellAll z c (hsub z c hc),fun y z c hy hz=>L.apart y z c (hsub y c hy) (hsub z c hz)⟩
 ·obtain ⟨k',hk',e⟩:=hlook z _ hk
  rcases e with rfl | ⟨_,e⟩
  ·obtain ⟨_,e | e⟩:=W.locs (z,.local) (mem_of_lookup hk') rfl
   ·have:i=x:=by
     simp only at e;subst e
     exact (List.getElem?_inj (List.getElem?_eq_some_iff.mp hz).1 L.nodup).mp (hz.trans hx.symm)
    subst this
    refine ⟨?_,fun zz y hy=>by cases hy⟩
    rw [List.getElem?_set_self (by rw [L.len];exact (List.getElem?_eq_some_iff.mp hz).1)]
    trivial
   ·exact absurd (B9 hz) e
  ·cases e
 ·have hf:scope.names.lookup z=some .free:=by
   rcases hk with hk | hk
   ·obtain ⟨k',hk',e⟩:=hlook z _ hk
    rcases e with rfl | ⟨rfl,_⟩
    ·exact absurd rfl (W.nocell _ (mem_of_lookup hk'))
    ·exact hk'
   ·obtain ⟨k',hk',e⟩:=hlook z _ hk
    rcases e with rfl | ⟨rfl,_⟩
    ·exact hk'
    ·exact hk'
  obtain ⟨hm,hk2⟩:=W.frees (z,.free) (mem_of_lookup hf) rfl
  obtain ⟨c,ov,hc,hcl,r,lr⟩:=L.cells i z hz hk2
  obtain ⟨c',hc'⟩:=Option.isSome_iff_exists.mp (iW env scope.names [] z (Or.inl (mem_of_lookup hf)))
  have e:=hsub z c' hc'
  rw [hc] at e;cases e
  have hix:i≠x:=by
   rintro rfl
   rw [hx] at hz;cases hz
   rw [W.loc] at hf;cases hf
  refine ⟨c,ov,hc',hcl,?_,lr⟩
  rw [List.getElem?_set_ne (Ne.symm hix)];exact r
theorem jU {env:Env}:∀ (ifs:List Expr),(forIn ifs false fun c r=>if r=true then do let ok <- isTrue c env (eval c env);pure (ForInStep.yield ok) else pure (ForInStep.yield r):Sem Bool)=pure false
 | []=>rfl
 | c::ifs=>by
  rw [List.forIn_cons]
  simp only [Bool.false_eq_true,if_false]
  show (forIn ifs false _:Sem Bool)=_
  have:=jU (env:=env) ifs
  simpa using this
theorem rT:∀ (ifs:List Mini.E) (ifs':List Expr) (env:Env) (nm:List Str) (ρ:Mini.D7) (Q:Bool->Mini.Heap->Prop) (H:Mini.Heap) (φ:List Addr) (s:Shared) (K:Bool->Shared->Prop) (EX:Value->Shared->Prop),
  (∀ e∈ifs,W6 X A C e)->Mini.J7 X.gl env.scope.names nm ifs ifs'=true->H9 X φ nm env ρ s->Ok X.h₀ φ H s.heap->Mini.Q7 C ifs ρ Q H ->
  (∀ b H' φ' s',Q b H'->I7 X.h₀ φ s φ' H' s'->K b s') ->
  wpAny (M7 X) A (forIn ifs' true fun c r=>if r=true then do let ok <- isTrue c env (eval c env);pure (ForInStep.yield ok) else pure (ForInStep.yield r)) K EX s
 | [],ifs',env,nm,ρ,Q,H,φ,s,K,EX,_,hc,L,O,h,k=>by
  cases ifs' with
  | cons _ _=>nomatch hc
  | nil =>
   exact wpAny_tests_nil (k _ _ _ _ h (I7.refl O))
 | e::es,ifs',env,nm,ρ,Q,H,φ,s,K,EX,hs,hc,L,O,h,k=>by
  cases ifs' with
  | nil=>nomatch hc
  | cons re res =>
   replace hc:=Mini.D1 hc
   rw [List.forIn_cons]
   simp only [if_true]
   refine wpAny_bind (wpAny_bind (hs e (by simp) re env nm ρ _ H φ s _ EX hc.1 L O h fun b H1 φ1 s1 q F1=>wpAny_pure ?_))
   cases b with
   | false =>
    show wpAny (M7 X) A (forIn res false _) K EX s1
    exact wpAny_of_eq (jU (env:=env) res) (k _ _ _ _ q F1)
   | true =>
    exact rT es res env nm ρ Q H1 φ1 s1 K EX (fun e' he'=>hs e' (List.mem_cons_of_mem _ he')) hc.2 (L.fwd O F1) F1.ok q fun b H2 φ2 s2 q2 F2=>k _ _ _ _ q2 (F1.trans F2)
structure Ca0 (X:Cx) (Q:List V->Mini.Heap->Prop) (φ₀:List Addr) (s₀:Shared) (Da Ca:Addr) (s':Shared):Prop where
 ex:∃ acc H' φ' vs m,Q acc H'/\I7 X.h₀ φ₀ s₀ φ' H' s'/\Da ∉ φ'/\s'.heap.PlainList Da vs.toArray/\C5 X.h₀ φ' s'.heap acc vs/\acc.length<=Mini.I8/\s'.heap.Ns Ca m
 D:s₀.heap.objs.size<=Da
 C:s₀.heap.objs.size<=Ca
 ne:Da≠Ca
theorem rY (hh:A.handled=none) {elt:Mini.E}{ifs:List Mini.E}(he:E1 X A C elt) (ht:∀ e∈ifs,W6 X A C e)
  {env:Env}{nm:List Str}{ρ:Mini.D7}{φ:List Addr}{H:Mini.Heap}{s₀ s:Shared}{I:Addr}{it:Mini.It}{x n:Nat}{id:Str}{scope:Scope}{elt' iter:Expr}{ifs':List Expr}{pos px:Pos}
  {Q:List V->Mini.Heap->Prop}{R:Value->Addr->Result->Shared->Prop}{EX:Value->Shared->Prop}
  (L:H9 X φ nm env ρ s) (F0:I7 X.h₀ φ s₀ φ H s) (hroom:X.h₀.objs.size<=s₀.heap.objs.size) (W:ItOk X φ it I 0 s.heap) (hI:s₀.heap.objs.size<=I) (hx:nm[x]? = some id) (hlit:X.gl.lits.contains x=false)
  (hsc:Mini.P3 env.scope.names nm id scope=true) (h1:Mini.D0 X.gl (Mini.P5 env.scope.names scope.names) nm elt elt'=true) (h2:Mini.J7 X.gl (Mini.P5 env.scope.names scope.names) nm ifs ifs'=true)
  (hwp:Mini.T3 (Mini.Q7 C ifs) (Mini.D9 C elt) x ρ it n 0 [] Q H) (k:∀ Da Ca s',Ca0 X Q φ s₀ Da Ca s'->R (.ref Da) Ca (.ok .next) s') :
  wpAny (M7 X) A (newList []) (fun acc s₃ =>
   wpAny (M7 X) A (newFunctionEnv scope env.globals (S2 env scope.names []) [] env.qual none .none (some env)) (fun cenv s₄ =>
    codeAny (M7 X) A (.compStart (.ListComp elt' [⟨.Name id px,iter,ifs',0⟩] scope pos) 0 (.ref I) acc { cenv with scope:=relabel scope env }) (R acc cenv.locals) s₄) EX s₃) EX s:=by
 have CW:=iU hsc
 have hkd:(compEnvC scope (S2 env scope.names []) default env).scope.kind=.function:=CW.kind
 refine wpAny_newObj_type (hd:=iR (by simp)) (wpAny_newFunctionEnv CW.nocell (by intro y hy;simp at hy) (fun h₁ hns hsb=>?_) CW.kind)
 dsimp only at hns hsb ⊢
 generalize hH2:s.heap.push { cls:=.type "list",dict:=none,data:=.seq ([]:List Value).toArray }=H2 at hns hsb ⊢
 have hC:H2.objs.size=s.heap.objs.size+1:=by rw [<- hH2,Heap.size_push]
 generalize hDa:s.heap.objs.size=Da at hC ⊢
 generalize hCa:H2.objs.size=Ca at hC hns hsb ⊢
 have hz0:=F0.step.size
 have hIlt:@LT.lt Nat _ I Da:=by
  obtain ⟨o,vs,ho,_⟩:=W.obj
  rw [<- hDa];exact Heap.lt_size ho
 have hC:@Eq Nat Ca (Da+1):=hC
 have hDa:@Eq Nat s.heap.objs.size Da:=hDa
 have hDC:@LT.lt Nat _ Da Ca:=by rw [hC];exact B1 _
 have old:∀ b o,s.heap.get? b=some o->h₁.get? b=some o:=fun b o e=>by
  have:=Heap.lt_size e
  have hne:b≠Ca:=by
   have:@LT.lt Nat _ b s.heap.objs.size:=this
   exact Nat.ne_of_lt (Nat.lt_trans (hDa▸this) hDC)
  exact hsb.extBut b o hne (Heap.get?_push_of_some _ (hH2▸Heap.get?_push_of_some _ e))
 have hDCne:Da≠Ca:=Nat.ne_of_lt hDC
 have hDIne:Da≠I:=Nat.ne_of_gt hIlt
 have hICne:I≠Ca:=Nat.ne_of_lt (Nat.lt_trans hIlt hDC)
 have zD:s₀.heap.objs.size<=Da:=A3 hI (B5 hIlt)
 have zC:s₀.heap.objs.size<=Ca:=A3 zD (B5 hDC)
 have zC0:X.h₀.objs.size<=Ca:=A3 hroom zC
 have zD0:X.h₀.objs.size<=Da:=A3 hroom zD
 have zI0:X.h₀.objs.size<=I:=A3 hroom hI
 have hDobj:h₁.PlainList Da ([]:List Value).toArray:=⟨0,hsb.extBut _ _ hDCne (Heap.get?_push_of_some _ (hH2▸hDa▸Heap.get?_push_size _ rfl))⟩
 have hz1:@LT.lt Nat _ Ca h₁.objs.size:=hns.lt
 have F1:I7 X.h₀ φ s φ H { s with heap:=h₁,toks:=s.toks+([]:List (Str×Value)).length }:=I7.ext F0.ok old (by show @LE.le Nat _ s.heap.objs.size h₁.objs.size;rw [hDa];exact B5 (Nat.lt_trans hDC hz1)) (A4 _)
 have L1:=Bp1 (Ca:=Ca) (L.fwd F0.ok F1) CW hx (by simpa using hns) zC0
 have hna:∀ a,s.heap.objs.size<=a->a ∉ φ:=fun a ha hm=>absurd (F0.ok.lt hm) (Nat.not_lt.mpr ha)
 obtain ⟨oI,vI,hoI,hdI,hItk⟩:=W.obj
 let J:Nat->Shared->Prop:=fun k st=>∃ i acc H' φ' ov vs,Mini.T3 (Mini.Q7 C ifs) (Mini.D9 C elt) x ρ it k i acc Q H'/\I7 X.h₀ φ s₀ φ' H' st /\
  H9 X φ' nm (compEnvC scope (S2 env scope.names []) Ca env) (ρ.set x ov) st/\ItOk X φ' it I i st.heap/\Da ∉ φ'/\st.heap.PlainList Da vs.toArray/\C5 X.h₀ φ' st.heap acc vs/\acc.length<=Mini.I8
 have hJ:J n { s with heap:=h₁,toks:=s.toks+([]:List (Str×Value)).length } :=
  ⟨0,[],H,φ,none,[],hwp,F0.trans F1,L1,hItk φ h₁ (fun zz zz q=>q) (old _ _ hoI),hna _ (Nat.le_of_eq hDa),hDobj,C5.nil,by simp⟩
 have names:(compEnvC scope (S2 env scope.names []) Ca env).scope.names=Mini.P5 env.scope.names scope.names:=jY L.kind
 have kid:(compEnvC scope (S2 env scope.names []) Ca env).kindOf id=some .local:=lookup_relabel_local CW.loc
 have loop:∀ st,J n st->codeAny (M7 X) A (.compLoop (.ListComp elt' [⟨.Name id px,iter,ifs',0⟩] scope pos) 0 (.ref I) (.ref Da) (compEnvC scope (S2 env scope.names []) Ca env)) (R (.ref Da) Ca) st:=by
  intro st hst
  refine codeAny_compLoop_tests J (fun k0 st hst=>?_) n hst
  obtain ⟨i,acc,H',φ',ov,vs,hw,F,LE,WI,hD,hDp,rs,hlen⟩:=hst
  cases k0 with
  | zero=>exact False.elim hw
  | succ k0 =>
   replace hw:(match it.at H' i with | none=>_ | some v=>_):=hw
   obtain ⟨oJ,vJ,hoJ,hdJ,hJk⟩:=WI.obj
   refine Au1 hh F.ok WI (fun v y s' hat ry B WI'=>?_) (fun s' hat B=>?_)
   ·rw [hat] at hw
    simp only at hw
    have hDI:Da≠I:=hDIne
    have O1:=B.ok F.ok hoJ hdJ zI0
    have F2:=F.but B hI O1
    have LE2:=B.env LE hoJ hdJ
    have hDp2:s'.heap.PlainList Da vs.toArray:=by obtain ⟨m,e⟩:=hDp;exact ⟨m,B.keep _ _ hDI e⟩
    have rs2:=B.vals' hoJ (W3 hdJ) rs
    refine wpAny_assign_Name (Ad4 LE2 hx kid (by simpa using hlit) ry fun s2 B2 LE3=>?_)
    rw [List.set_set] at LE3
    obtain ⟨m2,⟨o2,es2,ep2,ho2,hd2,_⟩,_⟩:=LE2.locals
    have hCD:Da≠Ca:=hDCne
    have hIC:I≠Ca:=hICne
    have hCφ:Ca ∉ φ':=fun hm=>by
     obtain ⟨vs',n',e'⟩:=O1.mem hm
     have ho2:s'.heap.get? Ca=some o2:=ho2
     rw [e'] at ho2;cases ho2;cases hd2
    have O2:=B2.ok' O1 hCφ ho2 (P4 hd2) zC0
    have F3:=F2.but B2 zC O2
    have hDp3:s2.heap.PlainList Da vs.toArray:=by obtain ⟨m,e⟩:=hDp2;exact ⟨m,B2.keep _ _ hCD e⟩
    have rs3:=B2.vals' ho2 (P4 hd2) rs2
    obtain ⟨oK,vK,hoK,hdK,hKk⟩:=WI'.obj
    have WI2:=hKk φ' s2.heap (fun zz zz q=>q) (B2.keep _ _ hIC hoK)
    refine rT ifs ifs' _ nm _ _ H' φ' s2 _ _ ht (by rw [names];exact h2) LE3 O2 hw fun b H3 φ3 s3 q3 F4=>?_
    have hDφ:∀ {φa sa φb Hb sb},Da ∉ φa->(∃ m:Nat,sa.heap.get? Da=some { cls:=.type "list",data:=.seq vs.toArray m })->I7 X.h₀ φa sa φb Hb sb->Da ∉ φb:=fun h0 hm Fx hmem=>by
     obtain ⟨ψ,e,hψ⟩:=Fx.grow
     rw [e] at hmem
     rcases List.mem_append.mp hmem with q | q
     ·exact h0 q
     ·obtain ⟨m,em⟩:=hm
      exact absurd (Heap.lt_size em) (Nat.not_lt.mpr (hψ _ q))
    have LE4:=LE3.fwd O2 F4
    have hD4:Da ∉ φ3:=hDφ hD hDp3 F4
    have hDp4:s3.heap.PlainList Da vs.toArray:=by obtain ⟨m,e⟩:=hDp3;exact ⟨m,F4.step.keep _ _ hD e⟩
    have rs4:=F4.vals O2 rs3
    obtain ⟨oM,vM,hoM,hdM,hMk⟩:=WI2.obj
    have keepI:∀ {φa Ha sa φb Hb sb},Ok X.h₀ φa Ha sa.heap->ItOk X φa it I (i+1) sa.heap->I7 X.h₀ φa sa φb Hb sb->ItOk X φb it I (i+1) sb.heap:=fun Oa Wa Fx=>by
     obtain ⟨oN,vN,hoN,hdN,hNk⟩:=Wa.obj
     refine hNk _ _ Fx.idx (Fx.step.keep _ _ (fun hm=>?_) hoN)
     obtain ⟨vs',n',e'⟩:=Oa.mem hm
     rw [e'] at hoN;cases hoN;simp at hdN
    have WI4:=keepI O2 WI2 F4
    have F5:=F3.trans F4
    cases b with
    | false =>
     simp only at q3
     simp only [Bool.false_eq_true,if_false]
     exact ⟨k0,B1 _,i+1,acc,H3,φ3,_,vs,q3,F5,LE4,WI4,hD4,hDp4,rs4,hlen⟩
    | true =>
     simp only at q3
     simp only [if_true]
     refine he elt' _ nm _ _ H3 φ3 s3 _ _ (by rw [names];exact h1) LE4 F4.ok q3 fun w H6 φ6 y6 s6 q6 F6 r6=>?_
     obtain ⟨hlt,q6⟩:=q6
     have hD6:Da ∉ φ6:=hDφ hD4 hDp4 F6
     obtain ⟨m6,hDp6⟩:s6.heap.PlainList Da vs.toArray:=by obtain ⟨m,e⟩:=hDp4;exact ⟨m,F6.step.keep _ _ hD4 e⟩
     have rs6:=F6.vals F4.ok rs4
     have WI6:=keepI F4.ok WI4 F6
     have LE6:=LE4.fwd F4.ok F6
     have hz:vs.toArray.size<=sizeLine:=by rw [F9];simp [<- rs6.length];exact Mini.M4 hlen
     refine call_meets PySem.F.slot_list_append ⟨_,hDp6,rfl⟩ PySem.F.entry_list_append (PySem.F.args_list_append_2 _ _) (list_append Da _ m6 y6 hz) ⟨hDp6,?_⟩
     have B7:dH Da s6 { s6 with heap:=s6.heap.update Da (Obj.mapSeq fun xs=>xs.push y6),toks:=s6.toks }:=dH.of_same (Heap.SameBut.update s6.heap Da (Obj.mapSeq fun xs=>xs.push y6))
     have nt:¬ N2 { cls:=.type "list",data:=.seq vs.toArray m6 }:=gV rfl
     have O7:=B7.ok' F6.ok hD6 hDp6 nt zD0
     have F7:=(F5.trans F6).but B7 zD O7
     have hp7:PySem.Heap.PlainList (s6.heap.update Da (Obj.mapSeq fun xs=>xs.push y6)) Da (vs++[y6]).toArray:=⟨_,by
      have:=IsL.update hDp6 (fun xs=>xs.push y6)
      rwa [List.push_toArray] at this⟩
     have rs7:=B7.vals' hDp6 nt (rs6.append (C5.one r6))
     have LE7:=B7.env' LE6 hDp6 nt (fun zz zz h=>by cases h) (fun zz h=>by cases h)
     obtain ⟨oN,vN,hoN,hdN,hNk⟩:=WI6.obj
     refine ⟨k0,B1 _,i+1,acc++[w],H6,φ6,_,vs++[y6],q6,F7,LE7,hNk _ _ (fun zz zz q=>q) (B7.keep _ _ (Ne.symm hDI) hoN),hD6,hp7,rs7,by simp;exact Mini.M4 hlt⟩
   ·rw [hat] at hw
    simp only at hw
    have O1:=B.ok F.ok hoJ hdJ zI0
    have F2:=F.but B hI O1
    have LE2:=B.env LE hoJ hdJ
    obtain ⟨m2,hns2,_⟩:=LE2.locals
    have hDp2:s'.heap.PlainList Da vs.toArray:=by obtain ⟨m,e⟩:=hDp;exact ⟨m,B.keep _ _ hDIne e⟩
    exact k Da Ca s' ⟨⟨acc,H',φ',vs,m2,hw,F2,hD,hDp2,B.vals' hoJ (W3 hdJ) rs,hlen,hns2⟩,zD,zC,hDCne⟩
 refine codeAny_compStart_list (loop _ hJ) (Bz7 (hItk φ h₁ (fun zz zz q=>q) (old _ _ hoI)) (loop _ hJ))
end
end MiniS
namespace MiniS
open PySem PySem.Calls PyProof.Rows
open Mini (V D)
theorem dH.env2 {X:Cx}{φ nm env ρ a s s'}{o:Obj}(B:dH a s s') (L:H9 X φ nm env ρ s) (ho:s.heap.get? a=some o) (ht:¬ N2 o) (hl:env.locals≠a) (hcs:∀ x,env.cells.lookup x≠some a):H9 X φ nm env ρ s':=by
 have hr:∀ v x,E7 X.h₀ φ s.heap v x->E7 X.h₀ φ s'.heap v x:=fun v x r=>B.val' ho ht r
 have hcell:∀ x c ov,env.cells.lookup x=some c->s.heap.IsCell c ov->s'.heap.IsCell c ov:=fun x c ov hx hc=>by
  obtain ⟨oc,hoc,hdc⟩:=hc
  exact ⟨oc,B.keep c oc (fun q=>hcs x (q▸hx)) hoc,hdc⟩
 refine ⟨L.kind,L.glob,L.blt,L.len,L.nodup,fun hp=>A8 (L.pos hp) B.toks,?_,?_,L.above,L.aboveC,fun x c hc=>?_,L.apart⟩
 ·obtain ⟨m,⟨ol,es,ep,hol,hdl,q⟩,hm⟩:=L.locals
  exact ⟨m,⟨ol,es,ep,B.keep _ _ hl hol,hdl,q⟩,fun i x hx hk=>⟨(hm i x hx hk).1.mono hr,(hm i x hx hk).2.mono B.toks⟩⟩
 ·intro i x hx hk
  obtain ⟨c,ov,hc,hcl,r,lr⟩:=L.cells i x hx hk
  exact ⟨c,ov,hc,hcell x c ov hc hcl,r.mono hr,lr.mono B.toks⟩
 ·obtain ⟨ov,hcl⟩:=L.cellAll x c hc
  exact ⟨ov,hcell x c ov hc hcl⟩
theorem Bg3 {gl sc nm e re}(h:Mini.D0 gl sc nm e re=true) (env:Env) (x:Value):foldedSetIterable re env x=pure x:=by
 have h:=(Mini.jN h).form
 cases re<;>first | rfl | nomatch h
section
variable {X:Cx}{A:Around}{C:Mini.Calls}
noncomputable def As4 (X:Cx) (φ:List Addr) (s:Shared) (Q:Mini.It->Mini.Heap->Prop) (s₁:Shared) (y:Value) (s₂:Shared):Prop :=
 ∃ it I H1 φ1,y=.ref I/\I7 X.h₀ φ s φ1 H1 s₁/\I7 X.h₀ φ1 s₁ φ1 H1 s₂/\ItOk X φ1 it I 0 s₂.heap/\s₁.heap.objs.size<=I/\Q it H1
theorem eU {src:Mini.E}(hs:E1 X A C src) {re:Expr}{env:Env}{nm:List Str}{ρ:Mini.D7}{φ:List Addr}{H:Mini.Heap}{s:Shared}{EX:Value->Shared->Prop}{Q:Mini.It->Mini.Heap->Prop}
  (hc:Mini.D0 X.gl env.scope.names nm src re=true) (L:H9 X φ nm env ρ s) (O:Ok X.h₀ φ H s.heap)
  (h:Mini.D9 C src ρ (fun v H₁=>match Mini.iterV v with
   | some it=>Q it H₁
   | none=>False) H):wpAny (M7 X) A (eval re env) (fun x s₁=>wpAny (M7 X) A (pyIter x) (As4 X φ s Q s₁) EX s₁) EX s:=by
 refine hs re env nm ρ _ H φ s _ EX hc L O h fun v H1 φ1 x s1 q F1 r=>?_
 cases hi:Mini.iterV v with
 | none=>simp only [hi] at q
 | some it =>
  simp only [hi] at q
  refine Bz8 F1.ok r hi fun o s' e W F2=>⟨it,_,H1,φ1,rfl,F1,F2,W,A4 _,q⟩
theorem cH (G:iB X) {src:Mini.E}(hs:E1 X A C src) {re fn:Expr}{p:Pos}{env:Env}{nm:List Str}{ρ:Mini.D7}{φ:List Addr}{H:Mini.Heap}{s:Shared}{EX:Value->Shared->Prop}{Q:Mini.It->Mini.Heap->Prop}
  (hf:Mini.P8 env.scope.names "range" fn=true) (hc:Mini.D0 X.gl env.scope.names nm src re=true) (L:H9 X φ nm env ρ s) (O:Ok X.h₀ φ H s.heap)
  (h:Mini.D9 C src ρ (fun v H₁=>match Mini.rangeV v with
   | some it=>Q it H₁
   | none=>False) H):wpAny (M7 X) A (eval (.Call fn [re] [] p) env) (fun x s₁=>wpAny (M7 X) A (pyIter x) (fun y s₂=>∃ s₁',As4 X φ s Q s₁' y s₂/\I7 X.h₀ φ s φ H s) EX s₁) EX s:=by
 refine ty1 G (by decide) hs hc hf L O h fun v H1 φ1 x s1 q F1 r=>?_
 cases hi:Mini.rangeV v with
 | none=>simp only [hi] at q
 | some it =>
  simp only [hi] at q
  exact Bp0 F1.ok r hi fun I s' hI W F2=>⟨s1,⟨it,_,H1,φ1,rfl,F1,F2,W,hI,q⟩,I7.refl O⟩
abbrev Cg4 (C:Mini.Calls) (ifs:List Mini.E) (elt:Mini.E) (x:Nat) (ρ:Mini.D7) (Q:V->Mini.Heap->Prop) (it:Mini.It) (H₁:Mini.Heap):Prop :=
 ∃ n,Mini.T3 (Mini.Q7 C ifs) (Mini.D9 C elt) x ρ it n 0 [] (fun vs H₂=>Q (.ref H₂.length) (H₂++[vs])) H₁
theorem hclos {env:Env}{nm:List Str}{ρ:Mini.D7}{φ:List Addr}{s:Shared}{id:Str}{scope:Scope}(L:H9 X φ nm env ρ s) (W:Aj0 env nm id scope):closureFor scope env=pure (S2 env scope.names []) :=
 qX fun y hy hf=>by
  obtain ⟨hm,hk⟩:=W.frees y hy hf
  obtain ⟨i,hi⟩:=List.getElem?_of_mem hm
  obtain ⟨c,ov,hc,_⟩:=L.cells i _ hi hk
  rw [hc];rfl
theorem rX (hh:A.handled=none) {elt:Mini.E}{ifs:List Mini.E}(he:E1 X A C elt) (ht:∀ e∈ifs,W6 X A C e)
  {env:Env}{nm:List Str}{ρ:Mini.D7}{φ:List Addr}{H:Mini.Heap}{s:Shared}{x:Nat}{id:Str}{scope:Scope}{elt' iter:Expr}{ifs':List Expr}{pos px:Pos}
  {Q:V->Mini.Heap->Prop}{K EX:Value->Shared->Prop}(L:H9 X φ nm env ρ s) (O:Ok X.h₀ φ H s.heap) (hx:nm[x]? = some id) (hlit:X.gl.lits.contains x=false)
  (hsc:Mini.P3 env.scope.names nm id scope=true) (h1:Mini.D0 X.gl (Mini.P5 env.scope.names scope.names) nm elt elt'=true) (h2:Mini.J7 X.gl (Mini.P5 env.scope.names scope.names) nm ifs ifs'=true)
  (hns:∀ y,foldedSetIterable iter env y=pure y)
  (hf:wpAny (M7 X) A (eval iter env) (fun x' s₁=>wpAny (M7 X) A (pyIter x') (fun y s₂=>∃ s₁',As4 X φ s (Cg4 C ifs elt x ρ Q) s₁' y s₂/\I7 X.h₀ φ s φ H s) EX s₁) EX s)
  (k:U0 X Q φ s K):wpAny (M7 X) A (eval (.ListComp elt' [⟨.Name id px,iter,ifs',0⟩] scope pos) env) K EX s:=by
 have W:=iU hsc
 show wpAny (M7 X) A (comprehension (.ListComp elt' [⟨.Name id px,iter,ifs',0⟩] scope pos) scope env _ (newList []) false (eval iter env) none) K EX s
 refine wpAny_comprehension_free rfl hns (hclos L W) W.kind (fun y hy hl=>(W.locs y hy hl).1) (wpAny_mono hf (fun x1 s1 hx1=>wpAny_mono hx1 (fun y s2 hy=>?_) fun zz zz q=>q) fun zz zz q=>q)
 obtain ⟨s1',⟨it,I,H1,φ1,rfl,F1,F2,WI,hI,n,hw⟩,_⟩:=hy
 refine rY (R:=compPost (M7 X) A EX none K) hh he ht (L.fwd O (F1.trans F2)) F2 (A3 O.room F1.step.size) WI hI hx hlit hsc h1 h2 hw fun Da Ca s' E=>?_
 obtain ⟨acc,H',φ',vs,m,q,F,hD,hp,rs,hl,hn⟩:=E.ex
 refine ⟨m,hn,fun h' hsb=>?_⟩
 have zD:=A3 (A3 O.room F1.step.size) E.D
 have zC:=A3 (A3 O.room F1.step.size) E.C
 have Fa:=F.add hD E.D zD hp rs hl
 have B:dH Ca s' { s' with heap:=h',toks:=s'.toks }:=dH.of_same hsb
 obtain ⟨o,es,ep,ho,hd,_⟩:=hn
 have hCn:Ca ∉ φ'++[Da]:=fun hm=>by
  obtain ⟨_,_,e⟩:=Fa.ok.mem hm
  rw [e] at ho;cases ho;cases hd
 have Fb:=Fa.but B E.C (B.ok' Fa.ok hCn ho (P4 hd) zC)
 exact k _ _ _ _ _ q (F1.trans Fb) (eN (by rw [<- F.ok.len];simp))
theorem yX (hh:A.handled=none) {elt:Mini.E}{ifs:List Mini.E}(he:E1 X A C elt) (ht:∀ e∈ifs,W6 X A C e)
  {env:Env}{nm:List Str}{ρ:Mini.D7}{φ:List Addr}{H:Mini.Heap}{s:Shared}{x:Nat}{id:Str}{scope:Scope}{elt' iter:Expr}{ifs':List Expr}{pos px:Pos}{z:Nat}{tgt:Str}{pt:Pos}
  {Q:V->Mini.Heap->Prop}{K:Unit->Shared->Prop}{EX:Value->Shared->Prop}(L:H9 X φ nm env ρ s) (O:Ok X.h₀ φ H s.heap) (hx:nm[x]? = some id) (hlit:X.gl.lits.contains x=false)
  (hsc:Mini.P3 env.scope.names nm id scope=true) (h1:Mini.D0 X.gl (Mini.P5 env.scope.names scope.names) nm elt elt'=true) (h2:Mini.J7 X.gl (Mini.P5 env.scope.names scope.names) nm ifs ifs'=true)
  (hns:∀ y,foldedSetIterable iter env y=pure y)
  (hz:nm[z]? = some tgt) (hzl:Mini.R2 env.scope.names tgt=true) (hzf:(env.scope.names.lookup tgt != some .free)=true) (hzlit:X.gl.lits.contains z=false)
  (hf:wpAny (M7 X) A (eval iter env) (fun x' s₁=>wpAny (M7 X) A (pyIter x') (fun y s₂=>∃ s₁',As4 X φ s (Cg4 C ifs elt x ρ Q) s₁' y s₂/\I7 X.h₀ φ s φ H s) EX s₁) EX s)
  (k:∀ v H' φ' s',Q v H'->M8 X.h₀ env φ s φ' H' s'->H9 X φ' nm env (ρ.set z (some v)) s'->K () s') :
  wpAny (M7 X) A (evalThenUse (.ListComp elt' [⟨.Name id px,iter,ifs',0⟩] scope pos) env (assign (.Name tgt pt) env)) K EX s:=by
 have W:=iU hsc
 show wpAny (M7 X) A (do let _ <- comprehension (.ListComp elt' [⟨.Name id px,iter,ifs',0⟩] scope pos) scope env _ (newList []) false (eval iter env) (some (assign (.Name tgt pt) env))) K EX s
 refine wpAny_bind ?_
 refine wpAny_comprehension_free rfl hns (hclos L W) W.kind (fun y hy hl=>(W.locs y hy hl).1) (wpAny_mono hf (fun x1 s1 hx1=>wpAny_mono hx1 (fun y s2 hy=>?_) fun zz zz q=>q) fun zz zz q=>q)
 obtain ⟨s1',⟨it,I,H1,φ1,rfl,F1,F2,WI,hI,n,hw⟩,_⟩:=hy
 refine rY (R:=compPost (M7 X) A EX (some (assign (.Name tgt pt) env)) _) hh he ht (L.fwd O (F1.trans F2)) F2 (A3 O.room F1.step.size) WI hI hx hlit hsc h1 h2 hw fun Da Ca s' E=>?_
 obtain ⟨acc,H',φ',vs,m,q,F,hD,hp,rs,hl,hn⟩:=E.ex
 have zD:=A3 (A3 O.room F1.step.size) E.D
 have zC:=A3 (A3 O.room F1.step.size) E.C
 have Fa:=F1.trans (F.add hD E.D zD hp rs hl)
 have L1:=L.fwd O Fa
 have hLC:@LT.lt Nat _ env.locals Ca:=by
  obtain ⟨_,hns,_⟩:=L.locals
  exact A8 hns.lt (A3 F1.step.size E.C)
 have hcC:∀ y,env.cells.lookup y≠some Ca:=fun y hy=>by
  obtain ⟨ov,oc,hoc,_⟩:=L.cellAll y Ca hy
  exact absurd (Heap.lt_size hoc) (Nat.not_lt.mpr (A3 F1.step.size E.C))
 show wpAny (M7 X) A (assign (.Name tgt pt) env (.ref Da)) _ EX s'
 refine wpAny_assign_Name (aB (v:=.ref H'.length) L1 Fa.ok hz hzl hzf hzlit (eN (by rw [<- F.ok.len];simp)) fun s2 F3 L3=>?_)
 obtain ⟨o,es,ep,ho,hd,hrest⟩:=hn
 have hCn:Ca ∉ φ'++[Da]:=fun hm=>by
  obtain ⟨_,_,e⟩:=Fa.ok.mem hm
  rw [e] at ho;cases ho;cases hd
 have ho2:s2.heap.get? Ca=some o:=F3.keep _ _ hCn (fun hown=>by
  rcases hown with q | ⟨y,hy⟩
  ·rw [<- q] at hLC;exact Nat.lt_irrefl _ hLC
  ·exact hcC y hy) ho
 refine ⟨m,⟨o,es,ep,ho2,hd,hrest⟩,fun h' hsb=>?_⟩
 have B:dH Ca s2 { s2 with heap:=h',toks:=s2.toks }:=dH.of_same hsb
 have O4:=B.ok' F3.ok hCn ho2 (P4 hd) zC
 have F4:=((Fa.toS env).trans F3).but B (A3 F1.step.size E.C) O4
 exact wpAny_pure (k _ _ _ _ q F4 (B.env2 L3 ho2 (P4 hd) (Nat.ne_of_lt hLC) hcC))
theorem Bn6 (hh:A.handled=none) {elt src:Mini.E}{x:Nat}{ifs:List Mini.E}(he:E1 X A C elt) (hs:E1 X A C src) (ht:∀ e∈ifs,W6 X A C e):E1 X A C (.comp elt x src ifs):=by
 intro re env nm ρ Q H φ s K EX hc L O h k
 refine Mini.zM hc fun elt' id' px it' ifs' scope pos e9 hc9=>?_
 clear hc;subst e9
 ·simp only [Bool.and_eq_true,beq_iff_eq,Bool.not_eq_true'] at hc9
  obtain ⟨⟨⟨⟨⟨h1,h2⟩,h3⟩,h4⟩,h5⟩,h6⟩:=hc9
  replace h:=Mini.vC h
  exact rX hh he ht L O h1 h2 h3 h5 h6 (Bg3 h4 env) (wpAny_mono (eU hs h4 L O h) (fun zz zz q=>wpAny_mono q (fun zz zz q=>⟨_,q,I7.refl O⟩) fun zz zz q=>q) fun zz zz q=>q) k
theorem Ba3 (G:iB X) (hh:A.handled=none) {elt src:Mini.E}{x:Nat}{ifs:List Mini.E}(he:E1 X A C elt) (hs:E1 X A C src) (ht:∀ e∈ifs,W6 X A C e):E1 X A C (.compR elt x src ifs):=by
 intro re env nm ρ Q H φ s K EX hc L O h k
 refine Mini.sJ hc fun elt' id' px fn n' pp ifs' scope pos e9 hf9 hc9=>?_
 clear hc;subst e9
 ·simp only [Bool.and_eq_true,beq_iff_eq,Bool.not_eq_true'] at hc9
  obtain ⟨⟨⟨⟨⟨h1,h2⟩,h3⟩,h5⟩,h6⟩,h7⟩:=hc9
  have h4:=hf9
  replace h:=Mini.nO h
  exact rX hh he ht L O h1 h2 h3 h6 h7 (fun zz=>rfl) (cH G hs h4 h5 L O h) k
end
end MiniS
namespace MiniS
open PySem PySem.Calls PyProof.Rows
open Mini (V D)
theorem C5.set {h₀ φ h}:∀ {l:List V}{vs:List Value}{k:Nat}{v:V}{x:Value},C5 h₀ φ h l vs->E7 h₀ φ h v x->C5 h₀ φ h (l.set k v) (vs.set k x)
 | [],vs,_,_,_,H,_=>by obtain rfl:=H.unnil;exact H
 | w::l,vs,0,_,_,H,r=>by
  obtain ⟨y,r',rfl,_,ht⟩:=H.uncons
  exact C5.cons r ht
 | w::l,vs,k+1,_,_,H,r=>by
  obtain ⟨y,r',rfl,hy,ht⟩:=H.uncons
  exact C5.cons hy (C5.set ht r)
noncomputable def Bz9 (h₀:Heap) (φ:List Addr) (h:Heap):Mini.uB->Flow->Prop
 | .next,f=>f=.next
 | .cont,f=>f=.cont
 | .ret v,f=>∃ x,f=.ret x/\E7 h₀ φ h v x
noncomputable def aN (X:Cx) (Q:Mini.E2) (env:Env) (nm:List Str) (φ:List Addr) (s:Shared) (K:Flow->Shared->Prop):Prop :=
 ∀ fl ρ' H' φ' f s',Q fl ρ' H'->M8 X.h₀ env φ s φ' H' s'->H9 X φ' nm env ρ' s'->Bz9 X.h₀ φ' s'.heap fl f->K f s'
noncomputable def eH (X:Cx) (A:Around) (C:Mini.Calls) (st:Mini.S):Prop :=
 ∀ (re:Stmt) (env:Env) (nm:List Str) (ρ:Mini.D7) (Q:Mini.E2) (H:Mini.Heap) (φ:List Addr) (s:Shared) (K:Flow->Shared->Prop) (EX:Value->Shared->Prop),
  Mini.eJ X.gl env.scope.names nm st re=true->H9 X φ nm env ρ s->Ok X.h₀ φ H s.heap->Mini.iA C st ρ Q H->aN X Q env nm φ s K ->
  wpAny (M7 X) A (exec re env) K EX s
noncomputable def bC (X:Cx) (A:Around) (C:Mini.Calls) (st:List Mini.S):Prop :=
 ∀ (re:List Stmt) (env:Env) (nm:List Str) (ρ:Mini.D7) (Q:Mini.E2) (H:Mini.Heap) (φ:List Addr) (s:Shared) (K:Flow->Shared->Prop) (EX:Value->Shared->Prop),
  Mini.P9 X.gl env.scope.names nm st re=true->H9 X φ nm env ρ s->Ok X.h₀ φ H s.heap->Mini.C4 C st ρ Q H->aN X Q env nm φ s K ->
  wpAny (M7 X) A (execs re env) K EX s
section
variable {X:Cx}{A:Around}{C:Mini.Calls}
theorem aN.after {Q:Mini.E2}{env nm φ s K φ₁ H₁ s₁}(k:aN X Q env nm φ s K) (F:M8 X.h₀ env φ s φ₁ H₁ s₁):aN X Q env nm φ₁ s₁ K :=
 fun fl ρ' H' φ' f s' q F' L' r=>k fl ρ' H' φ' f s' q (F.trans F') L' r
theorem By3:bC X A C []:=by
 intro re env nm ρ Q H φ s K EX hc L O h k
 obtain rfl:=Mini.An8 hc
 ·replace h:=Mini.Ck8 h
  exact wpAny_execs_nil (k .next ρ H φ _ s h (M8.refl O) L rfl)
theorem Bn5 {st:Mini.S}{sts:List Mini.S}(h1:eH X A C st) (h2:bC X A C sts):bC X A C (st::sts):=by
 intro re env nm ρ Q H φ s K EX hc L O h k
 obtain ⟨re,res,e9,hc9⟩:=Mini.Ae2 hc
 clear hc;subst e9
 have hc:=hc9
 clear hc9
 ·replace h:=Mini.Av0 h
  refine wpAny_execs_cons (h1 re env nm ρ _ H φ s _ EX hc.1 L O h fun fl ρ1 H1 φ1 f s1 q F1 L1 r=>?_)
  cases fl with
  | next =>
   obtain rfl:=r
   exact h2 res env nm ρ1 Q H1 φ1 s1 K EX hc.2 L1 F1.ok q (k.after F1)
  | cont =>
   obtain rfl:=r
   exact k _ _ _ _ _ _ q F1 L1 rfl
  | ret v =>
   obtain ⟨x,rfl,r⟩:=r
   exact k _ _ _ _ _ _ q F1 L1 ⟨x,rfl,r⟩
theorem yN {gl sc nm e re}(h:Mini.D0 gl sc nm e re=true) (hn:Mini.X0 e=true) (t:Option Expr) (l:Nat) (env:Env):swapsWith re t l env=pure false:=by
 have hf:=(Mini.jN h).form
 have hc:=(Mini.jN h).comp hn
 clear h
 cases re<;>first | rfl | exact Bool.noConfusion hf | exact Bool.noConfusion hc
theorem Az7 (re:Expr) (o i:Expr) (p:Pos) (l:Nat) (env:Env):swapsWith re (some (.Subscript o i p)) l env=pure false:=by
 cases re<;>rfl
theorem Am1 (G:iB X) (hh:A.handled=none) {x:Nat}{e:Mini.E}(he:E1 X A C e)
  (hcomp:∀ elt y src ifs,(e=.comp elt y src ifs∨e=.compR elt y src ifs)->E1 X A C elt/\E1 X A C src/\∀ c∈ifs,W6 X A C c):eH X A C (.assign x e):=by
 intro re env nm ρ Q H φ s K EX hc L O h k
 refine Mini.Ao2 hc fun id p e' p' e9 hc9=>?_
 clear hc;subst e9
 ·simp only [Bool.and_eq_true,beq_iff_eq,Bool.not_eq_true'] at hc9
  obtain ⟨⟨⟨⟨h1,h2⟩,h3⟩,h4⟩,h5⟩:=hc9
  replace h:=Mini.Bb2 h
  have plain:swapsWith e' (some (.Name id p)) p'.line env=pure false->wpAny (M7 X) A (exec (.Assign [.Name id p] e' p') env) K EX s:=fun hsw=>by
   refine wpAny_Assign_Name (he e' env nm ρ _ H φ s _ EX h5 L O h fun v H1 φ1 y s1 q F1 r=>?_) hsw
   exact aB (L.fwd O F1) F1.ok h1 h2 h3 h4 r fun s2 F2 L2=>k .next _ _ _ _ _ q ((F1.toS env).trans F2) L2 rfl
  cases hn:Mini.X0 e with
  | true=>exact plain (yN h5 hn _ _ env)
  | false =>
   rcases Mini.qZ hn with ⟨elt,y,src,ifs,rfl⟩ | ⟨elt,y,src,ifs,rfl⟩
   ·obtain ⟨e1,e2,e3⟩:=hcomp elt y src ifs (Or.inl rfl)
    refine Mini.zM h5 fun elt' id' px it' ifs' scope pos e9 hc8=>?_
    clear h5;subst e9
    ·simp only [Bool.and_eq_true,beq_iff_eq,Bool.not_eq_true'] at hc8
     obtain ⟨⟨⟨⟨⟨g1,g2⟩,g3⟩,g4⟩,g5⟩,g6⟩:=hc8
     have hb:∃ b,swapsWith (.ListComp elt' [⟨.Name id' px,it',ifs',0⟩] scope pos) (some (.Name id p)) p'.line env=pure b:=⟨_,rfl⟩
     obtain ⟨b,hb⟩:=hb
     cases b with
     | false=>exact plain hb
     | true =>
      rw [exec_Assign_Name_used _ _ _ _ hb]
      replace h:=Mini.vC h
      refine wpAny_bind (wpAny_standAt (wpAny_bind (yX hh e1 e3 L O g1 g2 g3 g5 g6 (Bg3 g4 env) h1 h2 h3 h4
       (wpAny_mono (eU e2 g4 L O h) (fun zz zz q=>wpAny_mono q (fun zz zz q=>⟨_,q,I7.refl O⟩) fun zz zz q=>q) fun zz zz q=>q) fun v H1 φ1 s1 q F1 L1=>wpAny_pure (k .next _ _ _ _ _ q F1 L1 rfl))))
   ·obtain ⟨e1,e2,e3⟩:=hcomp elt y src ifs (Or.inr rfl)
    refine Mini.sJ h5 fun elt' id' px fn n' pp ifs' scope pos e9 g4 hc8=>?_
    clear h5;subst e9
    ·simp only [Bool.and_eq_true,beq_iff_eq,Bool.not_eq_true'] at hc8
     obtain ⟨⟨⟨⟨⟨g1,g2⟩,g3⟩,g5⟩,g6⟩,g7⟩:=hc8
     have hb:∃ b,swapsWith (.ListComp elt' [⟨.Name id' px,.Call fn [n'] [] pp,ifs',0⟩] scope pos) (some (.Name id p)) p'.line env=pure b:=⟨_,rfl⟩
     obtain ⟨b,hb⟩:=hb
     cases b with
     | false=>exact plain hb
     | true =>
      rw [exec_Assign_Name_used _ _ _ _ hb]
      replace h:=Mini.nO h
      refine wpAny_bind (wpAny_standAt (wpAny_bind (yX hh e1 e3 L O g1 g2 g3 g6 g7 (fun zz=>rfl) h1 h2 h3 h4
       (cH G e2 g4 g5 L O h) fun v H1 φ1 s1 q F1 L1=>wpAny_pure (k .next _ _ _ _ _ q F1 L1 rfl))))
set_option tactic.hygienic true in
theorem Al7 {o i e:Mini.E}(ho:E1 X A C o) (hi:E1 X A C i) (he:E1 X A C e):eH X A C (.setIdx o i e):=by
 intro re env nm ρ Q H φ s K EX hc L O h k
 have hlim:Mini.I8=16777216:=rfl
 refine Mini.An9 hc fun o' i' p e' p' e9 hc9=>?_
 clear hc;subst e9
 ·simp only [Bool.and_eq_true] at hc9
  obtain ⟨⟨h1,h2⟩,h3⟩:=hc9
  replace h:=Mini.sC h
  refine wpAny_Assign_Subscript (he _ env nm ρ _ H φ s _ EX h3 L O h fun v H1 φ1 x1 s1 q1 F1 r1=>?_) (Az7 ..)
  refine ho _ env nm ρ _ H1 φ1 s1 _ EX h1 (L.fwd O F1) F1.ok q1 fun vo H2 φ2 x2 s2 q2 F2 r2=>?_
  have F12:=F1.trans F2
  refine hi _ env nm ρ _ H2 φ2 s2 _ EX h2 (L.fwd O F12) F12.ok q2 fun vi H3 φ3 x3 s3 q3 F3 r3=>?_
  have F13:=F12.trans F3
  have r1':=F3.val F2.ok (F2.val F1.ok r1)
  have r2':=F3.val F2.ok r2
  unfold Mini.hea at q3
  split at q3
  ·rename_i H4 e4
   replace e4:=Mini.gI e4;obtain ⟨a,rfl,e4⟩:=e4
   replace e4:=Mini.I9 e4;obtain ⟨j,rfl,e4⟩:=e4
   ·obtain ⟨p,hp,rfl⟩:=K1 r2'
    obtain ⟨t,rfl⟩:=E3 r3
    cases e0:H3[a]? with
    | none=>rw [e0] at e4;cases e4
    | some l =>
     rw [e0] at e4
     simp only [Option.bind_some] at e4
     obtain ⟨kk,ek,rfl⟩:=Option.map_eq_some_iff.mp e4
     obtain ⟨vs,⟨n,hl⟩,rl⟩:=F3.ok.lists _ _ _ hp e0
     have hlen:=rl.length
     have hz:=F3.ok.small l (B9 e0)
     have fin:∀ kk',kk'=kk->K .next { s3 with heap:=s3.heap.update p (Obj.mapSeq (·.setIfInBounds kk' x1)) }:=fun kk' ekk=>by
      subst ekk
      have F4:=I7.change (tk:=s3.toks) F3.ok hp (Heap.SameBut.update s3.heap p (Obj.mapSeq (·.setIfInBounds kk' x1))) (vs':=vs.set kk' x1) (l':=l.set kk' v) ⟨_,by
       have:=IsL.update hl (fun xs=>xs.setIfInBounds kk' x1)
       rwa [List.setIfInBounds_toArray] at this⟩ (rl.set r1') (by simpa using hz)
      exact k .next _ _ _ _ _ q3 ((F13.trans F4).toS env) (L.fwd O (F13.trans F4)) rfl
     unfold Mini.K3 at ek
     split at ek
     ·rename_i h0
      split at ek
      ·rename_i hlt
       cases ek
       exact PySem.W.ki_setAt hl h0 (by lia) (by simpa [<- hlen] using hlt) (fin _ rfl)
      ·cases ek
     ·rename_i h0
      split at ek
      ·rename_i hle
       cases ek
       refine PySem.W.ki_setBack hl (by lia) (by simpa [<- hlen] using hle) (by lia) (fin _ ?_)
       simp [<- hlen]
      ·cases ek
  ·exact q3.elim
theorem Bn3 {e:Mini.E}(he:E1 X A C e):eH X A C (.expr e):=by
 intro re env nm ρ Q H φ s K EX hc L O h k
 refine Mini.Bq8 hc fun e' p e9 hc9=>?_
 clear hc;subst e9
 ·simp only [Bool.and_eq_true] at hc9
  replace h:=Mini.Ca3 h
  refine wpAny_Expr_any (he _ env nm ρ _ H φ s _ EX hc9.2 L O h fun v H1 φ1 x1 s1 q1 F1 r1=>k .next _ _ _ _ _ q1 (F1.toS env) (L.fwd O F1) rfl) ?_ (yN hc9.2 hc9.1 _ _ env)
  unfold interactive;rw [L.kind];rfl
theorem By7 {c:Mini.E}{t f:List Mini.S}(hc':W6 X A C c) (ht:bC X A C t) (hf:bC X A C f):eH X A C (.ite c t f):=by
 intro re env nm ρ Q H φ s K EX hc L O h k
 refine Mini.Cb5 hc fun c' t' f' p e9 hc9=>?_
 clear hc;subst e9
 ·simp only [Bool.and_eq_true] at hc9
  obtain ⟨⟨h1,h2⟩,h3⟩:=hc9
  replace h:=Mini.Bi4 h
  refine wpAny_If (hc' _ env nm ρ _ H φ s _ EX h1 L O h fun b H1 φ1 s1 q1 F1=>?_)
  cases b with
  | true=>exact ht _ env nm ρ Q H1 φ1 s1 K EX h2 (L.fwd O F1) F1.ok q1 (k.after (F1.toS env))
  | false=>exact hf _ env nm ρ Q H1 φ1 s1 K EX h3 (L.fwd O F1) F1.ok q1 (k.after (F1.toS env))
theorem Bx4 {c:Mini.E}{b:List Mini.S}(hc':W6 X A C c) (hb:bC X A C b):eH X A C (.whl c b):=by
 intro re env nm ρ Q H φ s K EX hc L O h k
 refine Mini.Cb0 hc fun c' b' p e9 hc9=>?_
 clear hc;subst e9
 ·simp only [Bool.and_eq_true] at hc9
  obtain ⟨h1,h2⟩:=hc9
  replace h:=Mini.Bi3 h
  obtain ⟨n,hn⟩:=h
  refine wpAny_While (codeAny_whileLoop (fun k0 st=>∃ ρ' H' φ',Mini.eO (Mini.D9 C c) (Mini.C4 C b) k0 ρ' Q H'/\M8 X.h₀ env φ s φ' H' st/\H9 X φ' nm env ρ' st) (fun k0 st hst=>?_) n ⟨ρ,H,φ,hn,M8.refl O,L⟩)
  obtain ⟨ρ',H',φ',hw,F,L'⟩:=hst
  cases k0 with
  | zero=>exact False.elim hw
  | succ k0 =>
   refine hc' _ env nm ρ' _ H' φ' st _ _ h1 L' F.ok hw fun t H1 φ1 s1 q1 F1=>?_
   have L1:=L'.fwd F.ok F1
   have FF:=F.trans (F1.toS env)
   cases t with
   | false =>
    simp only [Bool.false_eq_true,if_false]
    exact wpAny_execs_nil (k .next _ _ _ _ _ q1 FF L1 rfl)
   | true =>
    simp only [if_true]
    refine hb _ env nm ρ' _ H1 φ1 s1 _ _ h2 L1 F1.ok q1 fun fl ρ2 H2 φ2 f s2 q2 F2 L2 r2=>?_
    cases fl with
    | next=>obtain rfl:=r2;exact ⟨k0,B1 _,ρ2,H2,φ2,q2,FF.trans F2,L2⟩
    | cont=>obtain rfl:=r2;exact ⟨k0,B1 _,ρ2,H2,φ2,q2,FF.trans F2,L2⟩
    | ret v =>
     obtain ⟨x,rfl,r⟩:=r2
     exact k (.ret v) _ _ _ _ _ q2 (FF.trans F2) L2 ⟨x,rfl,r⟩
theorem yW (hh:A.handled=none) {b:List Mini.S}{x n:Nat}(hb:bC X A C b) {id:Str}{p:Pos}{b':List Stmt}{env:Env}{nm:List Str}{ρ:Mini.D7}{Q:Mini.E2}{H:Mini.Heap}{φ:List Addr}{s₀ s:Shared}{φ₀:List Addr}{I:Addr}{it:Mini.It}{K:Flow->Shared->Prop}{EX:Value->Shared->Prop}
  (L:H9 X φ nm env ρ s) (F0:M8 X.h₀ env φ₀ s₀ φ H s) (hroom:X.h₀.objs.size<=s₀.heap.objs.size) (W:ItOk X φ it I 0 s.heap) (hI:s₀.heap.objs.size<=I)
  (h1:nm[x]? = some id) (h2:Mini.R2 env.scope.names id=true) (h3:(env.scope.names.lookup id != some .free)=true) (h4:X.gl.lits.contains x=false)
  (h6:Mini.P9 X.gl env.scope.names nm b b'=true) (hw:Mini.Y0 (Mini.C4 C b) x it n 0 ρ Q H) (k:aN X Q env nm φ₀ s₀ K) :
  codeAny (M7 X) A (.forLoop (.Name id p) (.ref I) b' [] env) (fun r s'=>match r with | .ok f=>K f s' | .error e=>cameBackBy (M7 X) A env EX e s') s:=by
 refine codeAny_forLoop (fun k0 st=>∃ i ρ' H' φ',Mini.Y0 (Mini.C4 C b) x it k0 i ρ' Q H'/\M8 X.h₀ env φ₀ s₀ φ' H' st/\H9 X φ' nm env ρ' st/\ItOk X φ' it I i st.heap) (fun k0 st hst=>?_) n ⟨0,ρ,H,φ,hw,F0,L,W⟩
 obtain ⟨i,ρ',H',φ',hw,F,L',WI⟩:=hst
 cases k0 with
 | zero=>exact False.elim hw
 | succ k0 =>
  replace hw:(match it.at H' i with | none=>_ | some v=>_):=hw
  obtain ⟨oI,vI,hoI,hdI,hIk⟩:=WI.obj
  refine Au1 hh F.ok WI (fun v y s' hat ry B WI'=>?_) (fun s' hat B=>?_)
  ·rw [hat] at hw
   simp only at hw
   have O1:=B.ok F.ok hoI hdI (A3 hroom hI)
   have F1:=F.but B hI O1
   have L1:=B.env L' hoI hdI
   refine wpAny_assign_Name (aB L1 O1 h1 h2 h3 h4 ry fun s2 F2 L2=>?_)
   obtain ⟨oJ,vJ,hoJ,hdJ,hJk⟩:=WI'.obj
   have WI2:=hJk φ' s2.heap (fun zz zz q=>q) (M8.fields O1 L1 F2 hdJ hoJ)
   refine hb _ env nm _ _ H' φ' s2 _ _ h6 L2 F2.ok hw fun fl ρ3 H3 φ3 f s3 q3 F3 L3 r3=>?_
   have FF:=(F1.trans F2).trans F3
   obtain ⟨oK,vK,hoK,hdK,hKk⟩:=WI2.obj
   have WI3:=hKk φ3 s3.heap F3.idx (M8.fields F2.ok L2 F3 hdK hoK)
   cases fl with
   | next=>obtain rfl:=r3;exact ⟨k0,B1 _,i+1,ρ3,H3,φ3,q3,FF,L3,WI3⟩
   | cont=>obtain rfl:=r3;exact ⟨k0,B1 _,i+1,ρ3,H3,φ3,q3,FF,L3,WI3⟩
   | ret v =>
    obtain ⟨x,rfl,r⟩:=r3
    exact k (.ret v) _ _ _ _ _ q3 FF L3 ⟨x,rfl,r⟩
  ·rw [hat] at hw
   simp only at hw
   have O1:=B.ok F.ok hoI hdI (A3 hroom hI)
   exact wpAny_execs_nil (k .next _ _ _ _ _ hw (F.but B hI O1) (B.env L' hoI hdI) rfl)
theorem Ba2 (hh:A.handled=none) {x:Nat}{e:Mini.E}{b:List Mini.S}(he:E1 X A C e) (hb:bC X A C b):eH X A C (.forIn x e b):=by
 intro re env nm ρ Q H φ s K EX hc L O h k
 refine Mini.Bc4 hc fun id p e' b' p' e9 hc9=>?_
 clear hc;subst e9
 ·simp only [Bool.and_eq_true,beq_iff_eq,Bool.not_eq_true'] at hc9
  obtain ⟨⟨⟨⟨⟨h1,h2⟩,h3⟩,h4⟩,h5⟩,h6⟩:=hc9
  replace h:=Mini.zE h
  refine wpAny_For (wpAny_mono (eU (Q:=fun it H₁=>∃ n,Mini.Y0 (Mini.C4 C b) x it n 0 ρ Q H₁) he h5 L O h) (fun x1 s1 hx1=>wpAny_mono hx1 (fun y s2 hy=>?_) fun zz zz q=>q) fun zz zz q=>q) (Bg3 h5 env)
  obtain ⟨it,I,H1,φ1,rfl,F1,F2,WI,hI,n,hw⟩:=hy
  have FF:=F1.trans F2
  exact yW hh hb (L.fwd O FF) (FF.toS env) O.room WI (A3 F1.step.size hI) h1 h2 h3 h4 h6 hw k
theorem Bn1 (G:iB X) (hh:A.handled=none) {x:Nat}{e:Mini.E}{b:List Mini.S}(he:E1 X A C e) (hb:bC X A C b):eH X A C (.forR x e b):=by
 intro re env nm ρ Q H φ s K EX hc L O h k
 refine Mini.Bq6 hc fun id p fn e' pp b' p' e9 hf9 hc9=>?_
 clear hc;subst e9
 ·simp only [Bool.and_eq_true,beq_iff_eq,Bool.not_eq_true'] at hc9
  obtain ⟨⟨⟨⟨⟨h1,h2⟩,h3⟩,h4⟩,h6⟩,h7⟩:=hc9
  have h5:=hf9
  replace h:=Mini.Au9 h
  refine wpAny_For (wpAny_mono (cH (Q:=fun it H₁=>∃ n,Mini.Y0 (Mini.C4 C b) x it n 0 ρ Q H₁) G he h5 h6 L O h) (fun x1 s1 hx1=>wpAny_mono hx1 (fun y s2 hy=>?_) fun zz zz q=>q) fun zz zz q=>q) (fun zz=>rfl)
  obtain ⟨s1',⟨it,I,H1,φ1,rfl,F1,F2,WI,hI,n,hw⟩,_⟩:=hy
  have FF:=F1.trans F2
  exact yW hh hb (L.fwd O FF) (FF.toS env) O.room WI (A3 F1.step.size hI) h1 h2 h3 h4 h7 hw k
theorem Bx9 {e:Mini.E}(he:E1 X A C e):eH X A C (.ret e):=by
 intro re env nm ρ Q H φ s K EX hc L O h k
 refine Mini.Cb3 hc fun e' p e9 hc9=>?_
 clear hc;subst e9
 ·replace h:=Mini.Ck7 h
  exact wpAny_Return_some (he _ env nm ρ _ H φ s _ EX hc9 L O h fun v H1 φ1 x1 s1 q1 F1 r1=>k (.ret v) _ _ _ _ _ q1 (F1.toS env) (L.fwd O F1) ⟨_,rfl,r1⟩)
theorem Ad5:eH X A C .retNone:=by
 intro re env nm ρ Q H φ s K EX hc L O h k
 refine Mini.Ae3 hc fun p e9=>?_
 clear hc;subst e9
 ·replace h:=Mini.An1 h
  exact wpAny_Return_none (k (.ret .none) _ _ _ _ _ h (M8.refl O) L ⟨_,rfl,by rfl⟩)
theorem Bn4:eH X A C .cont:=by
 intro re env nm ρ Q H φ s K EX hc L O h k
 refine Mini.Bq9 hc fun p e9=>?_
 clear hc;subst e9
 ·replace h:=Mini.Ca4 h
  exact wpAny_Continue (k .cont _ _ _ _ _ h (M8.refl O) L rfl)
theorem Bm3:eH X A C .pass:=by
 intro re env nm ρ Q H φ s K EX hc L O h k
 refine Mini.Bq2 hc fun p e9=>?_
 clear hc;subst e9
 ·replace h:=Mini.Ca2 h
  exact wpAny_Pass (k .next _ _ _ _ _ h (M8.refl O) L rfl)
theorem Ba0 {a b}:eH X A C (.raise a b):=by
 intro re env nm ρ Q H φ s K EX hc L O h k
 replace h:=Mini.Bp4 h
 exact h.elim
structure lQ (N:Addr->Prop) (s s':Shared):Prop where
 same:∃ h' tk,s'={ s with heap:=h',toks:=tk }
 keep:∀ b o,¬ N b->s.heap.get? b=some o->s'.heap.get? b=some o
 size:s.heap.objs.size<=s'.heap.objs.size
 toks:s.toks<=s'.toks
noncomputable def Az3 (h:Heap) (N:Addr->Prop):Prop:=∀ b,N b->∃ o vs,h.get? b=some o/\o.data=.fields vs
theorem lQ.tups {N s s'}(B:lQ N s s') (hN:Az3 s.heap N):∀ b o,N2 o->s.heap.get? b=some o->s'.heap.get? b=some o:=fun b o ht e=>B.keep b o (fun hb=>by
 obtain ⟨o',vs,ho,hd⟩:=hN b hb
 rw [e] at ho;cases ho
 exact W3 hd ht) e
theorem lQ.ok {h₀ φ H N s s'}(B:lQ N s s') (K:Ok h₀ φ H s.heap) (hN:Az3 s.heap N) (hab:∀ b,N b->h₀.objs.size<=b):Ok h₀ φ H s'.heap:=by
 refine ⟨fun b o e=>B.keep b o (fun q=>absurd (Heap.lt_size e) (Nat.not_lt.mpr (hab b q))) (K.base b o e),K.len,K.nodup,K.above,K.small,A3 K.room B.size,fun i b l hi hl=>?_⟩
 obtain ⟨vs',⟨n,e⟩,r⟩:=K.lists i b l hi hl
 refine ⟨vs',⟨n,B.keep b _ (fun q=>?_) e⟩,C5.mono (fun zz zz q=>q) (B.tups hN) l r⟩
 obtain ⟨o',vs,ho,hd⟩:=hN b q
 rw [e] at ho;cases ho;simp at hd
theorem lQ.val {h₀ φ N s s'}(B:lQ N s s') (hN:Az3 s.heap N) {v:V}{x:Value}(r:E7 h₀ φ s.heap v x):E7 h₀ φ s'.heap v x:=E7.mono (fun zz zz q=>q) (B.tups hN) v r
theorem lQ.env {X:Cx}{φ nm env ρ N s s'}(B:lQ N s s') (L:H9 X φ nm env ρ s) (hN:Az3 s.heap N):H9 X φ nm env ρ s':=by
 have hr:∀ v x,E7 X.h₀ φ s.heap v x->E7 X.h₀ φ s'.heap v x:=fun v x r=>B.val hN r
 have hcell:∀ c ov,s.heap.IsCell c ov->s'.heap.IsCell c ov:=fun c ov hc=>by
  obtain ⟨oc,hoc,hdc⟩:=hc
  refine ⟨oc,B.keep c oc (fun q=>?_) hoc,hdc⟩
  obtain ⟨o',vs,ho,hd⟩:=hN c q
  rw [ho] at hoc;cases hoc;rw [hd] at hdc;cases hdc
 refine ⟨L.kind,L.glob,L.blt,L.len,L.nodup,fun hp=>A8 (L.pos hp) B.toks,?_,?_,L.above,L.aboveC,fun x c hc=>?_,L.apart⟩
 ·obtain ⟨m,⟨ol,es,ep,hol,hdl,q⟩,hm⟩:=L.locals
  have hn:¬ N env.locals:=fun e=>by
   obtain ⟨o',vs,ho,hd⟩:=hN _ e
   rw [ho] at hol;cases hol;rw [hd] at hdl;cases hdl
  exact ⟨m,⟨ol,es,ep,B.keep _ _ hn hol,hdl,q⟩,fun i x hx hk=>⟨(hm i x hx hk).1.mono hr,(hm i x hx hk).2.mono B.toks⟩⟩
 ·intro i x hx hk
  obtain ⟨c,ov,hc,hcl,r,lr⟩:=L.cells i x hx hk
  exact ⟨c,ov,hc,hcell c ov hcl,r.mono hr,lr.mono B.toks⟩
 ·obtain ⟨ov,hcl⟩:=L.cellAll x c hc
  exact ⟨ov,hcell c ov hcl⟩
theorem M8.butP {h₀ env φ₀ s₀ φ H N s s'}(F:M8 h₀ env φ₀ s₀ φ H s) (B:lQ N s s') (hI:∀ b,N b->s₀.heap.objs.size<=b) (O:Ok h₀ φ H s'.heap):M8 h₀ env φ₀ s₀ φ H s':=by
 obtain ⟨⟨h1,t1,e1⟩,k1,z1,w1,g1,_⟩:=F
 obtain ⟨⟨h2,t2,e2⟩,k2,z2,w2⟩:=B
 exact ⟨⟨h2,t2,by rw [e2,e1]⟩,fun b o hb hn e=>k2 b o (fun q=>absurd (Heap.lt_size e) (Nat.not_lt.mpr (hI b q))) (k1 b o hb hn e),A3 z1 z2,A3 w1 w2,g1,O⟩
theorem M8.val {env φ nm ρ s φ' H H' s'}(K:Ok X.h₀ φ H s.heap) (L:H9 X φ nm env ρ s) (F:M8 X.h₀ env φ s φ' H' s') {v:V}{x:Value}(r:E7 X.h₀ φ s.heap v x):E7 X.h₀ φ' s'.heap v x :=
 E7.mono F.idx (fun b o ht e=>F.keep b o (fun hm=>by
  obtain ⟨vs',n,e'⟩:=K.mem hm
  rw [e'] at e;cases e;exact gV rfl ht) (fun hn=>by
  obtain ⟨_,vs,n,hd⟩:=ht
  rcases hn with rfl | ⟨x,hx⟩
  ·obtain ⟨m,⟨o',es,ep,ho',hd',_⟩,_⟩:=L.locals
   rw [ho'] at e;cases e;rw [hd'] at hd;cases hd
  ·obtain ⟨ov,o',ho',hd'⟩:=L.cellAll x b hx
   rw [ho'] at e;cases e;rw [hd'] at hd;cases hd) e) v r
theorem Ba9 (hh:A.handled=none) {b:List Mini.S}{x y n a:Nat}(hb:bC X A C b) {id id':Str}{p p' pt:Pos}{u}{b':List Stmt}{env:Env}{nm:List Str}{ρ:Mini.D7}{Q:Mini.E2}{H:Mini.Heap}{φ:List Addr}{s₀ s:Shared}{φ₀:List Addr}{e it pl:Addr}{K:Flow->Shared->Prop}{EX:Value->Shared->Prop}
  (L:H9 X φ nm env ρ s) (F0:M8 X.h₀ env φ₀ s₀ φ H s) (hroom:X.h₀.objs.size<=s₀.heap.objs.size) (he:IsEnum s.heap e it 0 .none) (hit:s.heap.IsListIter it pl 0) (hp:φ[a]? = some pl) (hne:e≠it) (hIe:s₀.heap.objs.size<=e) (hIt:s₀.heap.objs.size<=it)
  (h1:nm[x]? = some id) (h2:Mini.R2 env.scope.names id=true) (h3:(env.scope.names.lookup id != some .free)=true) (h4:X.gl.lits.contains x=false)
  (g1:nm[y]? = some id') (g2:Mini.R2 env.scope.names id'=true) (g3:(env.scope.names.lookup id' != some .free)=true) (g4:X.gl.lits.contains y=false)
  (h6:Mini.P9 X.gl env.scope.names nm b b'=true) (hw:Mini.fK (Mini.C4 C b) x y (.lst a) n 0 ρ Q H) (k:aN X Q env nm φ₀ s₀ K) :
  codeAny (M7 X) A (.forLoop (.Tuple [.Name id p,.Name id' p'] u pt) (.ref e) b' [] env) (fun r s'=>match r with | .ok f=>K f s' | .error e=>cameBackBy (M7 X) A env EX e s') s:=by
 refine codeAny_forLoop_any (fun k0 st=>∃ (i:Nat) (ρ':Mini.D7) (H':Mini.Heap) (φ':List Addr) (old:Value),Mini.fK (Mini.C4 C b) x y (.lst a) k0 i ρ' Q H'/\M8 X.h₀ env φ₀ s₀ φ' H' st/\H9 X φ' nm env ρ' st/\IsEnum st.heap e it ((i:Nat):Int) old/\st.heap.IsListIter it pl i/\φ'[a]? = some pl) (fun k0 st hst=>?_) n ⟨0,ρ,H,φ,.none,hw,F0,L,he,hit,hp⟩
 obtain ⟨i,ρ',H',φ',old,hw,F,L',he',hit',hp'⟩:=hst
 cases k0 with
 | zero=>exact False.elim hw
 | succ k0 =>
  replace hw:(match (Mini.It.lst a).at H' i with | none=>_ | some v=>_):=hw
  have O:=F.ok
  have hlt:a<H'.length:=by rw [<- O.len];exact (List.getElem?_eq_some_iff.mp hp').1
  obtain ⟨l,hl⟩:∃ l,H'[a]? = some l:=⟨_,List.getElem?_eq_getElem hlt⟩
  obtain ⟨vs',hpl,rs⟩:=O.lists _ _ _ hp' hl
  have hN:Az3 st.heap (fun b=>b=e∨b=it):=fun b hb=>by
   rcases hb with rfl | rfl
   ·exact ⟨_,_,he',rfl⟩
   ·obtain ⟨o,ho,hc,hd⟩:=hit'
    exact ⟨o,_,ho,hd⟩
  have hI:∀ b,b=e∨b=it->s₀.heap.objs.size<=b:=fun b hb=>by
   rcases hb with rfl | rfl
   ·exact hIe
   ·exact hIt
  have hI0:∀ b,b=e∨b=it->X.h₀.objs.size<=b:=fun b hb=>A3 hroom (hI b hb)
  cases hx:l[i]? with
  | some v =>
   obtain ⟨x1,hx',rx⟩:=rs.get hx
   rw [show (Mini.It.lst a).at H' i=some v by simp [Mini.It.at,hl,hx]] at hw
   simp only at hw
   have heH:e<st.heap.objs.size:=Heap.lt_size he'
   have hiH:it<st.heap.objs.size:=by obtain ⟨o,ho,_⟩:=hit';exact Heap.lt_size ho
   refine wpAny_pyNext_enum_item he' hit' hpl.isList (by simpa using hx') hne fun h₁ heo hit₁ ht₁ hz₁ hk₁=>?_
   refine wpAny_letOwnedTupleGo_enum heo fun h₂ he₂ hs₂=>?_
   replace hs₂:Heap.SameBut e h₁ h₂:=hs₂
   have htup:h₂.get? st.heap.objs.size=some { cls:=.type "tuple",data:=.seq #[.int i st.toks,x1] }:=(hs₂.2 _ (Nat.ne_of_gt heH)).trans ht₁
   have ht₂:h₂.IsTuple st.heap.objs.size #[.int i st.toks,x1]:=⟨_,htup,rfl,_,rfl⟩
   have hz₂:h₂.objs.size=st.heap.objs.size+1:=hs₂.1.trans hz₁
   refine wpAny_assign_Tuple hh ht₂ rfl rfl fun h₃ hx₃=>?_
   replace hx₃:Heap.ExtBut h₂.objs.size h₂ h₃:=hx₃
   have old₃:∀ b o,b<st.heap.objs.size+1->h₂.get? b=some o->h₃.get? b=some o:=fun b o hb q=>hx₃ b o (by rw [hz₂];exact Nat.ne_of_lt hb) q
   have he₃:IsEnum h₃ e it ((i:Int)+1) x1:=old₃ e _ (Nat.lt_succ_of_lt heH) he₂
   have hit₃:h₃.IsListIter it pl (i+1):=by
    obtain ⟨o,ho,hc,hd⟩:=hit₁
    exact ⟨o,old₃ it o (Nat.lt_succ_of_lt hiH) ((hs₂.2 it (Ne.symm hne)).trans ho),hc,hd⟩
   have B:lQ (fun b=>b=e∨b=it) st { st with heap:=h₃,toks:=st.toks+1 }:=⟨⟨_,_,rfl⟩,fun b o hb q=>old₃ b o (Nat.lt_succ_of_lt (Heap.lt_size q)) ((hs₂.2 b fun r=>hb (Or.inl r)).trans (hk₁ b o (fun r=>hb (Or.inl r)) (fun r=>hb (Or.inr r)) q)),B5 (Heap.lt_size (old₃ _ _ (B1 _) htup)),B8 _⟩
   have O1:=B.ok O hN hI0
   have F1:=F.butP B hI O1
   have L1:=B.env L' hN
   have r1:=B.val hN rx
   show wpAny _ A (do holding [x1] (assign (.Name id p) env (.int i st.toks));do holding [] (assign (.Name id' p') env x1);pure ()) _ _ { st with heap:=h₃,toks:=st.toks+1 }
   refine wpAny_bind (wpAny_holding (wpAny_assign_Name (aB (v:=.int (i:Int)) L1 O1 h1 h2 h3 h4 P6 fun s4 F4 L4=>?_)))
   refine wpAny_bind (wpAny_holding (wpAny_assign_Name (aB L4 F4.ok g1 g2 g3 g4 (F4.val O1 L1 r1) fun s5 F5 L5=>wpAny_pure ?_)))
   have keep:∀ {b:Addr}{o:Obj}{vs:Array Value},o.data=.fields vs->h₃.get? b=some o->s5.heap.get? b=some o:=fun hd q=>M8.fields F4.ok L4 F5 hd (M8.fields O1 L1 F4 hd q)
   refine hb _ env nm _ _ H' φ' s5 _ _ h6 L5 F5.ok hw fun fl ρ3 H3 φ3 f s3 q3 F3 L3 r3=>?_
   have FF:=((F1.trans F4).trans F5).trans F3
   have ei:((i+1:Nat):Int)=(i:Int)+1:=by push_cast;rfl
   have heN:IsEnum s3.heap e it ((i+1:Nat):Int) x1:=by
    rw [ei];exact M8.fields F5.ok L5 F3 rfl (keep rfl he₃)
   have hiN:s3.heap.IsListIter it pl (i+1):=by
    obtain ⟨o,ho,hc,hd⟩:=hit₃
    exact ⟨o,M8.fields F5.ok L5 F3 hd (keep hd ho),hc,hd⟩
   have hpN:φ3[a]? = some pl:=F3.idx _ _ hp'
   cases fl with
   | next=>obtain rfl:=r3;exact ⟨k0,B1 _,i+1,ρ3,H3,φ3,x1,q3,FF,L3,heN,hiN,hpN⟩
   | cont=>obtain rfl:=r3;exact ⟨k0,B1 _,i+1,ρ3,H3,φ3,x1,q3,FF,L3,heN,hiN,hpN⟩
   | ret v =>
    obtain ⟨x,rfl,r⟩:=r3
    exact k (.ret v) _ _ _ _ _ q3 FF L3 ⟨x,rfl,r⟩
  | none =>
   rw [show (Mini.It.lst a).at H' i=none by simp [Mini.It.at,hl,hx]] at hw
   simp only at hw
   have hx':vs'[i]? = none:=by
    rw [List.getElem?_eq_none_iff] at hx ⊢
    rw [<- rs.length];exact hx
   refine rM (wpAny_pyNext_enum_end hh he' hit' hpl.isList (by simpa using hx') fun h₁ he₁ hz=>?_)
   have B:lQ (fun b=>b=e∨b=it) st { st with heap:=h₁ }:=⟨⟨_,_,rfl⟩,fun b o hb q=>he₁ b o (fun r=>hb (Or.inr r)) q,hz,A4 _⟩
   have O1:=B.ok O hN hI0
   exact wpAny_execs_nil (k .next _ _ _ _ _ hw (F.butP B hI O1) (B.env L' hN) rfl)
set_option tactic.hygienic true in
theorem Ad7 (G:iB X) (hh:A.handled=none) {x y:Nat}{e:Mini.E}{b:List Mini.S}(he:E1 X A C e) (hb:bC X A C b):eH X A C (.forEnum x y e b):=by
 intro re env nm ρ Q H φ s K EX hc L O h k
 refine Mini.Ae5 hc fun id p id' p' u pt fn e' pp b' p'' e9 hf9 hc9=>?_
 clear hc;subst e9
 simp only [Bool.and_eq_true,beq_iff_eq,Bool.not_eq_true'] at hc9
 obtain ⟨⟨⟨⟨⟨⟨h1,h2⟩,h3⟩,h4⟩,⟨⟨g1,g2⟩,g3⟩,g4⟩,h5⟩,h6⟩:=hc9
 replace h:=Mini.oU h
 refine wpAny_For (ty1 G (n := "enumerate") (by decide) he h5 hf9 L O h fun v H1 φ1 x1 s1 q F1 r=>?_) (fun zz=>rfl)
 split at q
 ·rename_i a
  obtain ⟨n,hw⟩:=q
  obtain ⟨pl,hp,rfl⟩:=K1 r
  have hlt:a<H1.length:=by rw [<- F1.ok.len];exact (List.getElem?_eq_some_iff.mp hp).1
  obtain ⟨l,hl⟩:∃ l,H1[a]? = some l:=⟨_,List.getElem?_eq_getElem hlt⟩
  obtain ⟨vs,⟨nn,hpl⟩,rs⟩:=F1.ok.lists _ _ _ hp hl
  refine call_enumerate_1 hpl fun h' hE hI hz hk=>?_
  have B:lQ (fun zz=>False) s1 { s1 with heap:=h' }:=⟨⟨_,_,rfl⟩,fun b o zz q=>hk b o q,by show _<=h'.objs.size;rw [hz];exact B4 _ _,A4 _⟩
  have hN:Az3 s1.heap (fun zz=>False):=fun zz q=>q.elim
  have O2:=B.ok F1.ok hN (fun zz q=>q.elim)
  have L1:=L.fwd O F1
  have F2:=(F1.toS env).butP B (fun zz q=>q.elim) O2
  exact wpAny_pyIter_enum hE (Ba9 hh hb (B.env L1 hN) F2 O.room hE hI hp (Nat.succ_ne_self _) (Nat.le_succ_of_le F1.step.size) F1.step.size h1 h2 h3 h4 g1 g2 g3 g4 h6 hw k)
 ·exact q.elim
end
end MiniS
namespace MiniS
open PySem PySem.Calls PyProof.Rows
open Mini (V D)
section
variable {X:Cx}{A:Around}{C:Mini.Calls}
theorem Ba4 {e:Mini.E}{es:List Mini.E}(h:E1 X A C e) (hs:eI X A C es):eI X A C (e::es):=fun e' h'=>by
 rcases List.mem_cons.mp h' with rfl | h'
 ·exact h
 ·exact hs e' h'
theorem Am5 {e:Mini.E}{es:List Mini.E}(h:W6 X A C e) (hs:mO X A C es):mO X A C (e::es):=fun e' h'=>by
 rcases List.mem_cons.mp h' with rfl | h'
 ·exact h
 ·exact hs e' h'
theorem R6 {e:Mini.E}(h:E1 X A C e) (hp:Mini.plainC e=true):E1 X A C e/\W6 X A C e:=⟨h,Am3 h hp⟩
mutual
theorem E9 (G:iB X) (hh:A.handled=none) (hu:A.units+106<cLine) (hC:iE X A C):∀ e:Mini.E,E1 X A C e/\W6 X A C e
 | .none=>R6 Bm4 rfl
 | .bool _=>R6 Bn9 rfl
 | .int _=>R6 By8 rfl
 | .str _=>R6 Bx7 rfl
 | .var _=>R6 Bx5 rfl
 | .glob _ _=>R6 (Bn0 G) rfl
 | .bin _ l r=>R6 (Bz2 (E9 G hh hu hC l).1 (E9 G hh hu hC r).1) rfl
 | .neg _=>R6 By4 rfl
 | .cmp _ l r=>⟨Bz1 hu (E9 G hh hu hC l).1 (E9 G hh hu hC r).1,Bo5 hu (E9 G hh hu hC l).1 (E9 G hh hu hC r).1⟩
 | .cmp2 _ _ a b c=>⟨Bn7 hu (E9 G hh hu hC a).1 (E9 G hh hu hC b).1 (E9 G hh hu hC c).1,Ba5 hu (E9 G hh hu hC a).1 (E9 G hh hu hC b).1 (E9 G hh hu hC c).1⟩
 | .is e _=>⟨Ck4 (E9 G hh hu hC e).1,Bz5 (E9 G hh hu hC e).1⟩
 | .isnot e _=>⟨Ba1 (E9 G hh hu hC e).1,Am4 (E9 G hh hu hC e).1⟩
 | .and es=>⟨Bz3 (bB G hh hu hC es).1,Bo6 (bB G hh hu hC es).2⟩
 | .or es=>⟨Ck3 (bB G hh hu hC es).1,Bz4 (bB G hh hu hC es).2⟩
 | .not e=>⟨By2 (E9 G hh hu hC e).1,Bo4 (E9 G hh hu hC e).2⟩
 | .idx o i=>R6 (By9 (E9 G hh hu hC o).1 (E9 G hh hu hC i).1) rfl
 | .slc o l h=>R6 (Bx8 (E9 G hh hu hC o).1 (E9 G hh hu hC l).1 (E9 G hh hu hC h).1) rfl
 | .slcL o l=>R6 (Bm1 (E9 G hh hu hC o).1 (E9 G hh hu hC l).1) rfl
 | .slcH o h=>R6 (Bm2 (E9 G hh hu hC o).1 (E9 G hh hu hC h).1) rfl
 | .call _ es=>R6 (Bn8 G hC (bB G hh hu hC es).1) rfl
 | .isinst e _=>R6 (Al9 G (E9 G hh hu hC e).1) rfl
 | .len e=>R6 (By6 G (E9 G hh hu hC e).1) rfl
 | .toInt e=>R6 (Az8 G (E9 G hh hu hC e).1) rfl
 | .ord e=>R6 (By1 G (E9 G hh hu hC e).1) rfl
 | .append o e=>R6 (Am2 (E9 G hh hu hC o).1 (E9 G hh hu hC e).1) rfl
 | .extend o e=>R6 (Am0 (E9 G hh hu hC o).1 (E9 G hh hu hC e).1) rfl
 | .pop o=>R6 (By0 (E9 G hh hu hC o).1) rfl
 | .find o a b=>R6 (Bn2 (E9 G hh hu hC o).1 (E9 G hh hu hC a).1 (E9 G hh hu hC b).1) rfl
 | .replace o _ _=>R6 (Ad6 (E9 G hh hu hC o).1) rfl
 | .join o a=>R6 (Bm8 (E9 G hh hu hC o).1 (E9 G hh hu hC a).1) rfl
 | .split o a=>R6 (Az9 (E9 G hh hu hC o).1 (E9 G hh hu hC a).1) rfl
 | .lstrip o a=>R6 (Al8 (E9 G hh hu hC o).1 (E9 G hh hu hC a).1) rfl
 | .list es=>R6 (Bm7 (bB G hh hu hC es).1) rfl
 | .tup es=>R6 (Bx6 (bB G hh hu hC es).1) rfl
 | .comp elt _ src ifs=>R6 (Bn6 hh (E9 G hh hu hC elt).1 (E9 G hh hu hC src).1 (bB G hh hu hC ifs).2) rfl
 | .compR elt _ src ifs=>R6 (Ba3 G hh (E9 G hh hu hC elt).1 (E9 G hh hu hC src).1 (bB G hh hu hC ifs).2) rfl
theorem bB (G:iB X) (hh:A.handled=none) (hu:A.units+106<cLine) (hC:iE X A C):∀ es:List Mini.E,eI X A C es/\mO X A C es
 | []=>⟨fun e h=>(nomatch h),fun e h=>(nomatch h)⟩
 | e::es=>⟨Ba4 (E9 G hh hu hC e).1 (bB G hh hu hC es).1,Am5 (E9 G hh hu hC e).2 (bB G hh hu hC es).2⟩
end
mutual
theorem Cq7 (G:iB X) (hh:A.handled=none) (hu:A.units+106<cLine) (hC:iE X A C):∀ st:Mini.S,eH X A C st
 | .assign _ e=>Am1 G hh (E9 G hh hu hC e).1 fun elt zz src ifs zz=>⟨(E9 G hh hu hC elt).1,(E9 G hh hu hC src).1,(bB G hh hu hC ifs).2⟩
 | .setIdx o i e=>Al7 (E9 G hh hu hC o).1 (E9 G hh hu hC i).1 (E9 G hh hu hC e).1
 | .expr e=>Bn3 (E9 G hh hu hC e).1
 | .ite c t f=>By7 (E9 G hh hu hC c).2 (bO G hh hu hC t) (bO G hh hu hC f)
 | .whl c b=>Bx4 (E9 G hh hu hC c).2 (bO G hh hu hC b)
 | .forIn _ e b=>Ba2 hh (E9 G hh hu hC e).1 (bO G hh hu hC b)
 | .forR _ e b=>Bn1 G hh (E9 G hh hu hC e).1 (bO G hh hu hC b)
 | .forEnum _ _ e b=>Ad7 G hh (E9 G hh hu hC e).1 (bO G hh hu hC b)
 | .ret e=>Bx9 (E9 G hh hu hC e).1
 | .retNone=>Ad5
 | .cont=>Bn4
 | .pass=>Bm3
 | .raise _ _=>Ba0
theorem bO (G:iB X) (hh:A.handled=none) (hu:A.units+106<cLine) (hC:iE X A C):∀ sts:List Mini.S,bC X A C sts
 | []=>By3
 | st::sts=>Bn5 (Cq7 G hh hu hC st) (bO G hh hu hC sts)
end
theorem oS:∀ {names:List Str}{vals:List Value}{i:Nat}{n:Str}{v:Value},names.Nodup->names[i]? = some n->vals[i]? = some v->(names.zip vals).lookup n=some v
 | [],_,_,_,_,_,h,_=>by simp at h
 | _::_,[],_,_,_,_,_,h=>by simp at h
 | a::names,b::vals,0,n,v,_,h1,h2=>by
  simp at h1 h2;subst h1;subst h2;simp
 | a::names,b::vals,i+1,n,v,hd,h1,h2=>by
  simp at h1 h2
  have hd:=List.nodup_cons.mp hd
  have hne:(n==a)=false:=by
   rw [beq_eq_false_iff_ne];rintro rfl
   exact hd.1 (B9 h1)
  rw [List.zip_cons_cons,List.lookup_cons,hne]
  exact oS hd.2 h1 h2
theorem dU:∀ {names:List Str}{vals:List Value}(l:List (Str×Value)),names.length=vals.length->(∀ (i:Nat) (n:Str) (v:Value),names[i]? = some n->vals[i]? = some v->l.lookup n=some v) ->
  (names.filterMap fun n=>(l.lookup n).map (n,·))=names.zip vals
 | [],_,_,_,_=>by simp
 | _::_,[],_,h,_=>by simp at h
 | a::names,b::vals,l,h,hl=>by
  rw [List.filterMap_cons,hl 0 a b rfl rfl]
  simp only [Option.map_some,List.zip_cons_cons]
  rw [dU l (by simpa using h) fun i n v h1 h2=>hl (i+1) n v (by simpa using h1) (by simpa using h2)]
theorem Bp3 {name:Str}{params:Arguments}{body:List Stmt}{scope:Scope}{pm cd doc:Value}{vals:List Value}
  (h1:params.posonlyargs=[]) (h2:params.vararg=none) (h3:params.kwonlyargs=[]) (h4:params.kwarg=none) (hlen:params.args.length=vals.length) (hnd:(params.args.map (·.arg)).Nodup) :
  bindArgs (docDef name params body scope pm cd doc) ⟨vals,[]⟩=pure ((params.args.map (·.arg)).zip vals):=by
 have hz:∀ (i:Nat) (n:Str) (v:Value),(params.args.map (·.arg))[i]? = some n->vals[i]? = some v->((params.args.map (·.arg)).zip vals).lookup n=some v:=fun i n v e1 e2=>oS hnd e1 e2
 have hf:=dU (names:=params.args.map (·.arg)) (vals:=vals) ((params.args.map (·.arg)).zip vals) (by simpa using hlen) hz
 have hm:((params.args.map (·.arg)).filter fun n=>(((params.args.map (·.arg)).zip vals).lookup n).isNone)=[]:=by
  rw [List.filter_eq_nil_iff]
  intro n hn
  obtain ⟨i,hi⟩:=List.getElem?_of_mem hn
  have:i<vals.length:=by
   have:=(List.getElem?_eq_some_iff.mp hi).1
   simp at this;exact Mini.M4 (Mini.M9 this (Nat.le_of_eq hlen))
  rw [hz i n _ hi (List.getElem?_eq_getElem this)]
  simp
 unfold bindArgs docDef
 simp only [h1,h2,h3,h4,List.map_nil,List.nil_append,List.append_nil]
 rw [List.forIn_nil]
 have e:seqItems? Value.none=pure none:=rfl
 have hgt:decide ((params.args.map (·.arg)).length<vals.length)=false:=by simp [hlen]
 have ht:(params.args.map (·.arg)).take ((params.args.map (·.arg)).length - 0)=params.args.map (·.arg):=List.take_of_length_le (A4 _)
 simp only [pure_bind,e,Option.getD_none,gt_iff_lt,hgt,Bool.false_and,Bool.false_eq_true,if_false,List.drop_nil,List.length_nil,Nat.zero_sub,ht,hm,List.isEmpty_nil,Bool.not_true,List.zip_nil_right,List.forIn_nil,hf]
theorem jZ {kindOf:Str->Option NameKind}:∀ {names:List Str}{vals:List Value}{m:Str->Option Value}{n:Str},n ∉ names->bindL kindOf (names.zip vals) m n=m n
 | [],_,_,_,_=>rfl
 | _::_,[],_,_,_=>rfl
 | a::names,b::vals,m,n,h=>by
  simp only [List.mem_cons,not_or] at h
  rw [List.zip_cons_cons]
  unfold bindL
  rw [jZ h.2]
  split
  ·exact if_neg h.1
  ·rfl
theorem rZ {kindOf:Str->Option NameKind}:∀ {names:List Str}{vals:List Value}{m:Str->Option Value}{i:Nat}{n:Str}{v:Value},names.Nodup->names[i]? = some n->vals[i]? = some v->kindOf n=some .local->bindL kindOf (names.zip vals) m n=some v
 | [],_,_,_,_,_,_,h,_,_=>by simp at h
 | _::_,[],_,_,_,_,_,_,h,_=>by simp at h
 | a::names,b::vals,m,0,n,v,hd,h1,h2,hk=>by
  simp at h1 h2;subst h1;subst h2
  rw [List.zip_cons_cons]
  unfold bindL
  rw [jZ (List.nodup_cons.mp hd).1,if_pos hk,if_pos rfl]
 | a::names,b::vals,m,i+1,n,v,hd,h1,h2,hk=>by
  simp at h1 h2
  rw [List.zip_cons_cons]
  unfold bindL
  exact rZ (List.nodup_cons.mp hd).2 h1 h2 hk
theorem kA {kindOf:Str->Option NameKind}:∀ {names:List Str}{vals:List Value}{m:Str->Option Value}{n:Str},n ∉ names->bindC kindOf (names.zip vals) m n=m n
 | [],_,_,_,_=>rfl
 | _::_,[],_,_,_=>rfl
 | a::names,b::vals,m,n,h=>by
  simp only [List.mem_cons,not_or] at h
  rw [List.zip_cons_cons]
  unfold bindC
  rw [kA h.2]
  split
  ·rfl
  ·exact if_neg h.1
theorem sA {kindOf:Str->Option NameKind}:∀ {names:List Str}{vals:List Value}{m:Str->Option Value}{i:Nat}{n:Str}{v:Value},names.Nodup->names[i]? = some n->vals[i]? = some v->kindOf n≠some .local->bindC kindOf (names.zip vals) m n=some v
 | [],_,_,_,_,_,_,h,_,_=>by simp at h
 | _::_,[],_,_,_,_,_,_,h,_=>by simp at h
 | a::names,b::vals,m,0,n,v,hd,h1,h2,hk=>by
  simp at h1 h2;subst h1;subst h2
  rw [List.zip_cons_cons]
  unfold bindC
  rw [kA (List.nodup_cons.mp hd).1,if_neg hk,if_pos rfl]
 | a::names,b::vals,m,i+1,n,v,hd,h1,h2,hk=>by
  simp at h1 h2
  rw [List.zip_cons_cons]
  unfold bindC
  exact sA (List.nodup_cons.mp hd).2 h1 h2 hk
theorem S9:∀ (names:List (Str×NameKind)) (n:Nat) (acc:List (Str×Addr)) (x:Str),((x,NameKind.cell)∈names∨(acc.lookup x).isSome=true)->((cellsFrom n names acc).lookup x).isSome=true
 | [],_,_,_,h=>by
  rcases h with h | h
  ·cases h
  ·exact h
 | (a,k)::r,n,acc,x,h=>by
  unfold cellsFrom
  split
  ·rename_i hk
   refine S9 r _ _ x ?_
   rcases h with h | h
   ·rcases List.mem_cons.mp h with h | h
    ·cases h;right;simp
    ·exact Or.inl h
   ·right
    rw [List.lookup_cons]
    split
    ·rfl
    ·exact h
  ·rename_i hk
   refine S9 r _ _ x ?_
   rcases h with h | h
   ·rcases List.mem_cons.mp h with h | h
    ·cases h;simp at hk
    ·exact Or.inl h
   ·exact Or.inr h
theorem oR:∀ {l:List Str},Mini.uH l=true->l.Nodup
 | [],_=>List.nodup_nil
 | x::l,h=>by
  simp only [Mini.uH,Bool.and_eq_true,Bool.not_eq_true'] at h
  exact List.nodup_cons.mpr ⟨by simpa using h.1,oR h.2⟩
theorem Ad8 {M:Model}{A:Around}{E:Value->Shared->Prop}{s:Shared}{scope:Scope}{globals:Addr}{binds:List (Str×Value)}{qual:Str}{func:Option Addr}{code:Value}{builtins:Addr}{Q:Env->Shared->Prop}
  (hk:scope.kind=.function)
  (hkind:∀ x∈binds,scope.names.lookup x.1=some .local∨(scope.names.lookup x.1=some .cell/\((cellsFrom (s.heap.objs.size+1) scope.names []).lookup x.1).isSome=true))
  (hQ:∀ env,env=newEnv scope s.heap.objs.size globals (cellsFrom (s.heap.objs.size+1) scope.names []) qual func code none builtins ->
   ∀ s',InCallC s env.locals (bindL env.kindOf binds fun zz=>none) env.cells (bindC env.kindOf binds fun zz=>none) s'->s.toks<=s'.toks->(∀ n v r,binds=(n,v)::r->scope.names.lookup n=some .local->s.toks<s'.toks)->Q env s') :
  wpAny M A (newFunctionEnv scope globals [] binds qual func code none builtins) Q E s:=by
 cases binds with
 | nil=>exact free (wpAny_newFunctionEnv_cells hk hkind fun env he s' W ht=>hQ env he s' W ht fun zz zz zz e=>by cases e)
 | cons b r =>
  obtain ⟨n,v⟩:=b
  by_cases hl:scope.names.lookup n=some .local
  ·refine free ?_
   simp only [newFunctionEnv,Option.isSome_none,Bool.false_eq_true,if_false]
   refine wpAny_bind (wpAny_alloc ?_)
   refine wpAny_bind (wpAny_layCells _ (fun name kind cells=>by cases hkc:kind==NameKind.cell<;>simp [hkc]) _ _ _ _ ?_)
   have ok:=cellsFrom_ok scope.names (s.heap.push { cls:=.type "frame",data:=.dict #[] }) (s.heap.objs.size+1) [] ⟨fun zz zz hm=>(nomatch hm),List.Pairwise.nil⟩ (by rw [Heap.size_push];exact A4 _)
   rw [Heap.size_push] at ok
   rw [show ({ s with heap:=s.heap.push { cls:=.type "frame",data:=.dict #[] } }:Shared).heap.objs.size=s.heap.objs.size+1 from Heap.size_push ..]
   rw [List.forIn_cons]
   generalize hE:newEnv scope s.heap.objs.size globals (cellsFrom (s.heap.objs.size+1) scope.names []) qual func code none builtins=env at hQ
   have hEk:env.scope=scope:=by rw [<- hE];rfl
   have hEl:env.locals=s.heap.objs.size:=by rw [<- hE];rfl
   have hEc:env.cells=cellsFrom (s.heap.objs.size+1) scope.names []:=by rw [<- hE];rfl
   have x:InCallC s env.locals (fun zz=>none) env.cells (fun zz=>none) { s with heap:=pushCells (s.heap.push { cls:=.type "frame",data:=.dict #[] }) scope.names }:=by
    rw [hEl,hEc]
    exact ⟨⟨⟨_,_,rfl⟩,(Heap.Ns.new s.heap (.type "frame")).keeps (pushCells_keeps _ _),fun b o e=>pushCells_keeps _ _ b o (Heap.get?_push_of_some _ e),A4 _⟩,
     fun n c hc=>(ok.empty n c (mem_of_lookup hc)).1,ok.apart,fun n c hm=>(ok.empty n c hm).2⟩
   have hkl:env.kindOf n=some .local:=by show env.scope.names.lookup n=_;rw [hEk];exact hl
   show wpAny M A ((do storeName (newEnv scope s.heap.objs.size globals (cellsFrom (s.heap.objs.size+1) scope.names []) qual func code none builtins) n v;pure (ForInStep.yield PUnit.unit)) >>= _ >>= _) _ _ _
   rw [hE]
   refine wpAny_bind (wpAny_bind (wpAny_bind (wpAny_storeName_local hkl x.toInCall.ns (fun h' hn' hs'=>wpAny_pure ?_) (by rw [hEk,hk];rfl))))
   have x':InCallC s env.locals (fun y=>if y=n then some v else none) env.cells (fun zz=>none) { s with heap:=h',toks:=s.toks+1 } :=
    ⟨⟨⟨h',_,rfl⟩,hn',fun b o e=>hs'.extBut b o (Nat.ne_of_lt (A8 (Heap.lt_size e) x.toInCall.fresh)) (x.toInCall.keep b o e),x.toInCall.fresh⟩,
     fun k c hc=>(x.cell k c hc).sameBut hs' (Nat.ne_of_gt (x.above k c (mem_of_lookup hc))),x.apart,x.above⟩
   refine free (wpAny_bindParams (s₀:=s) (env:=env) _ (fun zz zz zz=>by rw [<- hE];rfl) (by rw [hEk];exact hk) r _ _ _ _ x' (fun y hy=>?_) fun s'' x'' ht=>wpAny_pure fun ht'=>?_)
   ·have:=hkind y (List.mem_cons_of_mem _ hy)
    show env.scope.names.lookup y.1=_∨(env.scope.names.lookup y.1=_/\_)
    rw [hEk,hEc];exact this
   ·have hq:=hQ env rfl s'' (by unfold bindL bindC;rw [if_pos hkl,if_pos hkl];exact x'') ht' fun zz zz zz zz zz=>ht
    rw [<- hE] at hq
    exact hq
  ·exact free (wpAny_newFunctionEnv_cells hk hkind fun env he s' W ht=>hQ env he s' W ht fun n' v' r' e hl'=>by cases e;exact absurd hl' hl)
noncomputable def Y6 (X:Cx) (ls:List Nat):Cx:={ X with gl:={ X.gl with lits:=ls } }
theorem iB.lits (G:iB X) (ls:List Nat):iB (Y6 X ls):=⟨G.g,G.b,G.nolimit,G.globs,G.fns,G.bf,G.bt⟩
structure In (X:Cx) (fn:Mini.Fn) (φ:List Addr) (H:Mini.Heap) (vs:List V) (scope:Scope) (s:Shared) (env:Env) (s₁:Shared):Prop where
 L:H9 (Y6 X fn.lits) φ (fn.names.map Str.ofString) env (Mini.frame fn vs) s₁
 F:I7 X.h₀ φ s φ H s₁
 keep:∀ b o,s.heap.get? b=some o->s₁.heap.get? b=some o
 own:∀ b,b<s.heap.objs.size->¬ Own env b
 fr:env.frame=some env.locals
 new:s.heap.objs.size<=env.locals
 sc:env.scope=scope
theorem In.fwd {fn:Mini.Fn}{φ:List Addr}{H:Mini.Heap}{vs:List V}{scope:Scope}{s:Shared}{env:Env}{s₁:Shared}{φ':List Addr}{H':Mini.Heap}{s':Shared}(I:In X fn φ H vs scope s env s₁) (F2:M8 X.h₀ env φ s₁ φ' H' s'):I7 X.h₀ φ s φ' H' s':=by
 obtain ⟨⟨h2,t2,e2⟩,k2,z2,w2,⟨ψ,g2,m2⟩,o2⟩:=F2
 obtain ⟨⟨⟨h1,t1,e1⟩,_,z1,w1⟩,_,_⟩:=I.F
 exact ⟨⟨⟨h2,t2,by rw [e2,e1]⟩,fun b o hb e=>k2 b o hb (I.own b (Heap.lt_size e)) (I.keep b o e),A3 z1 z2,A3 w1 w2⟩,⟨ψ,g2,fun a ha=>A3 z1 (m2 a ha)⟩,o2⟩
theorem Bb1 (G:iB X) (hd:A.depth<recursionLimit) {f:String}{fa:Addr}{fn:Mini.Fn}{o:Obj}{params:Arguments}{body bodyC:List Stmt}{scope:Scope}{pm cd doc:Value}{vs:List V}{xs:List Value}{H:Mini.Heap}{φ:List Addr}{s:Shared}{Kr:Result->Shared->Prop}
  (ho:X.h₀.get? fa=some o) (hdt:o.data=.func (docDef (Str.ofString f) params body scope pm cd doc)) (hcd:X.h₀.CodeRec cd (Str.ofString f)) (hck:Mini.As9 X.gl fn params bodyC scope=true) (hlen:vs.length=fn.params)
  (O:Ok X.h₀ φ H s.heap) (rs:C5 X.h₀ φ s.heap vs xs) (hpos:X.gl.pos=true->0<s.toks∨fn.bump=true) (hlit:∀ j∈fn.lits,∀ x,xs[j]? = some x->∃ y t,x=.str y t/\0<t/\t<s.toks)
  (run:∀ env s₁,In X fn φ H vs scope s env s₁->Mini.P9 (Y6 X fn.lits).gl env.scope.names (fn.names.map Str.ofString) fn.body bodyC=true ->
   wpAny (M7 X) (A.deeper env) (execs body env) (fun fl s'=>Kr (.ok (.ret (match fl with | .ret v=>v | _=>.none))) s') (fun e s'=>wpAny (M7 X) (A.deeper env) (leaving env e) (fun zz s''=>Kr (.error e) s'') (fun e' s''=>Kr (.error e') s'') s') s₁) :
  codeAny (M7 X) A (.call (.ref fa) ⟨xs,[]⟩) Kr s:=by
 unfold Mini.As9 at hck
 simp only [Bool.and_eq_true,List.isEmpty_iff,Option.isNone_iff_eq_none,decide_eq_true_eq,beq_iff_eq,List.all_eq_true] at hck
 obtain ⟨⟨⟨⟨⟨⟨⟨⟨⟨⟨⟨⟨⟨c1,c2⟩,c3⟩,c4⟩,c5⟩,c6⟩,c7⟩,c8⟩,c9⟩,c10⟩,c11⟩,c12⟩,c14⟩,c13⟩:=hck
 unfold Mini.Bj8 at c1
 simp only [Bool.and_eq_true,beq_iff_eq,Bool.not_eq_true',List.all_eq_true,bne_iff_ne] at c1
 obtain ⟨⟨⟨d1,d2⟩,d3⟩,d4⟩:=c1
 have hnd:=oR c2
 have hxl:xs.length=fn.params:=by rw [<- rs.length,hlen]
 have hpl:params.args.length=xs.length:=by
  have:=congrArg List.length c10
  simp at this
  lia
 have hndA:(params.args.map (·.arg)).Nodup:=by
  rw [c10,List.map_take]
  exact hnd.sublist (List.take_sublist _ _)
 have hbind:=Bp3 (name:=Str.ofString f) (body:=body) (scope:=scope) (pm:=pm) (cd:=cd) (doc:=doc) c4 c5 c6 c7 hpl hndA
 have ho':=O.base _ _ ho
 have hcd':s.heap.CodeRec cd (Str.ofString f):=hcd.keeps O.base
 have hlim':s.heap.NoLimit:=G.nolimit.keeps O.base
 refine codeAny_call_function hd ho' hdt d3 d2 rfl hcd' ?_
 rw [hbind]
 have hroom:=O.room
 have hkindA:∀ x∈(params.args.map (·.arg)).zip xs,scope.names.lookup x.1=some .local∨(scope.names.lookup x.1=some .cell/\((cellsFrom (s.heap.objs.size+1) scope.names []).lookup x.1).isSome=true):=fun x hx=>by
  have hx1:=(List.of_mem_zip (a:=x.1) (b:=x.2) hx).1
  obtain ⟨ar,har,e⟩:=List.mem_map.mp hx1
  have:=c11 ar har
  simp only [Bool.or_eq_true,beq_iff_eq] at this
  rw [<- e]
  rcases this with q | q
  ·exact Or.inl q
  ·exact Or.inr ⟨q,S9 _ _ _ _ (Or.inl (mem_of_lookup q))⟩
 refine wpAny_pure (Ad8 d1 hkindA fun env he s₁ W htk hbump=>?_)
 have hpos1:X.gl.pos=true->0<s₁.toks:=fun hp=>by
  rcases hpos hp with q | e2
  ·exact A8 q htk
  ·rw [e2] at c14
   simp only [Bool.not_true,Bool.false_or] at c14
   unfold Mini.zO at c14
   cases ha:params.args with
   | nil=>rw [ha] at c14;cases c14
   | cons a0 r0 =>
    rw [ha] at c14
    have c14:scope.names.lookup a0.arg=some .local:=by simpa using c14
    cases hx:xs with
    | nil=>rw [hx,ha] at hpl;simp at hpl
    | cons x0 xr =>
     exact A9 (B0 _) (hbump a0.arg x0 ((r0.map (·.arg)).zip xr) (by rw [ha,hx];rfl) c14)
 refine ⟨hlim'.keeps W.toInCall.keep,codeAny_func ?_⟩
 have eL:env.locals=s.heap.objs.size:=by rw [he];rfl
 have eS:env.scope=scope:=by rw [he];rfl
 have eC:env.cells=cellsFrom (s.heap.objs.size+1) scope.names []:=by rw [he];rfl
 have eG:env.globals=mainGlobals:=by rw [he];rfl
 have eB:env.builtins=builtinsNs:=by rw [he];rfl
 have hz1:s.heap.objs.size<=s₁.heap.objs.size:=B5 (by have:=W.toInCall.ns.lt;rw [eL] at this;exact this)
 obtain ⟨h1,tk1,e1⟩:=W.toInCall.same
 have F1:I7 X.h₀ φ s φ H s₁:=by
  rw [e1]
  exact I7.ext O (fun b o e=>by have:=W.toInCall.keep b o e;rwa [e1] at this) (by rw [e1] at hz1;exact hz1) (by rw [e1] at htk;exact htk)
 have rs1:=F1.vals O rs
 have kindEq:∀ x,env.kindOf x=scope.names.lookup x:=fun x=>by show env.scope.names.lookup x=_;rw [eS]
 have argAt:∀ (i:Nat) (x:Str),(fn.names.map Str.ofString)[i]? = some x->i<fn.params->(params.args.map (·.arg))[i]? = some x:=fun i x hx hi=>by
  rw [c10,List.map_take,List.getElem?_take,if_pos hi];exact hx
 have frameAt:∀ i,i<fn.params->∃ v,vs[i]? = some v/\((Mini.frame fn vs)[i]?).getD none=some v:=fun i hi=>by
  have hi':i<vs.length:=by rw [hlen];exact hi
  refine ⟨vs[i],List.getElem?_eq_getElem hi',?_⟩
  unfold Mini.frame
  rw [List.getElem?_append_left (by simpa using hi')]
  simp [hi']
 have frameOff:∀ (i:Nat) (x:Str),(fn.names.map Str.ofString)[i]? = some x->¬ i<fn.params->((Mini.frame fn vs)[i]?).getD none=none:=fun i x hx hi=>by
  unfold Mini.frame
  rw [List.getElem?_append_right (by rw [B6,hlen];exact Nat.le_of_not_lt hi)]
  rw [List.getElem?_replicate]
  split<;>rfl
 have L1:H9 (Y6 X fn.lits) φ (fn.names.map Str.ofString) env (Mini.frame fn vs) s₁:=by
  refine ⟨by rw [eS];exact d1,eG,eB,?_,hnd,hpos1,⟨_,W.toInCall.ns,fun i x hx hk=>?_⟩,fun i x hx hk=>?_,?_,fun x c hc=>?_,fun x c hc=>⟨_,W.cell x c hc⟩,fun x y c hx hy=>?_⟩
  ·unfold Mini.frame;simp;lia
  ·by_cases hi:i<fn.params
   ·obtain ⟨v,hv,hfr⟩:=frameAt i hi
    obtain ⟨y,hy,ry⟩:=rs1.get hv
    have hb:=rZ (kindOf:=env.kindOf) (m:=fun zz=>none) hndA (argAt i x hx hi) hy hk
    rw [hfr,hb]
    exact ⟨⟨y,rfl,ry⟩,fun hil z hz=>by
     cases hz
     obtain ⟨l,t,e,p1,p2⟩:=hlit i hil y hy
     exact ⟨l,t,e,p1,A8 p2 htk⟩⟩
   ·rw [frameOff i x hx hi]
    refine ⟨trivial,fun hil=>?_⟩
    exact absurd (c12 i hil) hi
  ·have hk':env.kindOf x=some .cell:=by
    rcases hk with hk | hk
    ·exact hk
    ·rw [kindEq] at hk
     exact absurd rfl (d4 _ (mem_of_lookup hk))
   have hcm:(x,NameKind.cell)∈scope.names:=by rw [kindEq] at hk';exact mem_of_lookup hk'
   obtain ⟨c,hc⟩:=Option.isSome_iff_exists.mp (S9 scope.names (s.heap.objs.size+1) [] x (Or.inl hcm))
   rw [<- eC] at hc
   refine ⟨c,_,hc,W.cell x c hc,?_⟩
   by_cases hi:i<fn.params
   ·obtain ⟨v,hv,hfr⟩:=frameAt i hi
    obtain ⟨y,hy,ry⟩:=rs1.get hv
    have hb:=sA (kindOf:=env.kindOf) (m:=fun zz=>none) hndA (argAt i x hx hi) hy (by rw [hk'];simp)
    rw [hfr,hb]
    exact ⟨⟨y,rfl,ry⟩,fun hil z hz=>by
     cases hz
     obtain ⟨l,t,e,p1,p2⟩:=hlit i hil y hy
     exact ⟨l,t,e,p1,A8 p2 htk⟩⟩
   ·rw [frameOff i x hx hi]
    refine ⟨trivial,fun hil=>?_⟩
    exact absurd (c12 i hil) hi
  ·rw [eL];exact hroom
  ·have:=W.above x c (mem_of_lookup hc)
   rw [eL] at this
   exact A3 hroom (B5 this)
  ·exact name_of_addr W.apart (mem_of_lookup hx) (mem_of_lookup hy)
 refine run env s₁ ⟨L1,F1,W.toInCall.keep,fun b hb hown=>?_,by rw [he];rfl,by rw [eL];exact A4 _,eS⟩ (by rw [eS];exact c13)
 rcases hown with rfl | ⟨x,hx⟩
 ·rw [eL] at hb;exact Nat.lt_irrefl _ hb
 ·have:=W.above x b (mem_of_lookup hx)
  rw [eL] at this
  exact absurd hb (Nat.not_lt.mpr (B5 this))
theorem Au6:∀ (n:Nat) (X:Cx) (A:Around),iB X->A.handled=none->A.depth+n<=recursionLimit->A.units+3 * n+106<cLine->iE X A (Mini.C1 X.P n)
 | 0,X,A,G,hh,hd,hu=>fun f ls fa vs Q H φ s xs K EX hls hm hC=>by
  exact False.elim hC
 | n+1,X,A,G,hh,hd,hu=>fun f ls fa vs Q H φ s xs K EX hls hm hC O rs hpos hlit k=>by
  obtain ⟨fn,fa',o,params,body,scope,pm,cd,doc,hP,hfl,hm',ho,hdt,hcd,hck⟩:=G.fns f ls hls
  rw [hm] at hm';cases hm'
  replace hC:(match X.P f with | some fn=>_ | none=>_):=hC
  rw [hP] at hC
  obtain ⟨hlen,hw⟩:=hC
  refine wpAny_call (Bb1 G (A8 (Nat.lt_add_of_pos_right (Nat.succ_pos n)) hd) ho hdt hcd hck hlen O rs (fun hp=>(hpos hp).imp id fun ⟨fn',e1,e2⟩=>by rw [hP] at e1;cases e1;exact e2) (fun j hj=>hlit j (hfl▸hj)) fun env s₁ I c13=>?_)
  have hCn:=Au6 n (Y6 X fn.lits) (A.deeper env) (G.lits _) hh (by show A.depth+1+n<=_;rw [Nat.add_right_comm];exact hd) (by show A.units+3+3 * n+106<_;rw [Nat.add_assoc A.units 3,Nat.add_comm 3];exact hu)
  refine bO (X:=Y6 X fn.lits) (A:=A.deeper env) (C:=Mini.C1 X.P n) (G.lits _) hh (A9 (Nat.add_le_add_right (Nat.add_le_add_left (Nat.le_add_left 3 (3 * n)) _) _) hu) hCn fn.body body env _ _ _ H φ s₁ _ _ c13 I.L I.F.ok hw fun fl ρ' H' φ' ff s' q F2 L2 r=>?_
  have FF:=I.fwd F2
  cases fl with
  | next=>obtain rfl:=r;exact k _ _ _ _ _ q FF (by rfl)
  | cont=>obtain rfl:=r;exact k _ _ _ _ _ q FF (by rfl)
  | ret v =>
   obtain ⟨x,rfl,rx⟩:=r
   exact k _ _ _ _ _ q FF rx
end
end MiniS
namespace MiniS
open PySem PySem.Calls PyProof.Rows PySem.W
open Mini (V D)
noncomputable def Cg3 (p:Program) (gl:Mini.Gl) (P:List (String×Mini.Fn)) (x:String×List Nat):Bool:=match P.lookup x.1 with
 | some fn=>fn.lits==x.2&&(recsOf p).any fun d=>d.name==Str.ofString x.1&&Mini.As9 gl fn d.params d.body d.scope
 | none=>false
noncomputable def Bh6 (p:Program) (x:String×Int):Bool:=match valOf p (Str.ofString x.1) with
 | some (.int i)=>i==x.2
 | _=>false
noncomputable def Au3 (p:Program) (loose:List Str) (x:Str):Bool :=
 !startupNames.contains x&&!loose.contains x&&!((recsOf p).map (·.name)).contains x&&!((litsOf p).map (·.1)).contains x&&!((clssOf p loose).map (·.name)).contains x
noncomputable def iS (p:Program) (loose:List Str) (gl:Mini.Gl) (P:List (String×Mini.Fn)):Bool :=
 gl.fns.all (Cg3 p gl P)&&gl.intL.all (Bh6 p)&&(bN++bM).all fun n=>Au3 p loose (Str.ofString n)
theorem cL {α:Type}:∀ {l:List (String×α)}{n:String}{c:α},l.lookup n=some c->(n,c)∈l
 | (k,v)::r,n,c,h=>by
  rw [List.lookup_cons] at h
  cases hb:n==k with
  | true=>rw [hb] at h;cases h;rw [beq_iff_eq.mp hb];exact List.mem_cons_self
  | false=>rw [hb] at h;exact List.mem_cons_of_mem _ (cL h)
set_option tactic.hygienic true in
theorem Am9 {prog p:Program}{w:World}{loose:List Str}{mean:ExcName->Option Value}{mg mb:Str->Option Value}{h:Heap}{gl:Mini.Gl}{P:List (String×Mini.Fn)}
  (T:Top p loose mean mg mb h) (hc:iS p loose gl P=true):iB ⟨prog,w,h,gl,fun f=>P.lookup f,mg,mb⟩:=by
 unfold iS at hc
 simp only [Bool.and_eq_true,List.all_eq_true] at hc
 obtain ⟨⟨h1,h2⟩,h3⟩:=hc
 have hfree:∀ n∈bN++bM,mg (Str.ofString n)=none:=fun n hn=>by
  have:=h3 n hn
  unfold Au3 at this
  simp only [Bool.and_eq_true,Bool.not_eq_true'] at this
  obtain ⟨⟨⟨⟨a1,a2⟩,a3⟩,a4⟩,a5⟩:=this
  exact T.free _ (by simpa using a1) (by simpa using a2) (by simpa using a3) (by simpa using a4) (by simpa using a5)
 refine ⟨T.g,T.b,T.nolimit,fun g i hm=>?_,fun f ls hf=>?_,fun n hn=>⟨hfree n (List.mem_append_left _ hn),?_⟩,fun n hn=>⟨hfree n (List.mem_append_right _ hn),?_⟩⟩
 ·have:=h2 _ hm
  unfold Bh6 at this
  split at this
  ·rename_i i' e
   have ei:i'=i:=by simpa using this
   subst ei
   obtain ⟨v,hv,hr⟩:=T.const _ _ e
   cases hr default
   exact ⟨_,hv⟩
  ·cases this
 ·have:=h1 _ (cL hf)
  unfold Cg3 at this
  split at this
  ·rename_i fn e
   simp only [Bool.and_eq_true,beq_iff_eq,List.any_eq_true] at this
   obtain ⟨hl,d,hd,hn,hck⟩:=this
   obtain ⟨a,o,pm,code,doc,q1,q2,q3,q4⟩:=T.fn d hd
   rw [hn] at q1 q3 q4
   exact ⟨fn,a,o,d.params,d.body,d.scope,pm,code,doc,e,hl,q1,q2,q3,q4,hck⟩
  ·cases this
 ·show mb (Str.ofString n)=_
  rw [T.builtins (Str.ofString n) (by
   simp only [bN,List.mem_cons,List.not_mem_nil,or_false] at hn
   rcases hn with rfl | rfl | rfl | rfl<;>decide +kernel)]
  simp only [bN,List.mem_cons,List.not_mem_nil,or_false] at hn
  rcases hn with rfl | rfl | rfl | rfl<;>decide +kernel
 ·show mb (Str.ofString n)=_
  rw [T.builtins (Str.ofString n) (by
   simp only [bM,List.mem_cons,List.not_mem_nil,or_false] at hn
   rcases hn with rfl | rfl | rfl | rfl | rfl | rfl | rfl<;>decide +kernel)]
  simp only [bM,List.mem_cons,List.not_mem_nil,or_false] at hn
  rcases hn with rfl | rfl | rfl | rfl | rfl | rfl | rfl<;>decide +kernel
theorem oT {R:WRecords}:∀ {xs:List WData},WShape.hasItems R xs .int=true->∃ ns:List Int,xs=ns.map WData.int
 | [],_=>⟨[],rfl⟩
 | x::xs,h=>by
  simp only [WShape.hasItems,Bool.and_eq_true] at h
  obtain ⟨ns,rfl⟩:=oT h.2
  obtain ⟨i,rfl⟩:∃ i,x=.int i:=by
   cases x<;>first | exact ⟨_,rfl⟩ | exact absurd (show false=true from h.1) (by decide)
  exact ⟨i::ns,rfl⟩
theorem Bo9 {l:OpenLaw}(hm:l.most=some 63) {args:List WData}(hpre:l.row.claim.pre args=true):∃ ns:List Int,args=[.list (ns.map WData.int)]/\ns.length<=63:=by
 obtain ⟨h1,h2⟩:=pre_splitW hpre
 obtain ⟨d,r,rfl,hd,hr⟩:=hasAllW_cons h1
 obtain rfl:=hasAllW_nil hr
 replace hd:∃ xs,d=.list xs/\WShape.hasItems l.row.records xs .int=true:=by
  cases d<;>first | exact absurd (show false=true from hd) (by decide) | exact ⟨_,rfl,(Bool.or_false _).symm.trans hd⟩
 obtain ⟨xs,rfl,hd⟩:=hd
 obtain ⟨ns,rfl⟩:=oT hd
 refine ⟨ns,rfl,?_⟩
 have h2:(l.pre).holds [] { args:=[.list (ns.map WData.int)] }=true:=h2
 unfold OpenLaw.pre at h2
 rw [hm] at h2
 by_cases hlt:ns.length<=63
 ·exact hlt
 ·exfalso
  have e:decide ((63:Int)<((ns.map WData.int).length:Int))=true:=by simp;exact Int.ofNat_lt.mpr (Mini.M4 (Nat.lt_of_not_le hlt))
  replace h2:=(holds_andW h2).1
  have e3:WTm.value [] (.not (.lt (.lit (.int (63:Nat))) (.len (.arg 0)))) { args:=[.list (ns.map WData.int)] }=some (WData.bool (!(decide ((63:Int)<((ns.map WData.int).length:Int))))):=rfl
  rw [e] at e3
  have e4:WTm.holds [] (.not (.lt (.lit (.int (63:Nat))) (.len (.arg 0)))) { args:=[.list (ns.map WData.int)] }=false:=by
   unfold WTm.holds
   rw [e3]
   rfl
  exact absurd (e4.symm.trans h2) (by decide)
theorem oQ {R:WRecords}{cl:Str->Option Addr}{h:Heap}:∀ {ns:List Int}{vs:List Value}{as:List Addr},ReadsAllW R cl h vs (ns.map WData.int) as->bP ns vs
 | [],_,_,H=>by cases H;trivial
 | i::ns,_,_,H=>by
  cases H with
  | cons h1 h2 =>
   cases h1
   exact ⟨⟨_,rfl⟩,oQ h2⟩
theorem Bo7 {l:OpenLaw}{args ds:List WData}:l.row.claim.post args (.bool true) ds=true:=by kernel_rfl
theorem Bo8 {l:OpenLaw}(hmost:l.most=some 63) {p:Program}{loose:List Str}{w:World}{s₀ s₁:Shared}{mg mb:Str->Option Value}{fa:Addr}{args:List WData}{vals:List Value}{as:List Addr}
  (T:Top p loose (ExcName.means s₀.heap) mg mb s₁.heap) (hg:s₁.gens=#[]) (hmg:mg (Str.ofString "law")=some (.ref fa)) (hpre:l.row.claim.pre args=true) (hrd:ReadsAllW l.row.records (classAt s₀.heap) s₁.heap vals args as)
  (gl:Mini.Gl) (P:List (String×Mini.Fn)) (n:Nat) (hn:n<=600) (hc:iS p loose gl P=true) (hl:gl.fns.lookup "law" = some []) (hb:gl.pos=true->∃ fn,P.lookup "law" = some fn/\fn.bump=true)
  (hlaw:∀ ns:List Int,ns.length<=63->Mini.C1 (fun f=>P.lookup f) n "law" [.frz ns] (fun v zz=>v=.bool true) []) :
  wpAny (model l.row.prog w) callerA (call (.ref fa) vals)
   (fun v s'=>GoodWG l.row.claim (classAt s₀.heap) (ExcName.means s₀.heap) args s₁ (Except.ok (Flow.ret v)) s')
   (fun e s'=>GoodWG l.row.claim (classAt s₀.heap) (ExcName.means s₀.heap) args s₁ (Except.error e) s') s₁:=by
 have G:=Am9 (prog:=l.row.prog) (w:=w) T hc
 obtain ⟨ns,rfl,hns⟩:=Bo9 hmost hpre
 have hlim:Mini.I8=16777216:=rfl
 cases hrd with
 | cons h1 h2 =>
  cases h2
  cases h1 with
  | list ho hcls hd hi =>
   have hi:=oQ hi
   refine Au6 n ⟨l.row.prog,w,s₁.heap,gl,fun f=>P.lookup f,mg,mb⟩ callerA G rfl ?_ ?_ "law" [] fa [.frz ns] _ [] [] s₁ _ _ _ hl hmg (hlaw ns hns) ?_ (C5.one ?_) (fun hp=>Or.inr (hb hp)) (fun j hj=>by cases hj) fun v H' φ' x s' q F r=>?_
   ·have e1:callerA.depth=301:=rfl
    have e2:recursionLimit=1000:=rfl
    exact Mini.M4 (Mini.M9 hn (Mini.M9 (Nat.le_of_eq e1) (Nat.le_of_eq e2.symm)))
   ·have e1:callerA.units=4:=rfl
    have e2:cLine=9900:=rfl
    exact Mini.M4 (Mini.M9 hn (Mini.M9 hn (Mini.M9 hn (Mini.M9 (Nat.le_of_eq e1) (Nat.le_of_eq e2.symm)))))
   ·exact ⟨fun zz zz e=>e,rfl,List.nodup_nil,fun a ha=>(by cases ha),fun l hl=>(by cases hl),A4 _,fun i a l hi=>(by simp at hi)⟩
   ·skip
    exact ⟨by exact Mini.M4 (Mini.M9 hns (Nat.le_of_eq hlim.symm)),_,_,rfl,⟨_,ho,hcls,_,by simpa using hd⟩,hi⟩
   ·subst q
    obtain rfl:=U5 r
    obtain ⟨h',tk,e⟩:=F.step.same
    refine ⟨Or.inl ⟨.bool true,.bool true,[],rfl,fun zz=>rfl,.bool true,?_,fun zz=>⟨List.nodup_nil,fun a ha=>(by cases ha)⟩⟩,.of_keep fun b o e=>F.step.keep b o (fun hm=>by cases hm) e,by rw [e],.of_eq (by rw [e];exact hg)⟩
    exact Bo7
end MiniS
namespace Mini
theorem kB {test:D7->C2->Heap->Prop}{body:D7->E2->Heap->Prop}{Q:E2}(I:Nat->D7->Heap->Prop)
  (step:∀ k ρ H,I k ρ H->∀ K:D7->Heap->Prop,(∀ k' ρ' H',k'<k->I k' ρ' H'->K ρ' H')->test ρ (fun v H₁=>boo (J1 v) (fun b H₁=>match b with
   | true=>body ρ (fun fl ρ' H₂=>match fl with
    | .ret v=>Q (.ret v) ρ' H₂
    | _=>K ρ' H₂) H₁
   | false=>Q .next ρ H₁) H₁) H):∀ (n k:Nat) (ρ:D7) (H:Heap),k<n->I k ρ H->eO test body n ρ Q H
 | 0,k,_,_,h,_=>absurd h (Nat.not_lt_zero _)
 | n+1,k,ρ,H,h,hI=>by
  exact step k ρ H hI (fun ρ' H'=>eO test body n ρ' Q H') fun k' ρ' H' hk hI'=>kB I step n k' ρ' H' (A8 hk (Nat.le_of_lt_succ h)) hI'
theorem zA {C:Calls}{c:E}{b:List S}{Q:E2}(I:Nat->D7->Heap->Prop)
  (step:∀ k ρ H,I k ρ H->∀ K:D7->Heap->Prop,(∀ k' ρ' H',k'<k->I k' ρ' H'->K ρ' H')->D9 C c ρ (fun v H₁=>boo (J1 v) (fun b' H₁=>match b' with
   | true=>C4 C b ρ (fun fl ρ' H₂=>match fl with
    | .ret v=>Q (.ret v) ρ' H₂
    | _=>K ρ' H₂) H₁
   | false=>Q .next ρ H₁) H₁) H) (k:Nat) {ρ:D7}{H:Heap}(h:I k ρ H):iA C (.whl c b) ρ Q H:=by
 exact ⟨k+1,kB I step (k+1) k ρ H (B1 _) h⟩
theorem jA {body:D7->E2->Heap->Prop}{x:Nat}{it:It}{Q:E2}(len:Nat) (I:Nat->D7->Heap->Prop)
  (bound:∀ i ρ H v,I i ρ H->it.at H i=some v->i<len)
  (step:∀ i ρ H v,I i ρ H->it.at H i=some v->∀ K:D7->Heap->Prop,(∀ ρ' H',I (i+1) ρ' H'->K ρ' H')->body (ρ.set x (some v)) (fun fl ρ' H₂=>match fl with
    | .ret v=>Q (.ret v) ρ' H₂
    | _=>K ρ' H₂) H)
  (fin:∀ i ρ H,I i ρ H->it.at H i=none->Q .next ρ H):∀ (n i:Nat) (ρ:D7) (H:Heap),len<n+i->I i ρ H->i<=len->Y0 body x it n i ρ Q H
 | 0,i,_,_,h,_,hi=>absurd h (Nat.not_lt_of_le (by rw [Nat.zero_add];exact hi))
 | n+1,i,ρ,H,h,hI,hi=>by
  show (match it.at H i with | none=>_ | some v=>_)
  cases e:it.at H i with
  | none=>exact fin i ρ H hI e
  | some v =>
   have hlt:=bound i ρ H v hI e
   exact step i ρ H v hI e (fun ρ' H'=>Y0 body x it n (i+1) ρ' Q H') fun ρ' H' hI'=>jA len I bound step fin n (i+1) ρ' H' (by rw [Nat.add_right_comm] at h;exact h) hI' hlt
theorem Aw3 {body:D7->E2->Heap->Prop}{x:Nat}{vs:List V}{Q:E2}(I:Nat->D7->Heap->Prop)
  (step:∀ i ρ H v,vs[i]? = some v->I i ρ H->∀ K:D7->Heap->Prop,(∀ ρ' H',I (i+1) ρ' H'->K ρ' H')->body (ρ.set x (some v)) (fun fl ρ' H₂=>match fl with
    | .ret v=>Q (.ret v) ρ' H₂
    | _=>K ρ' H₂) H)
  (fin:∀ ρ H,I vs.length ρ H->Q .next ρ H) {ρ:D7}{H:Heap}(h0:I 0 ρ H):∃ n,Y0 body x (.fix vs) n 0 ρ Q H :=
 ⟨vs.length+1,jA (it:=.fix vs) vs.length (fun i ρ H=>i<=vs.length/\I i ρ H) (fun i ρ H v zz e=>(List.getElem?_eq_some_iff.mp e).1)
  (fun i ρ H v hI e K hK=>step i ρ H v e hI.2 K fun ρ' H' h'=>hK ρ' H' ⟨(List.getElem?_eq_some_iff.mp e).1,h'⟩)
  (fun i ρ H hI e=>fin ρ H (by
   have:vs.length<=i:=List.getElem?_eq_none_iff.mp e
   have:i=vs.length:=Nat.le_antisymm hI.1 this
   subst this;exact hI.2)) _ 0 ρ H (B1 _) ⟨B0 _,h0⟩ (B0 _)⟩
theorem Cc0 {body:D7->E2->Heap->Prop}{x a:Nat}{l:List V}{Q:E2}(I:Nat->D7->Heap->Prop) (hl:∀ i ρ H,I i ρ H->H[a]? = some l)
  (step:∀ i ρ H v,l[i]? = some v->I i ρ H->∀ K:D7->Heap->Prop,(∀ ρ' H',I (i+1) ρ' H'->K ρ' H')->body (ρ.set x (some v)) (fun fl ρ' H₂=>match fl with
    | .ret v=>Q (.ret v) ρ' H₂
    | _=>K ρ' H₂) H)
  (fin:∀ ρ H,I l.length ρ H->Q .next ρ H) {ρ:D7}{H:Heap}(h0:I 0 ρ H):∃ n,Y0 body x (.lst a) n 0 ρ Q H:=by
 have at_eq:∀ i ρ H,I i ρ H->(It.lst a).at H i=l[i]?:=fun i ρ H h=>by
  unfold It.at;simp only [hl i ρ H h]
 exact ⟨l.length+1,jA l.length (fun i ρ H=>i<=l.length/\I i ρ H) (fun i ρ H v h e=>by rw [at_eq i ρ H h.2] at e;exact (List.getElem?_eq_some_iff.mp e).1)
  (fun i ρ H v hI e K hK=>by
   rw [at_eq i ρ H hI.2] at e
   exact step i ρ H v e hI.2 K fun ρ' H' h'=>hK ρ' H' ⟨(List.getElem?_eq_some_iff.mp e).1,h'⟩)
  (fun i ρ H hI e=>fin ρ H (by
   rw [at_eq i ρ H hI.2] at e
   have:l.length<=i:=List.getElem?_eq_none_iff.mp e
   have:i=l.length:=Nat.le_antisymm hI.1 this
   subst this;exact hI.2)) _ 0 ρ H (B1 _) ⟨B0 _,h0⟩ (B0 _)⟩
theorem vO {test:D7->(Bool->Heap->Prop)->Heap->Prop}{elt:D7->C2->Heap->Prop}{x:Nat}{ρ:D7}{it:It}{H:Heap}{Q:List V->Heap->Prop}(vs:List V) (p:V->Bool) (f:V->V)
  (hat:∀ i,it.at H i=vs[i]?) (hlen:vs.length<=I8)
  (ht:∀ v∈vs,∀ K:Bool->Heap->Prop,K (p v) H->test (ρ.set x (some v)) K H)
  (he:∀ v∈vs,p v=true->∀ K:C2,K (f v) H->elt (ρ.set x (some v)) K H) (h:Q ((vs.filter p).map f) H) :
  ∀ (n i:Nat) (acc:List V),vs.length<n+i->i<=vs.length->acc=((vs.take i).filter p).map f->T3 test elt x ρ it n i acc Q H
 | 0,i,_,h,hi,_=>absurd h (Nat.not_lt_of_le (by rw [Nat.zero_add];exact hi))
 | n+1,i,acc,hn,hi,hacc=>by
  show (match it.at H i with | none=>_ | some v=>_)
  rw [hat]
  cases e:vs[i]? with
  | none =>
   have:vs.length<=i:=List.getElem?_eq_none_iff.mp e
   have:i=vs.length:=Nat.le_antisymm hi this
   subst this
   rw [List.take_length] at hacc
   simp only [hacc];exact h
  | some v =>
   have hlt:=(List.getElem?_eq_some_iff.mp e).1
   have hm:v∈vs:=B9 e
   have htk:vs.take (i+1)=vs.take i++[v]:=by rw [List.take_add_one,e];rfl
   refine ht v hm _ ?_
   cases hp:p v with
   | false =>
    simp only
    exact vO vs p f hat hlen ht he h n (i+1) acc (by rw [Nat.add_right_comm] at hn;exact hn) hlt (by rw [hacc,htk];simp [hp])
   | true =>
    simp only
    refine he v hm hp _ ⟨?_,vO vs p f hat hlen ht he h n (i+1) _ (by rw [Nat.add_right_comm] at hn;exact hn) hlt (by rw [hacc,htk];simp [hp])⟩
    rw [hacc,B6]
    have:=List.length_filter_le p (vs.take i)
    have h2:(vs.take i).length=i:=List.length_take_of_le hi
    exact A9 (A3 this (Nat.le_of_eq h2)) (A8 hlt hlen)
theorem zQ {C:Calls}{elt:E}{x:Nat}{ρ:D7}{it:It}{H:Heap}{Q:List V->Heap->Prop}(vs:List V) (f:V->V)
  (hat:∀ i,it.at H i=vs[i]?) (hlen:vs.length<=I8)
  (he:∀ v∈vs,∀ K:C2,K (f v) H->D9 C elt (ρ.set x (some v)) K H) (h:Q (vs.map f) H):∃ n,T3 (Q7 C []) (D9 C elt) x ρ it n 0 [] Q H :=
 ⟨vs.length+1,vO vs (fun zz=>true) f hat hlen (fun v zz K hK=>hK) (fun v hv zz K hK=>he v hv K hK) (by rw [List.filter_eq_self.mpr (fun zz zz=>rfl)];exact h) _ 0 [] (B1 _) (B0 _) (by simp)⟩
end Mini
namespace Mini
theorem bX {r:Res}{Q Q':C2}(hq:∀ v H,Q v H->Q' v H) (h:res r Q):res r Q':=by
 cases r with
 | some p=>exact hq _ _ h
 | none=>exact h
theorem zB {r:Option V}{Q Q':C2}{H:Heap}(hq:∀ v H,Q v H->Q' v H) (h:val r Q H):val r Q' H:=by
 cases r with
 | some p=>exact hq _ _ h
 | none=>exact h
theorem S0 {r:Option Bool}{Q Q':Bool->Heap->Prop}{H:Heap}(hq:∀ v H,Q v H->Q' v H) (h:boo r Q H):boo r Q' H:=by
 cases r with
 | some p=>exact hq _ _ h
 | none=>exact h
theorem nT {r:Option Heap}{Q Q':C2}(hq:∀ v H,Q v H->Q' v H) (h:hea r Q):hea r Q':=by
 cases r with
 | some p=>exact hq _ _ h
 | none=>exact h
noncomputable def bD (C:Calls):Prop:=∀ f vs (Q Q':C2) H,(∀ v H,Q v H->Q' v H)->C f vs Q H->C f vs Q' H
noncomputable def jQ {α:Type}(t:(α->Heap->Prop)->Heap->Prop):Prop:=∀ (Q Q':α->Heap->Prop) H,(∀ v H,Q v H->Q' v H)->t Q H->t Q' H
theorem aS {test:D7->(Bool->Heap->Prop)->Heap->Prop}{elt:D7->C2->Heap->Prop}{x:Nat}{ρ:D7}{it:It}(ht:∀ ρ,jQ (test ρ)) (he:∀ ρ,jQ (elt ρ)) :
  ∀ (n i:Nat) (acc:List V) {Q Q':List V->Heap->Prop}{H:Heap},(∀ v H,Q v H->Q' v H)->T3 test elt x ρ it n i acc Q H->T3 test elt x ρ it n i acc Q' H
 | 0,_,_,_,_,_,_,h=>False.elim h
 | n+1,i,acc,Q,Q',H,hq,h=>by
  replace h:(match it.at H i with | none=>_ | some v=>_):=h
  show (match it.at H i with | none=>_ | some v=>_)
  cases e:it.at H i with
  | none=>rw [e] at h;exact hq _ _ h
  | some v =>
   rw [e] at h
   refine ht _ _ _ _ (fun b H1 h1=>?_) h
   cases b with
   | false=>exact aS ht he n _ _ hq h1
   | true=>exact he _ _ _ _ (fun y H2 h2=>⟨h2.1,aS ht he n _ _ hq h2.2⟩) h1
theorem Bc5 {s:List Nat}{va vb:V}{Q Q':C2}{H:Heap}(hq:∀ v H,Q v H->Q' v H) (h:yB s va vb Q H):yB s va vb Q' H:=by
 replace h:=Q2 h;obtain ⟨c,rfl,h⟩:=h
 replace h:=Av6 h;obtain ⟨i,rfl,h⟩:=h
 exact ⟨h.1,hq _ _ h.2⟩
theorem An7 {s:List Nat}{va:V}{Q Q':C2}{H:Heap}(hq:∀ v H,Q v H->Q' v H) (h:dP s va Q H):dP s va Q' H:=by
 cases va with
 | ref a =>
  replace h:(match (H[a]?).bind qR with | some l=>_ | none=>False):=h
  show (match (H[a]?).bind qR with | some l=>_ | none=>False)
  generalize (H[a]?).bind qR=o at h ⊢
  cases o with
  | none=>exact h
  | some l=>exact ⟨h.1,hq _ _ h.2⟩
 | _=>exact False.elim h
theorem wJ {s:List Nat}{va vb:V}{Q Q':C2}{H:Heap}(hq:∀ v H,Q v H->Q' v H) (h:Y9 s va vb Q H):Y9 s va vb Q' H:=by
 replace h:=Q2 h;obtain ⟨c,rfl,h⟩:=h
 replace h:=Q2 h;obtain ⟨i,rfl,h⟩:=h
 exact ⟨h.1,h.2.1,hq _ _ h.2.2⟩
mutual
theorem F8 {C:Calls}(hC:bD C):∀ (e:E) (ρ:D7),jQ (D9 C e ρ)
 | .none,ρ=>fun Q Q' H hq h=>hq _ _ h
 | .bool _,ρ=>fun Q Q' H hq h=>hq _ _ h
 | .int _,ρ=>fun Q Q' H hq h=>hq _ _ h
 | .str _,ρ=>fun Q Q' H hq h=>hq _ _ h
 | .var x,ρ=>fun Q Q' H hq h=>by
  replace h:=Aj1 h
  show (match ρ[x]? with | some (some v)=>Q' v H | _=>False)
  rcases hx:ρ[x]? with _ | _ | v<;>rw [hx] at h
  ·exact h
  ·exact h
  ·exact hq _ _ h
 | .glob _ _,ρ=>fun Q Q' H hq h=>hq _ _ h
 | .bin o l r,ρ=>fun Q Q' H hq h=>by
  replace h:=Bj0 h
  exact F8 hC l ρ _ _ _ (fun zz zz h=>F8 hC r ρ _ _ _ (fun zz zz h=>bX hq h) h) h
 | .neg _,ρ=>fun Q Q' H hq h=>hq _ _ h
 | .cmp o l r,ρ=>fun Q Q' H hq h=>by
  replace h:=Aj2 h
  exact F8 hC l ρ _ _ _ (fun zz zz h=>F8 hC r ρ _ _ _ (fun zz zz h=>S0 (fun zz zz h=>hq _ _ h) h) h) h
 | .cmp2 o p a b c,ρ=>fun Q Q' H hq h=>by
  replace h:=vD h
  refine F8 hC a ρ _ _ _ (fun zz zz h=>F8 hC b ρ _ _ _ (fun zz zz h=>S0 (fun t zz h=>?_) h) h) h
  cases t with
  | true=>exact F8 hC c ρ _ _ _ (fun zz zz h=>S0 (fun zz zz h=>hq _ _ h) h) h
  | false=>exact hq _ _ h
 | .is e c,ρ=>fun Q Q' H hq h=>F8 hC e ρ _ _ _ (fun zz zz h=>hq _ _ h) h
 | .isnot e c,ρ=>fun Q Q' H hq h=>F8 hC e ρ _ _ _ (fun zz zz h=>hq _ _ h) h
 | .and es,ρ=>fun Q Q' H hq h=>Av7 hC es ρ _ _ _ hq h
 | .or es,ρ=>fun Q Q' H hq h=>Bj6 hC es ρ _ _ _ hq h
 | .not e,ρ=>fun Q Q' H hq h=>F8 hC e ρ _ _ _ (fun zz zz h=>S0 (fun zz zz h=>hq _ _ h) h) h
 | .idx o i,ρ=>fun Q Q' H hq h=>by
  replace h:=Bi9 h
  exact F8 hC o ρ _ _ _ (fun zz zz h=>F8 hC i ρ _ _ _ (fun zz zz h=>zB hq h) h) h
 | .slc o l r,ρ=>fun Q Q' H hq h=>by
  replace h:=Bi5 h
  refine F8 hC o ρ _ _ _ (fun zz zz h=>F8 hC l ρ _ _ _ (fun v zz h=>F8 hC r ρ _ _ _ (fun w zz h=>?_) h) h) h
  cases v with
  | int a0 =>
   cases w with
   | int b0=>exact bX hq h
   | _=>exact False.elim h
  | _=>exact False.elim h
 | .slcL o l,ρ=>fun Q Q' H hq h=>by
  replace h:=Av1 h
  refine F8 hC o ρ _ _ _ (fun zz zz h=>F8 hC l ρ _ _ _ (fun v zz h=>?_) h) h
  cases v with
  | int a0 =>
   exact bX hq h
  | _=>exact False.elim h
 | .slcH o l,ρ=>fun Q Q' H hq h=>by
  replace h:=Av2 h
  refine F8 hC o ρ _ _ _ (fun zz zz h=>F8 hC l ρ _ _ _ (fun v zz h=>?_) h) h
  cases v with
  | int a0 =>
   exact bX hq h
  | _=>exact False.elim h
 | .call f es,ρ=>fun Q Q' H hq h=>uI hC es ρ _ _ _ (fun zz zz h=>hC _ _ _ _ _ hq h) h
 | .isinst e t,ρ=>fun Q Q' H hq h=>F8 hC e ρ _ _ _ (fun zz zz h=>hq _ _ h) h
 | .len e,ρ=>fun Q Q' H hq h=>F8 hC e ρ _ _ _ (fun zz zz h=>zB hq h) h
 | .toInt e,ρ=>fun Q Q' H hq h=>by
  replace h:=zF h
  refine F8 hC e ρ _ _ _ (fun v zz h=>?_) h
  cases v with
  | bool a0 =>
   exact hq _ _ h
  | _=>exact False.elim h
 | .ord e,ρ=>fun Q Q' H hq h=>F8 hC e ρ _ _ _ (fun v zz h=>by
  replace h:=Q2 (f:=fun c=>Q (.int (c:Int)) _) (Cg7 h);obtain ⟨c,rfl,h⟩:=h
  exact hq _ _ h) (Bi7 h)
 | .append o e,ρ=>fun Q Q' H hq h=>by
  replace h:=sF h
  refine F8 hC o ρ _ _ _ (fun v zz h=>?_) h
  cases v with
  | ref a0 =>
   exact F8 hC e ρ _ _ _ (fun zz zz h=>nT hq h) h
  | _=>exact False.elim h
 | .extend o e,ρ=>fun Q Q' H hq h=>by
  replace h:=sE h
  refine F8 hC o ρ _ _ _ (fun v zz h=>?_) h
  cases v with
  | ref a0 =>
   exact F8 hC e ρ _ _ _ (fun zz zz h=>nT hq h) h
  | _=>exact False.elim h
 | .pop o,ρ=>fun Q Q' H hq h=>by
  replace h:=Bi6 h
  refine F8 hC o ρ _ _ _ (fun v zz h=>?_) h
  cases v with
  | ref a0 =>
   exact bX hq h
  | _=>exact False.elim h
 | .find o a b,ρ=>fun Q Q' H hq h=>by
  replace h:=Av4 h
  refine F8 hC o ρ _ _ _ (fun v zz h=>?_) h
  cases v with
  | str a0 =>
   refine F8 hC a ρ _ _ _ (fun zz zz h=>F8 hC b ρ _ _ _ (fun zz zz h=>?_) h) h
   exact Bc5 hq h
  | _=>exact False.elim h
 | .replace o a b,ρ=>fun Q Q' H hq h=>by
  replace h:=oV h
  refine F8 hC o ρ _ _ _ (fun v zz h=>?_) h
  cases v with
  | str a0 =>
   refine F8 hC a ρ _ _ _ (fun zz zz h=>F8 hC b ρ _ _ _ (fun zz zz h=>?_) h) h
   exact wJ hq h
  | _=>exact False.elim h
 | .join o a,ρ=>fun Q Q' H hq h=>by
  replace h:=Av3 h
  refine F8 hC o ρ _ _ _ (fun v zz h=>?_) h
  cases v with
  | str a0 =>
   refine F8 hC a ρ _ _ _ (fun zz zz h=>?_) h
   exact An7 hq h
  | _=>exact False.elim h
 | .split o a,ρ=>fun Q Q' H hq h=>by
  replace h:=zG h
  refine F8 hC o ρ _ _ _ (fun v zz h=>?_) h
  cases v with
  | str a0 =>
   refine F8 hC a ρ _ _ _ (fun zz zz h=>?_) h
   replace h:=Q2 h;obtain ⟨c,rfl,h⟩:=h
   exact ⟨h.1,hq _ _ h.2⟩
  | _=>exact False.elim h
 | .lstrip o a,ρ=>fun Q Q' H hq h=>by
  replace h:=sD h
  refine F8 hC o ρ _ _ _ (fun v zz h=>?_) h
  cases v with
  | str a0 =>
   refine F8 hC a ρ _ _ _ (fun zz zz h=>?_) h
   replace h:=Q2 h;obtain ⟨c,rfl,h⟩:=h
   exact hq _ _ h
  | _=>exact False.elim h
 | .list es,ρ=>fun Q Q' H hq h=>uI hC es ρ _ _ _ (fun zz zz h=>hq _ _ h) h
 | .tup es,ρ=>fun Q Q' H hq h=>uI hC es ρ _ _ _ (fun zz zz h=>hq _ _ h) h
 | .comp elt x src ifs,ρ=>fun Q Q' H hq h=>by
  replace h:=vC h
  refine F8 hC src ρ _ _ _ (fun v H₁ h=>?_) h
  show (match iterV v with | some it=>_ | none=>False)
  generalize iterV v=o at h ⊢
  cases o with
  | none=>exact h
  | some it=>?_
  obtain ⟨n,h⟩:=h
  exact ⟨n,aS (fun ρ=>Bg8 hC ifs ρ) (fun ρ=>F8 hC elt ρ) n _ _ (fun zz zz h=>hq _ _ h) h⟩
 | .compR elt x src ifs,ρ=>fun Q Q' H hq h=>by
  replace h:=nO h
  refine F8 hC src ρ _ _ _ (fun v H₁ h=>?_) h
  show (match rangeV v with | some it=>_ | none=>False)
  generalize rangeV v=o at h ⊢
  cases o with
  | none=>exact h
  | some it=>?_
  obtain ⟨n,h⟩:=h
  exact ⟨n,aS (fun ρ=>Bg8 hC ifs ρ) (fun ρ=>F8 hC elt ρ) n _ _ (fun zz zz h=>hq _ _ h) h⟩
theorem uI {C:Calls}(hC:bD C):∀ (es:List E) (ρ:D7),jQ (R7 C es ρ)
 | [],ρ=>fun Q Q' H hq h=>hq _ _ h
 | e::es,ρ=>fun Q Q' H hq h=>by
  replace h:=Av5 h
  exact F8 hC e ρ _ _ _ (fun zz zz h=>uI hC es ρ _ _ _ (fun zz zz h=>hq _ _ h) h) h
theorem Av7 {C:Calls}(hC:bD C):∀ (es:List E) (ρ:D7),jQ (fG C es ρ)
 | [],ρ=>fun Q Q' H hq h=>False.elim h
 | [e],ρ=>fun Q Q' H hq h=>F8 hC e ρ _ _ _ hq h
 | e::e2::es,ρ=>fun Q Q' H hq h=>by
  refine F8 hC e ρ _ _ _ (fun zz zz h=>S0 (fun b zz h=>?_) h) h
  cases b with
  | true=>exact Av7 hC (e2::es) ρ _ _ _ hq h
  | false=>exact hq _ _ h
theorem Bj6 {C:Calls}(hC:bD C):∀ (es:List E) (ρ:D7),jQ (tZ C es ρ)
 | [],ρ=>fun Q Q' H hq h=>False.elim h
 | [e],ρ=>fun Q Q' H hq h=>F8 hC e ρ _ _ _ hq h
 | e::e2::es,ρ=>fun Q Q' H hq h=>by
  refine F8 hC e ρ _ _ _ (fun zz zz h=>S0 (fun b zz h=>?_) h) h
  cases b with
  | false=>exact Bj6 hC (e2::es) ρ _ _ _ hq h
  | true=>exact hq _ _ h
theorem Bg8 {C:Calls}(hC:bD C):∀ (es:List E) (ρ:D7),jQ (Q7 C es ρ)
 | [],ρ=>fun Q Q' H hq h=>hq _ _ h
 | e::es,ρ=>fun Q Q' H hq h=>by
  refine F8 hC e ρ _ _ _ (fun zz zz h=>S0 (fun b zz h=>?_) h) h
  cases b with
  | true=>exact Bg8 hC es ρ _ _ _ hq h
  | false=>exact hq _ _ h
end
noncomputable def jP (t:E2->Heap->Prop):Prop:=∀ (Q Q':E2) H,(∀ fl ρ H,Q fl ρ H->Q' fl ρ H)->t Q H->t Q' H
theorem cI {test:D7->C2->Heap->Prop}{body:D7->E2->Heap->Prop}(ht:∀ ρ,jQ (test ρ)) (hb:∀ ρ,jP (body ρ)) :
  ∀ (n:Nat) (ρ:D7),jP (eO test body n ρ)
 | 0,ρ=>fun Q Q' H hq h=>False.elim h
 | n+1,ρ=>fun Q Q' H hq h=>by
  refine ht ρ _ _ _ (fun zz zz h=>S0 (fun b zz h=>?_) h) h
  cases b with
  | true =>
   refine hb ρ _ _ _ (fun fl ρ' H' h=>?_) h
   cases fl with
   | ret v=>exact hq _ _ _ h
   | next=>exact cI ht hb n ρ' _ _ _ hq h
   | cont=>exact cI ht hb n ρ' _ _ _ hq h
  | false=>exact hq _ _ _ h
theorem dD {body:D7->E2->Heap->Prop}{x:Nat}{it:It}(hb:∀ ρ,jP (body ρ)) :
  ∀ (n i:Nat) (ρ:D7),jP (Y0 body x it n i ρ)
 | 0,_,ρ=>fun Q Q' H hq h=>False.elim h
 | n+1,i,ρ=>fun Q Q' H hq h=>by
  replace h:(match it.at H i with | none=>_ | some v=>_):=h
  show (match it.at H i with | none=>_ | some v=>_)
  cases e:it.at H i with
  | none=>rw [e] at h;exact hq _ _ _ h
  | some v =>
   rw [e] at h
   refine hb _ _ _ _ (fun fl ρ' H' h=>?_) h
   cases fl with
   | ret v=>exact hq _ _ _ h
   | next=>exact dD hb n _ ρ' _ _ _ hq h
   | cont=>exact dD hb n _ ρ' _ _ _ hq h
theorem fA {body:D7->E2->Heap->Prop}{x y:Nat}{it:It}(hb:∀ ρ,jP (body ρ)) :
  ∀ (n i:Nat) (ρ:D7),jP (fK body x y it n i ρ)
 | 0,_,ρ=>fun Q Q' H hq h=>False.elim h
 | n+1,i,ρ=>fun Q Q' H hq h=>by
  replace h:(match it.at H i with | none=>_ | some v=>_):=h
  show (match it.at H i with | none=>_ | some v=>_)
  cases e:it.at H i with
  | none=>rw [e] at h;exact hq _ _ _ h
  | some v =>
   rw [e] at h
   refine hb _ _ _ _ (fun fl ρ' H' h=>?_) h
   cases fl with
   | ret v=>exact hq _ _ _ h
   | next=>exact fA hb n _ ρ' _ _ _ hq h
   | cont=>exact fA hb n _ ρ' _ _ _ hq h
mutual
theorem Cr1 {C:Calls}(hC:bD C):∀ (st:S) (ρ:D7),jP (iA C st ρ)
 | .assign x e,ρ=>fun Q Q' H hq h=>F8 hC e ρ _ _ _ (fun zz zz h=>hq _ _ _ h) h
 | .setIdx o i e,ρ=>fun Q Q' H hq h=>by
  replace h:=sC h
  exact F8 hC e ρ _ _ _ (fun zz zz h=>F8 hC o ρ _ _ _ (fun zz zz h=>F8 hC i ρ _ _ _ (fun zz zz h=>nT (fun zz zz h=>hq _ _ _ h) h) h) h) h
 | .expr e,ρ=>fun Q Q' H hq h=>F8 hC e ρ _ _ _ (fun zz zz h=>hq _ _ _ h) h
 | .ite c t f,ρ=>fun Q Q' H hq h=>by
  replace h:=Bi4 h
  refine F8 hC c ρ _ _ _ (fun zz zz h=>S0 (fun b zz h=>?_) h) h
  cases b with
  | true=>exact bQ hC t ρ _ _ _ hq h
  | false=>exact bQ hC f ρ _ _ _ hq h
 | .whl c b,ρ=>fun Q Q' H hq h=>by
  replace h:=Bi3 h
  obtain ⟨n,h⟩:=h
  exact ⟨n,cI (fun ρ=>F8 hC c ρ) (fun ρ=>bQ hC b ρ) n ρ _ _ _ hq h⟩
 | .forIn x e b,ρ=>fun Q Q' H hq h=>by
  replace h:=zE h
  refine F8 hC e ρ _ _ _ (fun v H₁ h=>?_) h
  show (match iterV v with | some it=>_ | none=>False)
  generalize iterV v=o at h ⊢
  cases o with
  | none=>exact h
  | some it=>?_
  obtain ⟨n,h⟩:=h
  exact ⟨n,dD (fun ρ=>bQ hC b ρ) n _ _ _ _ _ hq h⟩
 | .forR x e b,ρ=>fun Q Q' H hq h=>by
  replace h:=Au9 h
  refine F8 hC e ρ _ _ _ (fun v H₁ h=>?_) h
  show (match rangeV v with | some it=>_ | none=>False)
  generalize rangeV v=o at h ⊢
  cases o with
  | none=>exact h
  | some it=>?_
  obtain ⟨n,h⟩:=h
  exact ⟨n,dD (fun ρ=>bQ hC b ρ) n _ _ _ _ _ hq h⟩
 | .forEnum x y e b,ρ=>fun Q Q' H hq h=>by
  replace h:=oU h
  refine F8 hC e ρ _ _ _ (fun v zz h=>?_) h
  cases v with
  | ref a0 =>
   obtain ⟨n,h⟩:=h
   exact ⟨n,fA (fun ρ=>bQ hC b ρ) n _ _ _ _ _ hq h⟩
  | _=>exact False.elim h
 | .ret e,ρ=>fun Q Q' H hq h=>F8 hC e ρ _ _ _ (fun zz zz h=>hq _ _ _ h) h
 | .retNone,ρ=>fun Q Q' H hq h=>hq _ _ _ h
 | .cont,ρ=>fun Q Q' H hq h=>hq _ _ _ h
 | .pass,ρ=>fun Q Q' H hq h=>hq _ _ _ h
 | .raise _ _,ρ=>fun Q Q' H hq h=>False.elim h
theorem bQ {C:Calls}(hC:bD C):∀ (sts:List S) (ρ:D7),jP (C4 C sts ρ)
 | [],ρ=>fun Q Q' H hq h=>hq _ _ _ h
 | st::sts,ρ=>fun Q Q' H hq h=>by
  replace h:=Av0 h
  refine Cr1 hC st ρ _ _ _ (fun fl ρ' H' h=>?_) h
  cases fl with
  | next=>exact bQ hC sts ρ' _ _ _ hq h
  | cont=>exact hq _ _ _ h
  | ret v=>exact hq _ _ _ h
end
theorem T6 (P:Prg):∀ n,bD (C1 P n)
 | 0=>fun f vs Q Q' H hq h=>False.elim h
 | n+1=>fun f vs Q Q' H hq h=>by
  replace h:(match P f with | some fn=>_ | none=>_):=h
  show (match P f with | some fn=>_ | none=>_)
  cases e:P f with
  | none=>rw [e] at h;exact h
  | some fn =>
   rw [e] at h
   refine ⟨h.1,bQ (T6 P n) _ _ _ _ _ (fun fl ρ' H' h=>?_) h.2⟩
   cases fl<;>exact hq _ _ h
end Mini
namespace Mini
noncomputable def K6 (C:Calls) (ss:List S) (Q:E2):E2:=fun fl ρ' H₁=>match fl with
 | .next=>C4 C ss ρ' Q H₁
 | fl=>Q fl ρ' H₁
noncomputable def D8 (Q:C2):E2:=fun fl zz H₁=>match fl with
 | .ret v=>Q v H₁
 | _=>Q .none H₁
noncomputable def dO (Q:E2) (K:D7->Heap->Prop):E2:=fun fl ρ' H₂=>match fl with
 | .ret v=>Q (.ret v) ρ' H₂
 | _=>K ρ' H₂
section
variable {C:Calls}{ρ:D7}{H:Heap}{Q:C2}{R:E2}{ss:List S}
theorem fW (h:C4 C ss ρ R H):K6 C ss R .next ρ H:=h
theorem D2 {P:Prg}{n:Nat}{f:String}{vs:List V}{fn:Fn}(hf:P f=some fn) (hl:vs.length=fn.params) (h:C4 (C1 P n) fn.body (frame fn vs) (D8 Q) H):C1 P (n+1) f vs Q H:=by
 show (match P f with | some fn=>_ | none=>_)
 rw [hf]
 exact ⟨hl,h⟩
theorem nB (h:R .next ρ H):C4 C [] ρ R H:=h
theorem I3 {s:S}(h:iA C s ρ (K6 C ss R) H):C4 C (s::ss) ρ R H:=h
theorem P2 {x:Nat}{e:E}(h:D9 C e ρ (fun v H₁=>C4 C ss (ρ.set x (some v)) R H₁) H):C4 C (.assign x e::ss) ρ R H:=h
theorem U1 {e:E}(h:D9 C e ρ (fun v H₁=>R (.ret v) ρ H₁) H):C4 C (.ret e::ss) ρ R H:=h
theorem Ch2 {i:Int}(h:Q (.int i) H):D9 C (.int i) ρ Q H:=h
theorem As8 {s:List Nat}(h:Q (.str s) H):D9 C (.str s) ρ Q H:=h
theorem Y4 {x:Nat}{v:V}(hx:ρ[x]? = some (some v)) (h:Q v H):D9 C (.var x) ρ Q H:=by
 show (match ρ[x]? with | some (some v)=>Q v H | _=>False)
 rw [hx];exact h
theorem rP {o:Op}{l r:E}(h:D9 C l ρ (fun a H₁=>D9 C r ρ (fun b H₂=>res (eK o a b H₂) Q) H₁) H):D9 C (.bin o l r) ρ Q H:=h
theorem Cr5 {o:Cmp}{l r:E}(h:D9 C l ρ (fun a H₁=>D9 C r ρ (fun b H₂=>boo (Q6 o a b H₂) (fun b H=>Q (.bool b) H) H₂) H₁) H):D9 C (.cmp o l r) ρ Q H:=h
theorem Cc1 {e:E}{c:xJ}(h:D9 C e ρ (fun v H₁=>Q (.bool (!isV v c)) H₁) H):D9 C (.isnot e c) ρ Q H:=h
theorem yC {o i:E}(h:D9 C o ρ (fun vo H₁=>D9 C i ρ (fun vi H₂=>val (X9 vo vi H₂) Q H₂) H₁) H):D9 C (.idx o i) ρ Q H:=h
theorem M6 {f:String}{es:List E}(h:R7 C es ρ (fun vs H₁=>C f vs Q H₁) H):D9 C (.call f es) ρ Q H:=h
theorem aJ {es:List E}(h:R7 C es ρ (fun vs H₁=>Q (.ref H₁.length) (H₁++[vs])) H):D9 C (.list es) ρ Q H:=h
theorem T2 {es:List E}(h:R7 C es ρ (fun vs H₁=>Q (.tup vs) H₁) H):D9 C (.tup es) ρ Q H:=h
theorem Ak1 {o a:E}(h:D9 C o ρ (fun vo H₁=>∃ s,vo=.str s/\D9 C a ρ (fun va H₂=>dP s va Q H₂) H₁) H) (hC:bD C):D9 C (.join o a) ρ Q H:=by
 refine F8 hC o ρ _ _ _ (fun zz zz h=>?_) h
 obtain ⟨s,rfl,h⟩:=h
 exact h
theorem I1 {Q:List V->Heap->Prop}(h:Q [] H):R7 C [] ρ Q H:=h
theorem M5 {e:E}{es:List E}{Q:List V->Heap->Prop}(h:D9 C e ρ (fun v H₁=>R7 C es ρ (fun vs H₂=>Q (v::vs) H₂) H₁) H):R7 C (e::es) ρ Q H:=h
theorem S6 {k n:Nat}(h:k<n):K3 (k:Int) n=some k:=by
 unfold K3
 rw [if_pos (Int.natCast_nonneg k),if_pos (Int.ofNat_lt.mpr h)];rfl
theorem Bi1 {a:Nat}{l:List V}{k:Nat}{c:V}(ha:H[a]? = some l) (hk:l[k]? = some c) (h:Q c H):val (X9 (.ref a) (.int k) H) Q H:=by
 unfold X9 N7
 simp only [ha,S6 (List.getElem?_eq_some_iff.mp hk).1,Option.bind_some,hk];exact h
end
section
variable {H:Heap}{Q:C2}
theorem Bb5 {i:Int}{n:Nat}(h0:0<=i) (h:i.toNat<n):K3 i n=some i.toNat:=by
 unfold K3
 rw [if_pos h0,if_pos ((Int.toNat_lt h0).mp h)]
theorem Ca1 {a:Nat}{l:List V}{i:Int}{c:V}(ha:H[a]? = some l) (h0:0<=i) (hk:l[i.toNat]? = some c) (h:Q c H):val (X9 (.ref a) (.int i) H) Q H:=by
 unfold X9 N7
 simp only [ha,Bb5 h0 (List.getElem?_eq_some_iff.mp hk).1,Option.bind_some,hk];exact h
theorem dE {i:Int}{n:Nat}(h:0<=i):mU i n=min i.toNat n:=by unfold mU;rw [if_neg (by omega)]
theorem zJ {α:Type}{l:List α}{i:Int}(h:0<=i):slice l none (some i)=l.take i.toNat:=by
 unfold slice xR Ai5
 simp only
 rw [dE h,List.drop_zero]
 by_cases q:i.toNat<=l.length
 ·rw [Nat.min_eq_left q]
 ·rw [Nat.min_eq_right (by exact M4 (Nat.lt_of_not_le q)),List.take_of_length_le (A4 _),List.take_of_length_le (by exact M4 (Nat.lt_of_not_le q))]
theorem W1 {α:Type}{l:List α}{i:Int}(h:0<=i):slice l (some i) none=l.drop i.toNat:=by
 unfold slice xR Ai5
 simp only
 rw [dE h,List.take_length]
 by_cases q:i.toNat<=l.length
 ·rw [Nat.min_eq_left q]
 ·rw [Nat.min_eq_right (by exact M4 (Nat.lt_of_not_le q)),List.drop_eq_nil_of_le (A4 _),List.drop_eq_nil_of_le (by exact M4 (Nat.lt_of_not_le q))]
theorem aC {α:Type}{l:List α}{i j:Int}(h:0<=i) (h':0<=j):slice l (some i) (some j)=(l.drop i.toNat).take (j.toNat - i.toNat):=by
 unfold slice xR Ai5
 simp only
 rw [dE h,dE h',List.drop_take]
 by_cases q:i.toNat<=l.length
 ·rw [Nat.min_eq_left q]
  by_cases q':j.toNat<=l.length
  ·rw [Nat.min_eq_left q']
  ·have q2:=Nat.le_of_not_le q'
   rw [Nat.min_eq_right q2]
   rw [List.take_of_length_le (by rw [List.length_drop];exact A4 _),List.take_of_length_le (by rw [List.length_drop];exact Nat.sub_le_sub_right q2 _)]
 ·have q2:=Nat.le_of_not_le q
  rw [Nat.min_eq_right q2,List.drop_eq_nil_of_le (A4 _),List.drop_eq_nil_of_le q2,List.take_nil,List.take_nil]
mutual
theorem zP:∀ d:D,xI d d=true
 | .none=>rfl
 | .bool b=>beq_self_eq_true b
 | .int i=>beq_self_eq_true i
 | .str s=>beq_self_eq_true s
 | .list l=>jB l
 | .tup l=>jB l
theorem jB:∀ l:List D,Az4 l l=true
 | []=>rfl
 | d::l=>Bool.and_eq_true_iff.mpr ⟨zP d,jB l⟩
end
end
theorem Bp7 {n:Nat}(hn:n<4611686018427387904):(-4611686018427387904:Int)<=(n:Int)/\(n:Int)<4611686018427387904:=by
 constructor<;>omega
theorem Bp6 {n:Nat}:rangeV (.int (n:Int))=@ite _ (-4611686018427387904<=(n:Int)/\(n:Int)<4611686018427387904) (Classical.propDecidable _) (some (.fix ((List.range (n:Int).toNat).map fun k:Nat=>V.int (k:Int)))) none:=rfl
theorem Bb4 {n:Nat}(hn:n<4611686018427387904):rangeV (.int (n:Int))=some (.fix ((List.range n).map fun k:Nat=>V.int (k:Int))):=by
 rw [Bp6,if_pos (Bp7 hn),Int.toNat_natCast]
theorem zI:∀ l:List (List Nat),qR (l.map V.str)=some l
 | []=>rfl
 | x::l=>by
  simp only [List.map_cons]
  show (qR (l.map V.str)).map (x::·)=_
  rw [zI l];rfl
theorem Ch0 {s:List Nat}{a:Nat}{Q:C2}{H:Heap}(l:List (List Nat)) (ha:H[a]? = some (l.map V.str)) (hl:(l.map List.length).sum+l.length * s.length<=I8) (h:Q (.str (joinWith s l)) H):dP s (.ref a) Q H:=by
 unfold dP
 have:(H[a]?).bind qR=some l:=by rw [ha];exact zI l
 simp only [this]
 exact ⟨hl,h⟩
theorem zL:∀ l:List (List Nat),joinWith [] l=l.flatten
 | []=>rfl
 | [w]=>(List.append_nil w).symm
 | w::w2::r=>by
  show w++[]++joinWith [] (w2::r)=_
  rw [zL (w2::r),List.append_nil];rfl
section
variable {C:Calls}{ρ:D7}{H:Heap}{Q:C2}{R:E2}{ss:List S}
theorem Cr4 {o:E}(h:D9 C o ρ (fun vo H₁=>∃ a,vo=.ref a/\res (Ai3 (.ref a) H₁) Q) H) (hC:bD C):D9 C (.pop o) ρ Q H:=by
 refine F8 hC o ρ _ _ _ (fun v H₁ h=>?_) h
 obtain ⟨t,rfl,h⟩:=h
 exact h
theorem Bc6 {o a b:E}(h:D9 C o ρ (fun vo H₁=>∃ s,vo=.str s/\D9 C a ρ (fun va H₂=>D9 C b ρ (fun vb H₃=>Y9 s va vb Q H₃) H₂) H₁) H) (hC:bD C):D9 C (.replace o a b) ρ Q H:=by
 refine F8 hC o ρ _ _ _ (fun v H₁ h=>?_) h
 obtain ⟨t,rfl,h⟩:=h
 exact h
theorem K2 {a:Nat}{l:List V}{v:V}(ha:H[a]? = some l) (hl:l.length<I8) (h:Q .none (H.set a (l++[v]))):hea (X1 (.ref a) v H) Q:=by
 unfold X1;simp only [ha,Option.bind_some,if_pos hl];exact h
theorem Cr2 {a k:Nat}{i:Int}{l:List V}{v:V}(ha:H[a]? = some l) (hk:K3 i l.length=some k) (h:Q .none (H.set a (l.set k v))):hea (Cj0 (.ref a) (.int i) v H) Q:=by
 show hea ((H[a]?).bind fun l=>(K3 i l.length).map fun k=>H.set a (l.set k v)) Q
 rw [ha]
 show hea ((K3 i l.length).map fun k=>H.set a (l.set k v)) Q
 rw [hk];exact h
theorem Bg5 {a:Nat}{l:List V}{v:V}(ha:H[a]? = some (l++[v])) (h:Q v (H.set a l)):res (Ai3 (.ref a) H) Q:=by
 unfold Ai3;simp only [ha,Option.bind_some,List.getLast?_append,List.getLast?_singleton,Option.some_or,Option.map_some,List.dropLast_concat];exact h
theorem oW {n:Nat}:K3 (-1) (n+1)=some n:=by
 unfold K3
 have e:(-1:Int)+((n+1:Nat):Int)=(n:Nat):=by rw [Int.add_comm];exact Int.add_sub_cancel (n:Int) 1
 have q:-((n+1:Nat):Int)<=-1:=Int.neg_le_neg (Int.ofNat_le.mpr (B3 (B0 n)))
 rw [if_neg (by decide),e,if_pos q];rfl
theorem Bk1 (hC:bD C) {elt e:E}{x:Nat}(f:V->V)
  (he:D9 C e ρ (fun v H₁=>∃ a l,v=.ref a/\H₁[a]? = some l/\l.length<=I8/\(∀ v∈l,∀ K:C2,K (f v) H₁->D9 C elt (ρ.set x (some v)) K H₁)/\Q (.ref H₁.length) (H₁++[l.map f])) H) :
  D9 C (.comp elt x e []) ρ Q H:=by
 refine F8 hC e ρ _ _ _ (fun v H₁ h=>?_) he
 obtain ⟨a,l,rfl,ha,hl,h1,h2⟩:=h
 exact zQ (it:=.lst a) l f (fun i=>by simp only [It.at,ha]) hl h1 h2
end
section
variable {C:Calls}{ρ:D7}{H:Heap}{Q:C2}
end
theorem nC {H:Heap}{Q:C2}{a b:Nat}{l r:List V}(ha:H[a]? = some l) (hb:H[b]? = some r) (hl:l.length+r.length<=I8) (h:Q (.ref H.length) (H++[l++r])):res (eK .add (.ref a) (.ref b) H) Q:=by
 show res ((H[a]?).bind fun l=>(H[b]?).bind fun r=>if l.length+r.length<=I8 then some (.ref H.length,H++[l++r]) else none) Q
 rw [ha]
 show res ((H[b]?).bind fun r=>if l.length+r.length<=I8 then some (.ref H.length,H++[l++r]) else none) Q
 rw [hb]
 show res (if l.length+r.length<=I8 then some (.ref H.length,H++[l++r]) else none) Q
 rw [if_pos hl];exact h
end Mini
open Mini
namespace L13
open Mini
noncomputable def tU:List S:=[
  .ite (.cmp .gt (.len (.var 1)) (.int 0)) [
   .ret (.idx (.idx (.var 1) (.neg 1)) (.int 2))] [],
  .ret (.var 0)]
noncomputable def tI:Fn where
 names:=["top", "opened"]
 params:=2
 body:=tU
noncomputable def lB:List S:=[
  .ite (.and [.cmp .gt (.len (.var 0)) (.int 0),.isinst (.idx (.var 0) (.neg 1)) .str]) [
   .setIdx (.var 0) (.neg 1) (.bin .add (.idx (.var 0) (.neg 1)) (.var 1))] [
   .expr (.append (.var 0) (.var 1))]]
noncomputable def kI:Fn where
 names:=["parts", "sign"]
 params:=2
 body:=lB
noncomputable def tV:List S:=[
  .assign 2 (.find (.var 0) (.str [96]) (.bin .add (.var 1) (.int 1))),
  .ite (.cmp .lt (.var 2) (.int 0)) [
   .ret (.tup [.tup [.str [99,111,100,101],.slcL (.var 0) (.bin .add (.var 1) (.int 1)),.bool false],.len (.var 0)])] [],
  .ret (.tup [.tup [.str [99,111,100,101],.slc (.var 0) (.bin .add (.var 1) (.int 1)) (.var 2),.bool true],.bin .add (.var 2) (.int 1)])]
noncomputable def tJ:Fn where
 names:=["row", "at", "end"]
 params:=2
 body:=tV
noncomputable def tN:List S:=[
  .ite (.cmp .ne (.slc (.var 0) (.bin .add (.var 1) (.int 1)) (.bin .add (.var 1) (.int 2))) (.str [40])) [
   .ret (.tup [.tup [.str [108,105,110,107],.var 2,.none,.bool true],.bin .add (.var 1) (.int 1)])] [],
  .assign 3 (.find (.var 0) (.str [41]) (.bin .add (.var 1) (.int 2))),
  .ite (.cmp .lt (.var 3) (.int 0)) [
   .ret (.tup [.tup [.str [108,105,110,107],.var 2,.slcL (.var 0) (.bin .add (.var 1) (.int 2)),.bool false],.len (.var 0)])] [],
  .ret (.tup [.tup [.str [108,105,110,107],.var 2,.slc (.var 0) (.bin .add (.var 1) (.int 2)) (.var 3),.bool true],.bin .add (.var 3) (.int 1)])]
noncomputable def tA:Fn where
 names:=["row", "at", "parts", "end"]
 params:=3
 body:=tN
noncomputable def Ay6:List S:=[
  .ite (.cmp .ge (.len (.var 2)) (.glob "MOST_OPEN" 12)) [
   .ret (.bool false)] [],
  .ret (.or [.cmp .eq (.idx (.var 0) (.var 1)) (.str [91]),.and [.cmp .isin (.idx (.var 0) (.var 1)) (.str [42,95,126]),.cmp .eq (.slc (.var 0) (.bin .add (.var 1) (.int 1)) (.bin .add (.var 1) (.int 2))) (.str [40])]])]
noncomputable def Ay0:Fn where
 names:=["row", "at", "opened"]
 params:=3
 body:=Ay6
noncomputable def tR:List S:=[
  .ret (.and [.cmp .gt (.len (.var 0)) (.int 0),.cmp .eq (.idx (.idx (.var 0) (.neg 1)) (.int 0)) (.var 1)])]
noncomputable def tF:Fn where
 names:=["opened", "kind"]
 params:=2
 body:=tR
noncomputable def Ay7:List S:=[
  .whl (.cmp .gt (.len (.var 1)) (.int 0)) [
   .assign 2 (.pop (.var 1)),
   .assign 3 (.call "here_of" [.var 0,.var 1]),
   .ite (.cmp .eq (.idx (.var 2) (.int 0)) (.str [115,112,97,110])) [
    .expr (.append (.var 3) (.tup [.str [115,112,97,110],.idx (.var 2) (.int 1),.idx (.var 2) (.int 2),.bool false]))] [
    .expr (.append (.var 3) (.tup [.str [108,105,110,107],.idx (.var 2) (.int 2),.none,.bool false]))]],
  .ret (.var 0)]
noncomputable def Ay1:Fn where
 names:=["top", "opened", "frame", "parts"]
 params:=2
 body:=Ay7
noncomputable def pY:List S:=[
  .assign 1 (.list []),
  .assign 2 (.list []),
  .assign 3 (.int 0),
  .whl (.cmp .lt (.var 3) (.len (.var 0))) [
   .assign 4 (.idx (.var 0) (.var 3)),
   .assign 5 (.call "here_of" [.var 1,.var 2]),
   .ite (.cmp .eq (.var 4) (.str [92])) [
    .expr (.append (.var 5) (.tup [.str [107,101,112,116],.slc (.var 0) (.bin .add (.var 3) (.int 1)) (.bin .add (.var 3) (.int 2))])),
    .assign 3 (.bin .add (.var 3) (.int 2))] [
    .ite (.cmp .eq (.var 4) (.str [96])) [
     .assign 6 (.call "code_at" [.var 0,.var 3]),
     .expr (.append (.var 5) (.idx (.var 6) (.int 0))),
     .assign 3 (.idx (.var 6) (.int 1))] [
     .ite (.call "opens" [.var 0,.var 3,.var 2]) [
      .ite (.cmp .eq (.var 4) (.str [91])) [
       .expr (.append (.var 2) (.list [.str [108,97,98,101,108],.str [],.list []])),
       .assign 3 (.bin .add (.var 3) (.int 1))] [
       .expr (.append (.var 2) (.list [.str [115,112,97,110],.var 4,.list []])),
       .assign 3 (.bin .add (.var 3) (.int 2))]] [
      .ite (.and [.cmp .eq (.var 4) (.str [41]),.call "last_is" [.var 2,.str [115,112,97,110]]]) [
       .assign 7 (.pop (.var 2)),
       .expr (.append (.call "here_of" [.var 1,.var 2]) (.tup [.str [115,112,97,110],.idx (.var 7) (.int 1),.idx (.var 7) (.int 2),.bool true])),
       .assign 3 (.bin .add (.var 3) (.int 1))] [
       .ite (.and [.cmp .eq (.var 4) (.str [93]),.call "last_is" [.var 2,.str [108,97,98,101,108]]]) [
        .assign 6 (.call "link_at" [.var 0,.var 3,.idx (.pop (.var 2)) (.int 2)]),
        .expr (.append (.call "here_of" [.var 1,.var 2]) (.idx (.var 6) (.int 0))),
        .assign 3 (.idx (.var 6) (.int 1))] [
        .expr (.call "put_plain" [.var 5,.var 4]),
        .assign 3 (.bin .add (.var 3) (.int 1))]]]]]],
  .ret (.call "ended" [.var 1,.var 2])]
noncomputable def pN:Fn where
 names:=["row", "top", "opened", "at", "sign", "parts", "made", "frame"]
 params:=1
 body:=pY
noncomputable def tS:List S:=[
  .assign 1 (.ord (.var 0)),
  .ret (.and [.cmp .le (.int 32) (.var 1),.cmp .le (.var 1) (.int 126),.cmp .ne (.var 1) (.int 37)])]
noncomputable def tG:Fn where
 names:=["sign", "code"]
 params:=1
 body:=tS
noncomputable def Ac8:List S:=[
  .ite (.not (.isinst (.var 0) .str)) [
   .ret (.bool false)] [],
  .forIn 1 (.var 0) [
   .ite (.not (.call "is_sign" [.var 1])) [
    .ret (.bool false)] []],
  .ret (.bool true)]
noncomputable def Ab6:Fn where
 names:=["thing", "sign"]
 params:=1
 body:=Ac8
noncomputable def Ac4:List S:=[
  .assign 2 (.int 0),
  .whl (.cmp .eq (.slc (.var 0) (.var 2) (.bin .add (.var 2) (.int 1))) (.var 1)) [
   .assign 2 (.bin .add (.var 2) (.int 1))],
  .ret (.var 2)]
noncomputable def Ab2:Fn where
 names:=["row", "sign", "many"]
 params:=2
 body:=Ac4
noncomputable def Ay5:List S:=[
  .ite (.cmp .eq (.var 0) (.str [])) [
   .ret (.tup [.str [103,97,112],.int 0,.str []])] [],
  .ite (.and [.cmp .lt (.var 1) (.glob "MOST_QUOTES" 9),.cmp .eq (.slcH (.var 0) (.int 2)) (.str [62,32])]) [
   .ret (.tup [.str [113,117,111,116,101],.int 0,.slcL (.var 0) (.int 2)])] [],
  .assign 2 (.call "run_of" [.var 0,.str [35]]),
  .ite (.and [.cmp .le (.int 1) (.var 2),.cmp .le (.var 2) (.glob "MOST_SHARPS" 6),.cmp .eq (.slc (.var 0) (.var 2) (.bin .add (.var 2) (.int 1))) (.str [32])]) [
   .ret (.tup [.str [104,101,97,100,105,110,103],.var 2,.slcL (.var 0) (.bin .add (.var 2) (.int 1))])] [],
  .assign 3 (.call "run_of" [.var 0,.str [45]]),
  .ite (.and [.cmp .le (.int 1) (.var 3),.cmp .le (.var 3) (.glob "MOST_DASHES" 9),.cmp .eq (.slc (.var 0) (.var 3) (.bin .add (.var 3) (.int 1))) (.str [32])]) [
   .ret (.tup [.str [105,116,101,109],.var 3,.slcL (.var 0) (.bin .add (.var 3) (.int 1))])] [],
  .ret (.tup [.str [112,108,97,105,110],.int 0,.var 0])]
noncomputable def Ax9:Fn where
 names:=["row", "deep", "sharps", "dashes"]
 params:=2
 body:=Ay5
noncomputable def qC:List S:=[
  .assign 1 (.list []),
  .assign 2 (.list []),
  .forIn 3 (.var 0) [
   .whl (.and [.cmp .gt (.len (.var 2)) (.int 0),.cmp .ge (.idx (.idx (.var 2) (.neg 1)) (.int 0)) (.idx (.var 3) (.int 1))]) [
    .expr (.pop (.var 2))],
   .assign 4 (.tup [.idx (.var 3) (.int 1),.call "parts_of" [.idx (.var 3) (.int 2)],.list []]),
   .ite (.cmp .gt (.len (.var 2)) (.int 0)) [
    .expr (.append (.idx (.idx (.var 2) (.neg 1)) (.int 2)) (.var 4))] [
    .expr (.append (.var 1) (.var 4))],
   .expr (.append (.var 2) (.var 4))],
  .ret (.var 1)]
noncomputable def pS:Fn where
 names:=["shapes", "top", "above", "one", "item"]
 params:=1
 body:=qC
noncomputable def qF:List S:=[
  .assign 2 (.idx (.idx (.var 0) (.int 0)) (.int 0)),
  .ite (.cmp .eq (.var 2) (.str [103,97,112])) [
   .ret (.tup [.str [103,97,112],.len (.var 0)])] [],
  .ite (.cmp .eq (.var 2) (.str [104,101,97,100,105,110,103])) [
   .ret (.tup [.str [104,101,97,100,105,110,103],.idx (.idx (.var 0) (.int 0)) (.int 1),.call "parts_of" [.idx (.idx (.var 0) (.int 0)) (.int 2)]])] [],
  .ite (.cmp .eq (.var 2) (.str [105,116,101,109])) [
   .ret (.tup [.str [108,105,115,116],.call "items_of" [.var 0]])] [],
  .ite (.cmp .eq (.var 2) (.str [112,108,97,105,110])) [
   .ret (.tup [.str [112,97,114,97],.comp (.call "parts_of" [.idx (.var 3) (.int 2)]) 3 (.var 0) []])] [],
  .ret (.tup [.str [113,117,111,116,101],.call "blocks_of" [.comp (.idx (.var 3) (.int 2)) 3 (.var 0) [],.bin .add (.var 1) (.int 1)]])]
noncomputable def pW:Fn where
 names:=["shapes", "deep", "kind", "one"]
 params:=2
 body:=qF
noncomputable def lN:List S:=[
  .assign 2 (.list []),
  .assign 3 (.list []),
  .forIn 4 (.var 0) [
   .assign 5 (.call "shape" [.var 4,.var 1]),
   .ite (.and [.cmp .gt (.len (.var 3)) (.int 0),.or [.cmp .ne (.idx (.idx (.var 3) (.int 0)) (.int 0)) (.idx (.var 5) (.int 0)),.cmp .eq (.idx (.var 5) (.int 0)) (.str [104,101,97,100,105,110,103])]]) [
    .expr (.append (.var 2) (.call "block_of" [.var 3,.var 1])),
    .assign 3 (.list [])] [],
   .expr (.append (.var 3) (.var 5))],
  .expr (.append (.var 2) (.call "block_of" [.var 3,.var 1])),
  .ret (.var 2)]
noncomputable def kX:Fn where
 names:=["rows", "deep", "blocks", "group", "row", "one"]
 params:=2
 body:=lN
noncomputable def Bl6:List S:=[
  .ite (.not (.isinst (.var 0) .str)) [
   .raise "BadText" [110,111,32,116,101,120,116]] [],
  .assign 1 (.split (.var 0) (.str [10])),
  .forIn 2 (.var 1) [
   .ite (.not (.call "is_row" [.var 2])) [
    .raise "BadText" [97,32,115,105,103,110,32,116,104,97,116,32,110,111,32,116,101,120,116,32,104,97,115]] []],
  .ret (.call "blocks_of" [.var 1,.int 0])]
noncomputable def Bl1:Fn where
 names:=["text", "rows", "row"]
 params:=1
 body:=Bl6
noncomputable def lC:List S:=[
  .ite (.cmp .ne (.var 2) (.str [])) [
   .expr (.append (.var 0) (.tup [.var 1,.var 2]))] []]
noncomputable def kJ:Fn where
 names:=["made", "kind", "text"]
 params:=3
 body:=lC
noncomputable def eE:List S:=[
  .expr (.call "put_piece" [.var 1,.str [109,97,114,107],.str [91]]),
  .expr (.call "put_pieces" [.idx (.var 0) (.int 1),.var 1]),
  .ite (.is (.idx (.var 0) (.int 2)) .none) [
   .ite (.idx (.var 0) (.int 3)) [
    .expr (.call "put_piece" [.var 1,.str [109,97,114,107],.str [93]])] [],
   .retNone] [],
  .expr (.call "put_piece" [.var 1,.str [109,97,114,107],.str [93,40]]),
  .expr (.call "put_piece" [.var 1,.str [116,97,114,103,101,116],.idx (.var 0) (.int 2)]),
  .ite (.idx (.var 0) (.int 3)) [
   .expr (.call "put_piece" [.var 1,.str [109,97,114,107],.str [41]])] []]
noncomputable def dZ:Fn where
 names:=["part", "made"]
 params:=2
 body:=eE
noncomputable def hU:List S:=[
  .forIn 2 (.var 0) [
   .ite (.isinst (.var 2) .str) [
    .expr (.call "put_piece" [.var 1,.str [119,111,114,100,115],.var 2])] [
    .ite (.cmp .eq (.idx (.var 2) (.int 0)) (.str [107,101,112,116])) [
     .expr (.call "put_piece" [.var 1,.str [109,97,114,107],.str [92]]),
     .expr (.call "put_piece" [.var 1,.str [107,101,112,116],.idx (.var 2) (.int 1)])] [
     .ite (.cmp .eq (.idx (.var 2) (.int 0)) (.str [99,111,100,101])) [
      .expr (.call "put_piece" [.var 1,.str [109,97,114,107],.str [96]]),
      .expr (.call "put_piece" [.var 1,.str [99,111,100,101],.idx (.var 2) (.int 1)]),
      .ite (.idx (.var 2) (.int 2)) [
       .expr (.call "put_piece" [.var 1,.str [109,97,114,107],.str [96]])] []] [
      .ite (.cmp .eq (.idx (.var 2) (.int 0)) (.str [115,112,97,110])) [
       .expr (.call "put_piece" [.var 1,.str [109,97,114,107],.bin .add (.idx (.var 2) (.int 1)) (.str [40])]),
       .expr (.call "put_pieces" [.idx (.var 2) (.int 2),.var 1]),
       .ite (.idx (.var 2) (.int 3)) [
        .expr (.call "put_piece" [.var 1,.str [109,97,114,107],.str [41]])] []] [
       .expr (.call "link_pieces" [.var 2,.var 1])]]]]]]
noncomputable def gZ:Fn where
 names:=["parts", "made", "part"]
 params:=2
 body:=hU
noncomputable def lE:List S:=[
  .assign 1 (.list []),
  .expr (.call "put_pieces" [.var 0,.var 1]),
  .ret (.var 1)]
noncomputable def kL:Fn where
 names:=["parts", "made"]
 params:=1
 body:=lE
noncomputable def Ac5:List S:=[
  .ret (.join (.str []) (.comp (.idx (.var 1) (.int 1)) 1 (.call "pieces_of" [.var 0]) []))]
noncomputable def Ab3:Fn where
 names:=["parts", "piece"]
 params:=1
 body:=Ac5
noncomputable def lM:List S:=[
  .ite (.or [.not (.isinst (.var 0) .int),.isinst (.var 0) .bool,.cmp .lt (.var 0) (.int 1)]) [
   .ret (.bool false)] [],
  .ret (.or [.is (.var 1) .none,.cmp .le (.var 0) (.var 1)])]
noncomputable def kW:Fn where
 names:=["thing", "most"]
 params:=2
 body:=lM
noncomputable def qD:List S:=[
  .ite (.or [.not (.isinst (.var 0) .tuple),.cmp .ne (.len (.var 0)) (.var 2)]) [
   .ret (.bool false)] [],
  .ret (.and [.isinst (.idx (.var 0) (.int 0)) .str,.cmp .eq (.idx (.var 0) (.int 0)) (.var 1)])]
noncomputable def pT:Fn where
 names:=["thing", "kind", "size"]
 params:=3
 body:=qD
noncomputable def tT:List S:=[
  .ite (.isinst (.var 0) .str) [
   .ret (.and [.cmp .ne (.var 0) (.str []),.call "is_row" [.var 0]])] [],
  .ite (.call "is_tuple" [.var 0,.str [107,101,112,116],.int 2]) [
   .ret (.and [.call "is_row" [.idx (.var 0) (.int 1)],.cmp .le (.len (.idx (.var 0) (.int 1))) (.int 1)])] [],
  .ite (.call "is_tuple" [.var 0,.str [99,111,100,101],.int 3]) [
   .ret (.and [.call "is_row" [.idx (.var 0) (.int 1)],.isinst (.idx (.var 0) (.int 2)) .bool])] [],
  .ite (.cmp .ge (.var 1) (.glob "MOST_OPEN" 12)) [
   .ret (.bool false)] [],
  .ite (.call "is_tuple" [.var 0,.str [115,112,97,110],.int 4]) [
   .ite (.or [.not (.call "is_row" [.idx (.var 0) (.int 1)]),.cmp .notin (.idx (.var 0) (.int 1)) (.tup [.str [42],.str [95],.str [126]])]) [
    .ret (.bool false)] [],
   .ret (.and [.isinst (.idx (.var 0) (.int 3)) .bool,.call "are_parts" [.idx (.var 0) (.int 2),.bin .add (.var 1) (.int 1)]])] [],
  .ite (.call "is_tuple" [.var 0,.str [108,105,110,107],.int 4]) [
   .ite (.and [.isnot (.idx (.var 0) (.int 2)) .none,.not (.call "is_row" [.idx (.var 0) (.int 2)])]) [
    .ret (.bool false)] [],
   .ret (.and [.isinst (.idx (.var 0) (.int 3)) .bool,.call "are_parts" [.idx (.var 0) (.int 1),.bin .add (.var 1) (.int 1)]])] [],
  .ret (.bool false)]
noncomputable def tH:Fn where
 names:=["part", "within"]
 params:=2
 body:=tT
noncomputable def lO:List S:=[
  .ite (.not (.isinst (.var 0) .list)) [
   .ret (.bool false)] [],
  .forIn 2 (.var 0) [
   .ite (.not (.call "is_part" [.var 2,.var 1])) [
    .ret (.bool false)] []],
  .ret (.bool true)]
noncomputable def kY:Fn where
 names:=["parts", "within", "part"]
 params:=2
 body:=lO
noncomputable def hX:List S:=[
  .ret (.and [.call "are_parts" [.var 0,.int 0],.cmp .eq (.call "parts_of" [.call "row_of" [.var 0]]) (.var 0)])]
noncomputable def hO:Fn where
 names:=["parts"]
 params:=1
 body:=hX
noncomputable def lP:List S:=[
  .ite (.not (.isinst (.var 0) .list)) [
   .ret (.bool false)] [],
  .assign 2 (.glob "MOST_DASHES" 9),
  .forIn 3 (.var 0) [
   .ite (.or [.not (.isinst (.var 3) .tuple),.cmp .ne (.len (.var 3)) (.int 3)]) [
    .ret (.bool false)] [],
   .ite (.or [.not (.call "is_number" [.idx (.var 3) (.int 0),.var 2]),.cmp .le (.idx (.var 3) (.int 0)) (.var 1)]) [
    .ret (.bool false)] [],
   .ite (.or [.not (.call "is_content" [.idx (.var 3) (.int 1)]),.not (.call "are_items" [.idx (.var 3) (.int 2),.idx (.var 3) (.int 0)])]) [
    .ret (.bool false)] [],
   .assign 2 (.idx (.var 3) (.int 0))],
  .ret (.bool true)]
noncomputable def kZ:Fn where
 names:=["items", "above", "most", "item"]
 params:=2
 body:=lP
noncomputable def qG:List S:=[
  .ite (.or [.not (.isinst (.var 0) .list),.cmp .eq (.var 0) (.list [])]) [
   .ret (.bool false)] [],
  .forIn 2 (.var 0) [
   .ite (.or [.not (.call "is_content" [.var 2]),.cmp .ne (.idx (.call "shape" [.call "row_of" [.var 2],.var 1]) (.int 0)) (.str [112,108,97,105,110])]) [
    .ret (.bool false)] []],
  .ret (.bool true)]
noncomputable def pX:Fn where
 names:=["rows", "deep", "parts"]
 params:=2
 body:=qG
noncomputable def qE:List S:=[
  .ite (.call "is_tuple" [.var 0,.str [103,97,112],.int 2]) [
   .ret (.call "is_number" [.idx (.var 0) (.int 1),.none])] [],
  .ite (.call "is_tuple" [.var 0,.str [104,101,97,100,105,110,103],.int 3]) [
   .ret (.and [.call "is_number" [.idx (.var 0) (.int 1),.glob "MOST_SHARPS" 6],.call "is_content" [.idx (.var 0) (.int 2)]])] [],
  .ite (.call "is_tuple" [.var 0,.str [108,105,115,116],.int 2]) [
   .ret (.and [.call "are_items" [.idx (.var 0) (.int 1),.int 0],.cmp .ne (.idx (.var 0) (.int 1)) (.list [])])] [],
  .ite (.call "is_tuple" [.var 0,.str [112,97,114,97],.int 2]) [
   .ret (.call "are_rows" [.idx (.var 0) (.int 1),.var 1])] [],
  .ite (.call "is_tuple" [.var 0,.str [113,117,111,116,101],.int 2]) [
   .ret (.and [.cmp .lt (.var 1) (.glob "MOST_QUOTES" 9),.call "are_blocks" [.idx (.var 0) (.int 1),.bin .add (.var 1) (.int 1)]])] [],
  .ret (.bool false)]
noncomputable def pU:Fn where
 names:=["block", "deep"]
 params:=2
 body:=qE
noncomputable def hY:List S:=[
  .ite (.or [.not (.isinst (.var 0) .list),.cmp .eq (.var 0) (.list [])]) [
   .ret (.bool false)] [],
  .assign 2 (.str []),
  .forIn 3 (.var 0) [
   .ite (.not (.call "is_block" [.var 3,.var 1])) [
    .ret (.bool false)] [],
   .ite (.and [.cmp .eq (.idx (.var 3) (.int 0)) (.var 2),.cmp .ne (.var 2) (.str [104,101,97,100,105,110,103])]) [
    .ret (.bool false)] [],
   .assign 2 (.idx (.var 3) (.int 0))],
  .ret (.bool true)]
noncomputable def hS:Fn where
 names:=["blocks", "deep", "last", "block"]
 params:=2
 body:=hY
noncomputable def Ac7:List S:=[
  .ret (.call "are_blocks" [.var 0,.int 0])]
noncomputable def Ab5:Fn where
 names:=["tree"]
 params:=1
 body:=Ac7
noncomputable def eD:List S:=[
  .ite (.not (.call "normal" [.var 0])) [
   .raise "BadTree" [110,111,32,110,111,114,109,97,108,32,116,114,101,101]] []]
noncomputable def dY:Fn where
 names:=["tree"]
 params:=1
 body:=eD
noncomputable def lD:List S:=[
  .forIn 2 (.var 0) [
   .expr (.append (.var 1) (.bin .add (.list [.tup [.str [109,97,114,107],.bin .add (.bin .mul (.str [45]) (.idx (.var 2) (.int 0))) (.str [32])]]) (.call "pieces_of" [.idx (.var 2) (.int 1)]))),
   .expr (.call "put_items" [.idx (.var 2) (.int 2),.var 1])]]
noncomputable def kK:Fn where
 names:=["items", "rows", "item"]
 params:=2
 body:=lD
noncomputable def tM:List S:=[
  .assign 1 (.list []),
  .forIn 2 (.var 0) [
   .ite (.cmp .eq (.idx (.var 2) (.int 0)) (.str [103,97,112])) [
    .forR 3 (.idx (.var 2) (.int 1)) [
     .expr (.append (.var 1) (.list []))]] [
    .ite (.cmp .eq (.idx (.var 2) (.int 0)) (.str [104,101,97,100,105,110,103])) [
     .expr (.append (.var 1) (.bin .add (.list [.tup [.str [109,97,114,107],.bin .add (.bin .mul (.str [35]) (.idx (.var 2) (.int 1))) (.str [32])]]) (.call "pieces_of" [.idx (.var 2) (.int 2)])))] [
     .ite (.cmp .eq (.idx (.var 2) (.int 0)) (.str [108,105,115,116])) [
      .expr (.call "put_items" [.idx (.var 2) (.int 1),.var 1])] [
      .ite (.cmp .eq (.idx (.var 2) (.int 0)) (.str [112,97,114,97])) [
       .forIn 4 (.idx (.var 2) (.int 1)) [
        .expr (.append (.var 1) (.call "pieces_of" [.var 4]))]] [
       .forIn 5 (.call "rows_of" [.idx (.var 2) (.int 1)]) [
        .expr (.append (.var 1) (.bin .add (.list [.tup [.str [109,97,114,107],.str [62,32]]]) (.var 5)))]]]]]],
  .ret (.var 1)]
noncomputable def sZ:Fn where
 names:=["blocks", "rows", "block", "k", "parts", "row"]
 params:=1
 body:=tM
noncomputable def Ac6:List S:=[
  .expr (.call "need_normal" [.var 0]),
  .assign 1 (.list []),
  .forEnum 2 3 (.call "rows_of" [.var 0]) [
   .ite (.cmp .gt (.var 2) (.int 0)) [
    .expr (.append (.var 1) (.tup [.str [101,110,100],.str [10]]))] [],
   .expr (.extend (.var 1) (.var 3))],
  .ret (.var 1)]
noncomputable def Ab4:Fn where
 names:=["tree", "made", "at", "row"]
 params:=1
 body:=Ac6
noncomputable def Ay4:List S:=[
  .ret (.join (.str []) (.comp (.idx (.var 1) (.int 1)) 1 (.call "pieces" [.var 0]) []))]
noncomputable def Ax8:Fn where
 names:=["tree", "piece"]
 params:=1
 body:=Ay4
noncomputable def rF:List S:=[
  .ite (.cmp .lt (.var 1) (.len (.var 0))) [
   .ret (.idx (.var 0) (.var 1))] [],
  .ret (.int 0)]
noncomputable def rE:Fn where
 names:=["_law_script", "_law_k"]
 params:=2
 body:=rF
noncomputable def lI:List S:=[
  .assign 0 (.str [32,33,34,35,36,38,39,40,41,42,43,44,45,46,47,48,49,50,51,52,53,54,55,56,57,58,59,60,61,62,63,64,65,66,67,68,69,70,71,72,73,74,75,76,77,78,79,80,81,82,83,84,85,86,87,88,89,90,91,92,93,94,95,96]),
  .ret (.bin .add (.var 0) (.str [97,98,99,100,101,102,103,104,105,106,107,108,109,110,111,112,113,114,115,116,117,118,119,120,121,122,123,124,125,126]))]
noncomputable def kO:Fn where
 names:=["_law_some"]
 params:=0
 body:=lI
noncomputable def cK:List S:=[
  .ite (.is (.var 1) .none) [
   .ret (.is (.var 0) .none)] [],
  .ite (.is (.var 1) .tt) [
   .ret (.is (.var 0) .tt)] [],
  .ite (.is (.var 1) .ff) [
   .ret (.is (.var 0) .ff)] [],
  .ite (.isinst (.var 1) .str) [
   .ret (.and [.isinst (.var 0) .str,.cmp .eq (.var 0) (.var 1)])] [],
  .ite (.isinst (.var 1) .int) [
   .ret (.and [.isinst (.var 0) .int,.not (.isinst (.var 0) .bool),.cmp .eq (.var 0) (.var 1)])] [],
  .ite (.or [.and [.isinst (.var 1) .list,.not (.isinst (.var 0) .list)],.and [.isinst (.var 1) .tuple,.not (.isinst (.var 0) .tuple)]]) [
   .ret (.bool false)] [],
  .ite (.cmp .ne (.len (.var 0)) (.len (.var 1))) [
   .ret (.bool false)] [],
  .forR 2 (.len (.var 1)) [
   .ite (.not (.call "_law_alike" [.idx (.var 0) (.var 2),.idx (.var 1) (.var 2)])) [
    .ret (.bool false)] []],
  .ret (.bool true)]
noncomputable def kT:Fn where
 names:=["_law_found", "_law_due", "_law_k"]
 params:=2
 body:=cK
noncomputable def tO:List S:=[
  .assign 1 (.str []),
  .forIn 2 (.var 0) [
   .ite (.isinst (.var 2) .str) [
    .assign 1 (.bin .add (.var 1) (.var 2))] [
    .ite (.cmp .eq (.idx (.var 2) (.int 0)) (.str [107,101,112,116])) [
     .assign 1 (.bin .add (.bin .add (.var 1) (.str [92])) (.idx (.var 2) (.int 1)))] [
     .ite (.cmp .eq (.idx (.var 2) (.int 0)) (.str [99,111,100,101])) [
      .assign 1 (.bin .add (.bin .add (.bin .add (.var 1) (.str [96])) (.idx (.var 2) (.int 1))) (.bin .mul (.str [96]) (.toInt (.idx (.var 2) (.int 2)))))] [
      .ite (.cmp .eq (.idx (.var 2) (.int 0)) (.str [115,112,97,110])) [
       .assign 1 (.bin .add (.bin .add (.bin .add (.var 1) (.idx (.var 2) (.int 1))) (.str [40])) (.call "_law_row" [.idx (.var 2) (.int 2)])),
       .assign 1 (.bin .add (.var 1) (.bin .mul (.str [41]) (.toInt (.idx (.var 2) (.int 3)))))] [
       .ite (.is (.idx (.var 2) (.int 2)) .none) [
        .assign 1 (.bin .add (.bin .add (.bin .add (.var 1) (.str [91])) (.call "_law_row" [.idx (.var 2) (.int 1)])) (.bin .mul (.str [93]) (.toInt (.idx (.var 2) (.int 3)))))] [
        .assign 1 (.bin .add (.bin .add (.bin .add (.var 1) (.str [91])) (.call "_law_row" [.idx (.var 2) (.int 1)])) (.str [93,40])),
        .assign 1 (.bin .add (.bin .add (.var 1) (.idx (.var 2) (.int 2))) (.bin .mul (.str [41]) (.toInt (.idx (.var 2) (.int 3)))))]]]]]],
  .ret (.var 1)]
noncomputable def tB:Fn where
 names:=["_law_parts_here", "_law_row_here", "_law_part"]
 params:=1
 body:=tO
noncomputable def lJ:List S:=[
  .assign 5 (.str []),
  .forR 6 (.var 1) [
   .assign 7 (.idx (.call "_law_signs" []) (.bin .mod (.bin .add (.var 0) (.bin .mul (.var 6) (.bin .add (.int 1) (.bin .mod (.bin .fdiv (.var 0) (.int 94)) (.int 7))))) (.int 94))),
   .ite (.or [.cmp .isin (.var 7) (.str [92,96]),.and [.cmp .eq (.var 2) (.str [91]),.cmp .eq (.var 7) (.str [93])],.and [.cmp .eq (.len (.var 2)) (.int 2),.cmp .eq (.var 7) (.str [41])]]) [
    .assign 7 (.str [109])] [],
   .ite (.and [.cmp .lt (.var 3) (.int 12),.or [.cmp .eq (.var 7) (.str [91]),.and [.cmp .eq (.var 7) (.str [40]),.cmp .isin (.slcL (.var 5) (.neg 1)) (.tup [.str [42],.str [95],.str [126]])]]]) [
    .assign 7 (.str [110])] [],
   .ite (.and [.var 4,.cmp .eq (.var 6) (.int 0),.cmp .eq (.var 7) (.str [40])]) [
    .assign 7 (.str [111])] [],
   .assign 5 (.bin .add (.var 5) (.var 7))],
  .ite (.and [.cmp .eq (.var 3) (.int 12),.cmp .eq (.bin .mod (.var 0) (.int 2)) (.int 0)]) [
   .assign 5 (.bin .add (.var 5) (.str [42,40,91,95,40,126,40]))] [],
  .ret (.var 5)]
noncomputable def kQ:Fn where
 names:=["_law_number", "_law_size_here", "_law_mark", "_law_deep", "_law_barred_here", "_law_words_here", "_law_k", "_law_sign"]
 params:=5
 body:=lJ
noncomputable def lF:List S:=[
  .assign 3 (.str []),
  .forR 4 (.var 1) [
   .assign 3 (.bin .add (.var 3) (.idx (.call "_law_signs" []) (.bin .mod (.bin .add (.var 0) (.bin .mul (.var 4) (.bin .add (.int 1) (.bin .mod (.bin .fdiv (.var 0) (.int 94)) (.int 5))))) (.int 94))))],
  .ret (.replace (.var 3) (.var 2) (.str [120]))]
noncomputable def kM:Fn where
 names:=["_law_number", "_law_size_here", "_law_left", "_law_words_here", "_law_k"]
 params:=3
 lits:=[2]
 body:=lF
noncomputable def hV:List S:=[
  .ret (.and [.cmp .gt (.len (.var 0)) (.int 0),.cmp .eq (.idx (.idx (.var 0) (.neg 1)) (.int 0)) (.str [108,105,110,107]),.is (.idx (.idx (.var 0) (.neg 1)) (.int 2)) .none])]
noncomputable def hF:Fn where
 names:=["_law_parts_here"]
 params:=1
 body:=hV
noncomputable def pZ:List S:=[
  .ite (.cmp .eq (.bin .mod (.var 0) (.int 3)) (.int 1)) [
   .ret (.bin .mod (.bin .fdiv (.var 0) (.int 3)) (.int 49))] [],
  .ret (.bin .mod (.bin .fdiv (.var 0) (.int 3)) (.int 7))]
noncomputable def pP:Fn where
 names:=["_law_number"]
 params:=1
 body:=pZ
noncomputable def tQ:List S:=[
  .assign 3 (.pop (.var 0)),
  .assign 4 (.idx (.idx (.var 0) (.neg 1)) (.int 1)),
  .ite (.cmp .ne (.idx (.var 3) (.int 0)) (.str [91])) [
   .expr (.append (.var 4) (.tup [.str [115,112,97,110],.idx (.idx (.var 3) (.int 0)) (.int 0),.idx (.var 3) (.int 1),.var 2]))] [
   .ite (.and [.var 2,.cmp .gt (.bin .mod (.var 1) (.int 3)) (.int 0)]) [
    .expr (.append (.var 4) (.tup [.str [108,105,110,107],.idx (.var 3) (.int 1),.call "_law_words" [.bin .fdiv (.var 1) (.int 3),.call "_law_size" [.bin .fdiv (.var 1) (.int 300)],.str [41]],.bool true]))] [
    .expr (.append (.var 4) (.tup [.str [108,105,110,107],.idx (.var 3) (.int 1),.none,.var 2]))]]]
noncomputable def tD:Fn where
 names:=["_law_pile", "_law_number", "_law_closed", "_law_top", "_law_parts_here"]
 params:=3
 body:=tQ
noncomputable def tP:List S:=[
  .assign 2 (.bin .mod (.bin .mul (.var 1) (.int 48271)) (.int 2147483647)),
  .assign 3 (.bin .mod (.var 2) (.int 9)),
  .assign 4 (.bin .fdiv (.var 2) (.int 9)),
  .assign 5 (.bin .sub (.len (.var 0)) (.int 1)),
  .assign 6 (.idx (.idx (.var 0) (.neg 1)) (.int 1)),
  .ite (.and [.cmp .lt (.var 3) (.int 3),.not (.and [.cmp .gt (.len (.var 6)) (.int 0),.isinst (.idx (.var 6) (.neg 1)) .str])]) [
   .assign 7 (.bin .add (.int 1) (.call "_law_size" [.bin .fdiv (.var 4) (.int 700)])),
   .expr (.append (.var 6) (.call "_law_plain" [.var 4,.var 7,.idx (.idx (.var 0) (.neg 1)) (.int 0),.var 5,.call "_law_barred" [.var 6]]))] [
   .ite (.cmp .eq (.var 3) (.int 4)) [
    .expr (.append (.var 6) (.tup [.str [99,111,100,101],.call "_law_words" [.var 4,.call "_law_size" [.bin .fdiv (.var 4) (.int 500)],.str [96]],.bool true]))] [
    .ite (.and [.cmp .eq (.var 3) (.int 5),.cmp .lt (.var 5) (.int 12)]) [
     .expr (.append (.var 0) (.tup [.slcH (.slcL (.str [42,40,95,40,126,40]) (.bin .mul (.bin .mod (.var 4) (.int 3)) (.int 2))) (.int 2),.list []]))] [
     .ite (.and [.or [.cmp .eq (.var 3) (.int 6),.cmp .eq (.var 3) (.int 7)],.cmp .lt (.var 5) (.int 12)]) [
      .expr (.append (.var 0) (.tup [.str [91],.list []]))] [
      .ite (.and [.cmp .eq (.var 3) (.int 8),.cmp .gt (.var 5) (.int 0)]) [
       .expr (.call "_law_end" [.var 0,.var 4,.bool true])] [
       .expr (.append (.var 6) (.tup [.str [107,101,112,116],.idx (.call "_law_signs" []) (.bin .mod (.var 4) (.int 94))]))]]]]]]
noncomputable def tC:Fn where
 names:=["_law_pile", "_law_cell", "_law_mixed", "_law_step", "_law_number", "_law_deep", "_law_parts_here", "_law_size_here"]
 params:=2
 body:=tP
noncomputable def lK:List S:=[
  .ite (.cmp .gt (.var 1) (.int 8)) [
   .ret (.list [.str [108,97,98,101,108]])] [],
  .assign 2 (.list [.list [.str [108,97,98,101,108]],.list [],.list [.str [97],.tup [.str [107,101,112,116],.str [93]],.str [98,42]],.list [.tup [.str [115,112,97,110],.str [95],.list [.str [99],.tup [.str [99,111,100,101],.str [93],.bool true]],.bool true]]]),
  .assign 2 (.bin .add (.var 2) (.list [.list [.str [115,101,101,32],.tup [.str [108,105,110,107],.list [.str [100]],.str [101],.bool true],.str [40,102]],.list [.tup [.str [108,105,110,107],.list [.tup [.str [115,112,97,110],.str [42],.list [.str [103]],.bool true]],.none,.bool true]]])),
  .assign 2 (.bin .add (.var 2) (.list [.list [.tup [.str [107,101,112,116],.str [120]],.tup [.str [115,112,97,110],.str [126],.list [.tup [.str [108,105,110,107],.list [.str [104]],.str [105],.bool true]],.bool true],.str [106]]])),
  .ret (.idx (.bin .add (.var 2) (.list [.list [.tup [.str [108,105,110,107],.list [.tup [.str [108,105,110,107],.list [.str [107]],.str [108],.bool true],.str [109]],.str [110],.bool true]]])) (.bin .mod (.var 0) (.int 8)))]
noncomputable def kS:Fn where
 names:=["_law_number", "_law_deep", "_law_some"]
 params:=2
 body:=lK
noncomputable def O8:List S:=[
  .assign 2 (.list [.tup [.str [],.list []]]),
  .forIn 3 (.var 0) [
   .expr (.call "_law_put" [.var 2,.var 3])],
  .assign 4 (.cmp .gt (.bin .mod (.var 1) (.int 7)) (.int 2)),
  .assign 5 (.idx (.idx (.var 2) (.neg 1)) (.int 1)),
  .assign 6 (.call "_law_size" [.bin .fdiv (.var 1) (.int 7)]),
  .ite (.cmp .eq (.bin .mod (.var 1) (.int 7)) (.int 0)) [
   .expr (.append (.var 5) (.tup [.str [107,101,112,116],.str []]))] [],
  .ite (.cmp .eq (.bin .mod (.var 1) (.int 7)) (.int 1)) [
   .expr (.append (.var 5) (.tup [.str [99,111,100,101],.call "_law_words" [.bin .fdiv (.var 1) (.int 7),.var 6,.str [96]],.bool false]))] [],
  .ite (.and [.cmp .eq (.bin .mod (.var 1) (.int 7)) (.int 2),.cmp .lt (.len (.var 2)) (.int 13)]) [
   .assign 7 (.call "_law_label" [.bin .fdiv (.var 1) (.int 21),.len (.var 2)]),
   .expr (.append (.var 5) (.tup [.str [108,105,110,107],.var 7,.call "_law_words" [.bin .fdiv (.var 1) (.int 7),.var 6,.str [41]],.bool false]))] [],
  .assign 1 (.bin .fdiv (.var 1) (.int 7)),
  .whl (.cmp .gt (.len (.var 2)) (.int 1)) [
   .ite (.cmp .eq (.bin .mod (.var 1) (.int 4)) (.int 0)) [
    .assign 4 (.bool false)] [],
   .expr (.call "_law_end" [.var 2,.bin .fdiv (.var 1) (.int 4),.var 4]),
   .assign 1 (.bin .fdiv (.var 1) (.int 4))],
  .ret (.idx (.idx (.var 2) (.int 0)) (.int 1))]
noncomputable def kR:Fn where
 names:=["_law_cells", "_law_last", "_law_pile", "_law_cell", "_law_closing", "_law_parts_here", "_law_size_here", "_law_label_here"]
 params:=2
 body:=O8
noncomputable def qB:List S:=[
  .whl (.and [.cmp .ne (.var 0) (.list []),.cmp .lt (.idx (.idx (.var 0) (.neg 1)) (.int 0)) (.var 1)]) [
   .assign 0 (.idx (.idx (.var 0) (.neg 1)) (.int 2))],
  .expr (.append (.var 0) (.tup [.var 1,.var 2,.list []]))]
noncomputable def pR:Fn where
 names:=["_law_items", "_law_dashes", "_law_parts_here"]
 params:=3
 body:=qB
noncomputable def bI:List S:=[
  .assign 2 (.bin .sub (.len (.var 0)) (.len (.lstrip (.var 0) (.str [35])))),
  .assign 3 (.bin .sub (.len (.var 0)) (.len (.lstrip (.var 0) (.str [45])))),
  .ite (.and [.cmp .isin (.var 2) (.tup [.int 1,.int 2,.int 3,.int 4,.int 5,.int 6]),.cmp .eq (.slc (.var 0) (.var 2) (.bin .add (.var 2) (.int 1))) (.str [32])]) [
   .ret (.bool false)] [],
  .ite (.and [.cmp2 .lt .lt (.int 0) (.var 3) (.int 10),.cmp .eq (.slc (.var 0) (.var 3) (.bin .add (.var 3) (.int 1))) (.str [32])]) [
   .ret (.bool false)] [],
  .ret (.and [.cmp .ne (.var 0) (.str []),.or [.cmp .ne (.slcH (.var 0) (.int 2)) (.str [62,32]),.cmp .eq (.var 1) (.int 9)]])]
noncomputable def bH:Fn where
 names:=["_law_row_here", "_law_deep", "_law_sharps", "_law_dashes"]
 params:=2
 body:=bI
noncomputable def lL:List S:=[
  .ite (.and [.cmp .ne (.var 1) (.list []),.isinst (.idx (.var 1) (.int 0)) .str]) [
   .ret (.bin .add (.list [.bin .add (.var 0) (.idx (.var 1) (.int 0))]) (.slcL (.var 1) (.int 1)))] [],
  .ret (.bin .add (.list [.var 0]) (.var 1))]
noncomputable def kU:Fn where
 names:=["_law_words_here", "_law_parts_here"]
 params:=2
 body:=lL
noncomputable def X7:List S:=[
  .ite (.cmp .eq (.bin .mod (.var 1) (.int 3)) (.int 1)) [
   .assign 3 (.list [.str [35],.str [35,35,97],.str [45],.str [45,45,45],.str [35,35,35,35,35,35,35,35],.str [62,97],.str [62],.str [45,45,45,45,45,45,45,45,45,45],.str [45,53],.str [35,35,35,35,35,35,35],.str [62,32],.str [62,62]]),
   .assign 0 (.call "_law_ahead" [.idx (.var 3) (.bin .mod (.bin .fdiv (.var 1) (.int 3)) (.int 12)),.var 0])] [],
  .ite (.call "_law_plain_row" [.call "_law_row" [.var 0],.var 2]) [
   .ret (.var 0)] [],
  .ret (.call "_law_ahead" [.str [122],.var 0])]
noncomputable def eA:Fn where
 names:=["_law_parts_here", "_law_number", "_law_deep", "_law_some"]
 params:=3
 body:=X7
noncomputable def cJ:List S:=[
  .ite (.and [.cmp .eq (.var 1) (.int 11),.cmp .gt (.len (.var 0)) (.int 1),.cmp .ne (.idx (.var 0) (.neg 1)) (.list [])]) [
   .expr (.pop (.var 0))] [],
  .whl (.and [.cmp .eq (.var 1) (.int 10),.cmp .gt (.var 2) (.int 0),.cmp .lt (.len (.var 0)) (.int 10)]) [
   .ite (.or [.cmp .eq (.idx (.var 0) (.neg 1)) (.list []),.cmp .ne (.idx (.idx (.idx (.var 0) (.neg 1)) (.neg 1)) (.int 0)) (.str [113,117,111,116,101])]) [
    .expr (.append (.idx (.var 0) (.neg 1)) (.tup [.str [113,117,111,116,101],.list []]))] [],
   .expr (.append (.var 0) (.idx (.idx (.idx (.var 0) (.neg 1)) (.neg 1)) (.int 1))),
   .assign 2 (.bin .sub (.var 2) (.int 1))]]
noncomputable def kP:Fn where
 names:=["_law_pile", "_law_way", "_law_many"]
 params:=3
 body:=cJ
noncomputable def jG:List S:=[
  .assign 5 (.str []),
  .ite (.cmp .ne (.var 0) (.list [])) [
   .assign 5 (.idx (.idx (.var 0) (.neg 1)) (.int 0))] [],
  .ite (.and [.cmp .lt (.var 1) (.int 2),.cmp .ne (.var 5) (.str [103,97,112])]) [
   .expr (.append (.var 0) (.tup [.str [103,97,112],.bin .add (.bin .add (.int 1) (.bin .mod (.var 2) (.int 3))) (.bin .mul (.int 300) (.toInt (.cmp .eq (.bin .mod (.bin .fdiv (.var 2) (.int 3)) (.int 9)) (.int 5))))]))] [
   .ite (.cmp .lt (.var 1) (.int 4)) [
    .expr (.append (.var 0) (.tup [.str [104,101,97,100,105,110,103],.bin .add (.int 1) (.bin .mod (.var 2) (.int 6)),.var 3]))] [
    .ite (.and [.cmp .lt (.var 1) (.int 7),.cmp .eq (.var 5) (.str [108,105,115,116])]) [
     .expr (.call "_law_item" [.idx (.idx (.var 0) (.neg 1)) (.int 1),.bin .add (.int 1) (.bin .mod (.var 2) (.int 9)),.var 3])] [
     .ite (.cmp .lt (.var 1) (.int 7)) [
      .expr (.append (.var 0) (.tup [.str [108,105,115,116],.list [.tup [.bin .add (.int 1) (.bin .mod (.var 2) (.int 9)),.var 3,.list []]]]))] [
      .ite (.cmp .eq (.var 5) (.str [112,97,114,97])) [
       .expr (.append (.idx (.idx (.var 0) (.neg 1)) (.int 1)) (.call "_law_plainly" [.var 3,.var 2,.var 4]))] [
       .expr (.append (.var 0) (.tup [.str [112,97,114,97],.list [.call "_law_plainly" [.var 3,.var 2,.var 4]]]))]]]]]]
noncomputable def tE:Fn where
 names:=["_law_blocks", "_law_way", "_law_number", "_law_parts_here", "_law_deep", "_law_ahead_here"]
 params:=5
 body:=jG
noncomputable def fD:List S:=[
  .assign 1 (.list [.list []]),
  .assign 2 (.int 1),
  .whl (.cmp .lt (.var 2) (.len (.var 0))) [
   .assign 3 (.bin .mod (.bin .mul (.idx (.var 0) (.var 2)) (.int 69621)) (.int 2147483647)),
   .assign 4 (.idx (.list [.int 0,.int 1,.int 2,.int 3,.int 5,.int 13]) (.bin .mod (.bin .fdiv (.var 3) (.int 12)) (.int 6))),
   .assign 5 (.slc (.var 0) (.bin .add (.var 2) (.int 1)) (.bin .add (.bin .add (.var 2) (.int 1)) (.var 4))),
   .assign 2 (.bin .add (.bin .add (.var 2) (.int 1)) (.var 4)),
   .ite (.cmp .gt (.bin .mod (.var 3) (.int 12)) (.int 9)) [
    .expr (.call "_law_quote" [.var 1,.bin .mod (.var 3) (.int 12),.bin .add (.int 1) (.bin .mul (.bin .mod (.bin .fdiv (.var 3) (.int 72)) (.int 3)) (.int 4))])] [
    .expr (.call "_law_add" [.idx (.var 1) (.neg 1),.bin .mod (.var 3) (.int 12),.bin .fdiv (.var 3) (.int 72),.call "_law_parts" [.var 5,.bin .fdiv (.var 3) (.int 504)],.bin .sub (.len (.var 1)) (.int 1)])]],
  .ite (.cmp .eq (.idx (.var 1) (.neg 1)) (.list [])) [
   .expr (.append (.idx (.var 1) (.neg 1)) (.tup [.str [103,97,112],.int 1]))] [],
  .ret (.idx (.var 1) (.int 0))]
noncomputable def pO:Fn where
 names:=["_law_script", "_law_pile", "_law_at", "_law_head", "_law_many", "_law_cells"]
 params:=1
 body:=fD
noncomputable def lH:List S:=[
  .assign 1 (.list []),
  .forIn 2 (.var 0) [
   .expr (.append (.var 1) (.bin .add (.bin .add (.bin .mul (.str [45]) (.idx (.var 2) (.int 0))) (.str [32])) (.call "_law_row" [.idx (.var 2) (.int 1)]))),
   .expr (.extend (.var 1) (.call "_law_under" [.idx (.var 2) (.int 2)]))],
  .ret (.var 1)]
noncomputable def kN:Fn where
 names:=["_law_items", "_law_rows_here", "_law_item_here"]
 params:=1
 body:=lH
noncomputable def qA:List S:=[
  .assign 1 (.list []),
  .forIn 2 (.var 0) [
   .ite (.cmp .eq (.idx (.var 2) (.int 0)) (.str [103,97,112])) [
    .expr (.extend (.var 1) (.bin .mul (.list [.str []]) (.idx (.var 2) (.int 1))))] [
    .ite (.cmp .eq (.idx (.var 2) (.int 0)) (.str [104,101,97,100,105,110,103])) [
     .expr (.append (.var 1) (.bin .add (.bin .add (.bin .mul (.str [35]) (.idx (.var 2) (.int 1))) (.str [32])) (.call "_law_row" [.idx (.var 2) (.int 2)])))] [
     .ite (.cmp .eq (.idx (.var 2) (.int 0)) (.str [108,105,115,116])) [
      .expr (.extend (.var 1) (.call "_law_under" [.idx (.var 2) (.int 1)]))] [
      .ite (.cmp .eq (.idx (.var 2) (.int 0)) (.str [113,117,111,116,101])) [
       .expr (.extend (.var 1) (.comp (.bin .add (.str [62,32]) (.var 3)) 3 (.call "_law_rows" [.idx (.var 2) (.int 1)]) []))] [
       .expr (.extend (.var 1) (.comp (.call "_law_row" [.var 4]) 4 (.idx (.var 2) (.int 1)) []))]]]]],
  .ret (.var 1)]
noncomputable def pQ:Fn where
 names:=["_law_blocks", "_law_rows_here", "_law_block", "_law_row_here", "_law_parts_here"]
 params:=1
 body:=qA
noncomputable def Ci2:List S:=[
  .assign 1 (.call "_law_tree" [.var 0]),
  .assign 2 (.join (.str [10]) (.call "_law_rows" [.call "_law_tree" [.var 0]])),
  .ite (.isnot (.call "normal" [.var 1]) .tt) [
   .ret (.bool false)] [],
  .assign 3 (.call "shown" [.var 1]),
  .ite (.or [.not (.isinst (.var 3) .str),.cmp .ne (.var 3) (.var 2)]) [
   .ret (.bool false)] [],
  .ret (.and [.call "_law_alike" [.call "read" [.var 2],.call "_law_tree" [.var 0]],.call "_law_alike" [.var 1,.call "_law_tree" [.var 0]]])]
noncomputable def Ci1:Fn where
 names:=["_law_script", "_law_tree_here", "_law_text", "_law_found"]
 params:=1
 bump:=true
 body:=Ci2
noncomputable def prg:List (String×Fn):=[("here_of",tI),("put_plain",kI),("code_at",tJ),("link_at",tA),("opens",Ay0),("last_is",tF),("ended",Ay1),("parts_of",pN),("is_sign",tG),("is_row",Ab6),("run_of",Ab2),("shape",Ax9),("items_of",pS),("block_of",pW),("blocks_of",kX),("read",Bl1),("put_piece",kJ),("link_pieces",dZ),("put_pieces",gZ),("pieces_of",kL),("row_of",Ab3),("is_number",kW),("is_tuple",pT),("is_part",tH),("are_parts",kY),("is_content",hO),("are_items",kZ),("are_rows",pX),("is_block",pU),("are_blocks",hS),("normal",Ab5),("need_normal",dY),("put_items",kK),("rows_of",sZ),("pieces",Ab4),("shown",Ax8),("_law_cell_at",rE),("_law_signs",kO),("_law_alike",kT),("_law_row",tB),("_law_plain",kQ),("_law_words",kM),("_law_barred",hF),("_law_size",pP),("_law_end",tD),("_law_put",tC),("_law_label",kS),("_law_parts",kR),("_law_item",pR),("_law_plain_row",bH),("_law_ahead",kU),("_law_plainly",eA),("_law_quote",kP),("_law_add",tE),("_law_tree",pO),("_law_under",kN),("_law_rows",pQ),("law",Ci1)]
noncomputable def gl:Gl:={ intL:=[("MOST_OPEN",12),("MOST_QUOTES",9),("MOST_SHARPS",6),("MOST_DASHES",9)],fns:=[("here_of",[]),("put_plain",[]),("code_at",[]),("link_at",[]),("opens",[]),("last_is",[]),("ended",[]),("parts_of",[]),("is_sign",[]),("is_row",[]),("run_of",[]),("shape",[]),("items_of",[]),("block_of",[]),("blocks_of",[]),("read",[]),("put_piece",[]),("link_pieces",[]),("put_pieces",[]),("pieces_of",[]),("row_of",[]),("is_number",[]),("is_tuple",[]),("is_part",[]),("are_parts",[]),("is_content",[]),("are_items",[]),("are_rows",[]),("is_block",[]),("are_blocks",[]),("normal",[]),("need_normal",[]),("put_items",[]),("rows_of",[]),("pieces",[]),("shown",[]),("_law_cell_at",[]),("_law_signs",[]),("_law_alike",[]),("_law_row",[]),("_law_plain",[]),("_law_words",[2]),("_law_barred",[]),("_law_size",[]),("_law_end",[]),("_law_put",[]),("_law_label",[]),("_law_parts",[]),("_law_item",[]),("_law_plain_row",[]),("_law_ahead",[]),("_law_plainly",[]),("_law_quote",[]),("_law_add",[]),("_law_tree",[]),("_law_under",[]),("_law_rows",[]),("law",[])] }
noncomputable abbrev P:Prg:=fun f=>prg.lookup f
theorem Bf3:P "here_of" = some tI:=by rfl
theorem Aq4 {n:Nat}{a0 a1:V}{Q:C2}{H:Heap}(h:C4 (C1 P n) tU [some a0,some a1] (D8 Q) H):C1 P (n+1) "here_of" [a0,a1] Q H:=D2 Bf3 rfl h
theorem Ag2:P "put_plain" = some kI:=by rfl
theorem wN {n:Nat}{a0 a1:V}{Q:C2}{H:Heap}(h:C4 (C1 P n) lB [some a0,some a1] (D8 Q) H):C1 P (n+1) "put_plain" [a0,a1] Q H:=D2 Ag2 rfl h
theorem Bf4:P "code_at" = some tJ:=by rfl
theorem Aq5 {n:Nat}{a0 a1:V}{Q:C2}{H:Heap}(h:C4 (C1 P n) tV [some a0,some a1,none] (D8 Q) H):C1 P (n+1) "code_at" [a0,a1] Q H:=D2 Bf4 rfl h
theorem Be5:P "link_at" = some tA:=by rfl
theorem Ap6 {n:Nat}{a0 a1 a2:V}{Q:C2}{H:Heap}(h:C4 (C1 P n) tN [some a0,some a1,some a2,none] (D8 Q) H):C1 P (n+1) "link_at" [a0,a1,a2] Q H:=D2 Be5 rfl h
theorem Cf7:P "opens" = some Ay0:=by rfl
theorem Bt7 {n:Nat}{a0 a1 a2:V}{Q:C2}{H:Heap}(h:C4 (C1 P n) Ay6 [some a0,some a1,some a2] (D8 Q) H):C1 P (n+1) "opens" [a0,a1,a2] Q H:=D2 Cf7 rfl h
theorem Bf0:P "last_is" = some tF:=by rfl
theorem Aq1 {n:Nat}{a0 a1:V}{Q:C2}{H:Heap}(h:C4 (C1 P n) tR [some a0,some a1] (D8 Q) H):C1 P (n+1) "last_is" [a0,a1] Q H:=D2 Bf0 rfl h
theorem Cf8:P "ended" = some Ay1:=by rfl
theorem Bt8 {n:Nat}{a0 a1:V}{Q:C2}{H:Heap}(h:C4 (C1 P n) Ay7 [some a0,some a1,none,none] (D8 Q) H):C1 P (n+1) "ended" [a0,a1] Q H:=D2 Cf8 rfl h
theorem Aq9:P "parts_of" = some pN:=by rfl
theorem Af1 {n:Nat}{a0:V}{Q:C2}{H:Heap}(h:C4 (C1 P n) pY [some a0,none,none,none,none,none,none,none] (D8 Q) H):C1 P (n+1) "parts_of" [a0] Q H:=D2 Aq9 rfl h
theorem Bf1:P "is_sign" = some tG:=by rfl
theorem Aq2 {n:Nat}{a0:V}{Q:C2}{H:Heap}(h:C4 (C1 P n) tS [some a0,none] (D8 Q) H):C1 P (n+1) "is_sign" [a0] Q H:=D2 Bf1 rfl h
theorem Bv6:P "is_row" = some Ab6:=by rfl
theorem Be1 {n:Nat}{a0:V}{Q:C2}{H:Heap}(h:C4 (C1 P n) Ac8 [some a0,none] (D8 Q) H):C1 P (n+1) "is_row" [a0] Q H:=D2 Bv6 rfl h
theorem Bv2:P "run_of" = some Ab2:=by rfl
theorem Bd7 {n:Nat}{a0 a1:V}{Q:C2}{H:Heap}(h:C4 (C1 P n) Ac4 [some a0,some a1,none] (D8 Q) H):C1 P (n+1) "run_of" [a0,a1] Q H:=D2 Bv2 rfl h
theorem Cf6:P "shape" = some Ax9:=by rfl
theorem Bt6 {n:Nat}{a0 a1:V}{Q:C2}{H:Heap}(h:C4 (C1 P n) Ay5 [some a0,some a1,none,none] (D8 Q) H):C1 P (n+1) "shape" [a0,a1] Q H:=D2 Cf6 rfl h
theorem Ar4:P "items_of" = some pS:=by rfl
theorem Af6 {n:Nat}{a0:V}{Q:C2}{H:Heap}(h:C4 (C1 P n) qC [some a0,none,none,none,none] (D8 Q) H):C1 P (n+1) "items_of" [a0] Q H:=D2 Ar4 rfl h
theorem Ar7:P "block_of" = some pW:=by rfl
theorem Af9 {n:Nat}{a0 a1:V}{Q:C2}{H:Heap}(h:C4 (C1 P n) qF [some a0,some a1,none,none] (D8 Q) H):C1 P (n+1) "block_of" [a0,a1] Q H:=D2 Ar7 rfl h
theorem Ah6:P "blocks_of" = some kX:=by rfl
theorem wZ {n:Nat}{a0 a1:V}{Q:C2}{H:Heap}(h:C4 (C1 P n) lN [some a0,some a1,none,none,none,none] (D8 Q) H):C1 P (n+1) "blocks_of" [a0,a1] Q H:=D2 Ah6 rfl h
theorem Co5:P "read" = some Bl1:=by rfl
theorem Ce8 {n:Nat}{a0:V}{Q:C2}{H:Heap}(h:C4 (C1 P n) Bl6 [some a0,none,none] (D8 Q) H):C1 P (n+1) "read" [a0] Q H:=D2 Co5 rfl h
theorem Ag3:P "put_piece" = some kJ:=by rfl
theorem wO {n:Nat}{a0 a1 a2:V}{Q:C2}{H:Heap}(h:C4 (C1 P n) lC [some a0,some a1,some a2] (D8 Q) H):C1 P (n+1) "put_piece" [a0,a1,a2] Q H:=D2 Ag3 rfl h
theorem rH:P "link_pieces" = some dZ:=by rfl
theorem qN {n:Nat}{a0 a1:V}{Q:C2}{H:Heap}(h:C4 (C1 P n) eE [some a0,some a1] (D8 Q) H):C1 P (n+1) "link_pieces" [a0,a1] Q H:=D2 rH rfl h
theorem xD:P "put_pieces" = some gZ:=by rfl
theorem rA {n:Nat}{a0 a1:V}{Q:C2}{H:Heap}(h:C4 (C1 P n) hU [some a0,some a1,none] (D8 Q) H):C1 P (n+1) "put_pieces" [a0,a1] Q H:=D2 xD rfl h
theorem Ag5:P "pieces_of" = some kL:=by rfl
theorem wQ {n:Nat}{a0:V}{Q:C2}{H:Heap}(h:C4 (C1 P n) lE [some a0,none] (D8 Q) H):C1 P (n+1) "pieces_of" [a0] Q H:=D2 Ag5 rfl h
theorem Bv3:P "row_of" = some Ab3:=by rfl
theorem Bd8 {n:Nat}{a0:V}{Q:C2}{H:Heap}(h:C4 (C1 P n) Ac5 [some a0,none] (D8 Q) H):C1 P (n+1) "row_of" [a0] Q H:=D2 Bv3 rfl h
theorem Ah5:P "is_number" = some kW:=by rfl
theorem gX {n:Nat}{a0 a1:V}{Q:C2}{H:Heap}(h:C4 (C1 P n) lM [some a0,some a1] (D8 Q) H):C1 P (n+1) "is_number" [a0,a1] Q H:=D2 Ah5 rfl h
theorem Ar5:P "is_tuple" = some pT:=by rfl
theorem Af7 {n:Nat}{a0 a1 a2:V}{Q:C2}{H:Heap}(h:C4 (C1 P n) qD [some a0,some a1,some a2] (D8 Q) H):C1 P (n+1) "is_tuple" [a0,a1,a2] Q H:=D2 Ar5 rfl h
theorem Bf2:P "is_part" = some tH:=by rfl
theorem Aq3 {n:Nat}{a0 a1:V}{Q:C2}{H:Heap}(h:C4 (C1 P n) tT [some a0,some a1] (D8 Q) H):C1 P (n+1) "is_part" [a0,a1] Q H:=D2 Bf2 rfl h
theorem Ah7:P "are_parts" = some kY:=by rfl
theorem xA {n:Nat}{a0 a1:V}{Q:C2}{H:Heap}(h:C4 (C1 P n) lO [some a0,some a1,none] (D8 Q) H):C1 P (n+1) "are_parts" [a0,a1] Q H:=D2 Ah7 rfl h
theorem xF:P "is_content" = some hO:=by rfl
theorem rC {n:Nat}{a0:V}{Q:C2}{H:Heap}(h:C4 (C1 P n) hX [some a0] (D8 Q) H):C1 P (n+1) "is_content" [a0] Q H:=D2 xF rfl h
theorem Ah8:P "are_items" = some kZ:=by rfl
theorem xB {n:Nat}{a0 a1:V}{Q:C2}{H:Heap}(h:C4 (C1 P n) lP [some a0,some a1,none,none] (D8 Q) H):C1 P (n+1) "are_items" [a0,a1] Q H:=D2 Ah8 rfl h
theorem Ar8:P "are_rows" = some pX:=by rfl
theorem Ag0 {n:Nat}{a0 a1:V}{Q:C2}{H:Heap}(h:C4 (C1 P n) qG [some a0,some a1,none] (D8 Q) H):C1 P (n+1) "are_rows" [a0,a1] Q H:=D2 Ar8 rfl h
theorem Ar6:P "is_block" = some pU:=by rfl
theorem Af8 {n:Nat}{a0 a1:V}{Q:C2}{H:Heap}(h:C4 (C1 P n) qE [some a0,some a1] (D8 Q) H):C1 P (n+1) "is_block" [a0,a1] Q H:=D2 Ar6 rfl h
theorem xG:P "are_blocks" = some hS:=by rfl
theorem rD {n:Nat}{a0 a1:V}{Q:C2}{H:Heap}(h:C4 (C1 P n) hY [some a0,some a1,none,none] (D8 Q) H):C1 P (n+1) "are_blocks" [a0,a1] Q H:=D2 xG rfl h
theorem Bv5:P "normal" = some Ab5:=by rfl
theorem Be0 {n:Nat}{a0:V}{Q:C2}{H:Heap}(h:C4 (C1 P n) Ac7 [some a0] (D8 Q) H):C1 P (n+1) "normal" [a0] Q H:=D2 Bv5 rfl h
theorem rG:P "need_normal" = some dY:=by rfl
theorem qM {n:Nat}{a0:V}{Q:C2}{H:Heap}(h:C4 (C1 P n) eD [some a0] (D8 Q) H):C1 P (n+1) "need_normal" [a0] Q H:=D2 rG rfl h
theorem Ag4:P "put_items" = some kK:=by rfl
theorem wP {n:Nat}{a0 a1:V}{Q:C2}{H:Heap}(h:C4 (C1 P n) lD [some a0,some a1,none] (D8 Q) H):C1 P (n+1) "put_items" [a0,a1] Q H:=D2 Ag4 rfl h
theorem Be4:P "rows_of" = some sZ:=by rfl
theorem Ap5 {n:Nat}{a0:V}{Q:C2}{H:Heap}(h:C4 (C1 P n) tM [some a0,none,none,none,none,none] (D8 Q) H):C1 P (n+1) "rows_of" [a0] Q H:=D2 Be4 rfl h
theorem Bv4:P "pieces" = some Ab4:=by rfl
theorem Bd9 {n:Nat}{a0:V}{Q:C2}{H:Heap}(h:C4 (C1 P n) Ac6 [some a0,none,none,none] (D8 Q) H):C1 P (n+1) "pieces" [a0] Q H:=D2 Bv4 rfl h
theorem Cf5:P "shown" = some Ax8:=by rfl
theorem Bt5 {n:Nat}{a0:V}{Q:C2}{H:Heap}(h:C4 (C1 P n) Ay4 [some a0,none] (D8 Q) H):C1 P (n+1) "shown" [a0] Q H:=D2 Cf5 rfl h
theorem Ag8:P "_law_signs" = some kO:=by rfl
theorem wT {n:Nat}{Q:C2}{H:Heap}(h:C4 (C1 P n) lI [none] (D8 Q) H):C1 P (n+1) "_law_signs" [] Q H:=D2 Ag8 rfl h
theorem Ah3:P "_law_alike" = some kT:=by rfl
theorem aZ {n:Nat}{a0 a1:V}{Q:C2}{H:Heap}(h:C4 (C1 P n) cK [some a0,some a1,none] (D8 Q) H):C1 P (n+1) "_law_alike" [a0,a1] Q H:=D2 Ah3 rfl h
theorem Be6:P "_law_row" = some tB:=by rfl
theorem Ap7 {n:Nat}{a0:V}{Q:C2}{H:Heap}(h:C4 (C1 P n) tO [some a0,none,none] (D8 Q) H):C1 P (n+1) "_law_row" [a0] Q H:=D2 Be6 rfl h
theorem Ah0:P "_law_plain" = some kQ:=by rfl
theorem wV {n:Nat}{a0 a1 a2 a3 a4:V}{Q:C2}{H:Heap}(h:C4 (C1 P n) lJ [some a0,some a1,some a2,some a3,some a4,none,none,none] (D8 Q) H):C1 P (n+1) "_law_plain" [a0,a1,a2,a3,a4] Q H:=D2 Ah0 rfl h
theorem Ag6:P "_law_words" = some kM:=by rfl
theorem wR {n:Nat}{a0 a1 a2:V}{Q:C2}{H:Heap}(h:C4 (C1 P n) lF [some a0,some a1,some a2,none,none] (D8 Q) H):C1 P (n+1) "_law_words" [a0,a1,a2] Q H:=D2 Ag6 rfl h
theorem xE:P "_law_barred" = some hF:=by rfl
theorem rB {n:Nat}{a0:V}{Q:C2}{H:Heap}(h:C4 (C1 P n) hV [some a0] (D8 Q) H):C1 P (n+1) "_law_barred" [a0] Q H:=D2 xE rfl h
theorem Ar1:P "_law_size" = some pP:=by rfl
theorem Af3 {n:Nat}{a0:V}{Q:C2}{H:Heap}(h:C4 (C1 P n) pZ [some a0] (D8 Q) H):C1 P (n+1) "_law_size" [a0] Q H:=D2 Ar1 rfl h
theorem Be8:P "_law_end" = some tD:=by rfl
theorem Ap9 {n:Nat}{a0 a1 a2:V}{Q:C2}{H:Heap}(h:C4 (C1 P n) tQ [some a0,some a1,some a2,none,none] (D8 Q) H):C1 P (n+1) "_law_end" [a0,a1,a2] Q H:=D2 Be8 rfl h
theorem Be7:P "_law_put" = some tC:=by rfl
theorem Ap8 {n:Nat}{a0 a1:V}{Q:C2}{H:Heap}(h:C4 (C1 P n) tP [some a0,some a1,none,none,none,none,none,none] (D8 Q) H):C1 P (n+1) "_law_put" [a0,a1] Q H:=D2 Be7 rfl h
theorem Ah2:P "_law_label" = some kS:=by rfl
theorem wX {n:Nat}{a0 a1:V}{Q:C2}{H:Heap}(h:C4 (C1 P n) lK [some a0,some a1,none] (D8 Q) H):C1 P (n+1) "_law_label" [a0,a1] Q H:=D2 Ah2 rfl h
theorem Ah1:P "_law_parts" = some kR:=by rfl
theorem wW {n:Nat}{a0 a1:V}{Q:C2}{H:Heap}(h:C4 (C1 P n) O8 [some a0,some a1,none,none,none,none,none,none] (D8 Q) H):C1 P (n+1) "_law_parts" [a0,a1] Q H:=D2 Ah1 rfl h
theorem Ar3:P "_law_item" = some pR:=by rfl
theorem Af5 {n:Nat}{a0 a1 a2:V}{Q:C2}{H:Heap}(h:C4 (C1 P n) qB [some a0,some a1,some a2] (D8 Q) H):C1 P (n+1) "_law_item" [a0,a1,a2] Q H:=D2 Ar3 rfl h
theorem lS:P "_law_plain_row" = some bH:=by rfl
theorem jI {n:Nat}{a0 a1:V}{Q:C2}{H:Heap}(h:C4 (C1 P n) bI [some a0,some a1,none,none] (D8 Q) H):C1 P (n+1) "_law_plain_row" [a0,a1] Q H:=D2 lS rfl h
theorem Ah4:P "_law_ahead" = some kU:=by rfl
theorem wY {n:Nat}{a0 a1:V}{Q:C2}{H:Heap}(h:C4 (C1 P n) lL [some a0,some a1] (D8 Q) H):C1 P (n+1) "_law_ahead" [a0,a1] Q H:=D2 Ah4 rfl h
theorem rI:P "_law_plainly" = some eA:=by rfl
theorem qO {n:Nat}{a0 a1 a2:V}{Q:C2}{H:Heap}(h:C4 (C1 P n) X7 [some a0,some a1,some a2,none] (D8 Q) H):C1 P (n+1) "_law_plainly" [a0,a1,a2] Q H:=D2 rI rfl h
theorem Ag9:P "_law_quote" = some kP:=by rfl
theorem wU {n:Nat}{a0 a1 a2:V}{Q:C2}{H:Heap}(h:C4 (C1 P n) cJ [some a0,some a1,some a2] (D8 Q) H):C1 P (n+1) "_law_quote" [a0,a1,a2] Q H:=D2 Ag9 rfl h
theorem Be9:P "_law_add" = some tE:=by rfl
theorem Aq0 {n:Nat}{a0 a1 a2 a3 a4:V}{Q:C2}{H:Heap}(h:C4 (C1 P n) jG [some a0,some a1,some a2,some a3,some a4,none] (D8 Q) H):C1 P (n+1) "_law_add" [a0,a1,a2,a3,a4] Q H:=D2 Be9 rfl h
theorem Ar0:P "_law_tree" = some pO:=by rfl
theorem Af2 {n:Nat}{a0:V}{Q:C2}{H:Heap}(h:C4 (C1 P n) fD [some a0,none,none,none,none,none] (D8 Q) H):C1 P (n+1) "_law_tree" [a0] Q H:=D2 Ar0 rfl h
theorem Ag7:P "_law_under" = some kN:=by rfl
theorem wS {n:Nat}{a0:V}{Q:C2}{H:Heap}(h:C4 (C1 P n) lH [some a0,none,none] (D8 Q) H):C1 P (n+1) "_law_under" [a0] Q H:=D2 Ag7 rfl h
theorem Ar2:P "_law_rows" = some pQ:=by rfl
theorem Af4 {n:Nat}{a0:V}{Q:C2}{H:Heap}(h:C4 (C1 P n) qA [some a0,none,none,none,none] (D8 Q) H):C1 P (n+1) "_law_rows" [a0] Q H:=D2 Ar2 rfl h
theorem Ct8:P "law" = some Ci1:=by rfl
theorem Cn2 {n:Nat}{a0:V}{Q:C2}{H:Heap}(h:C4 (C1 P n) Ci2 [some a0,none,none,none] (D8 Q) H):C1 P (n+1) "law" [a0] Q H:=D2 Ct8 rfl h
end L13
set_option linter.unusedVariables false
namespace Mini
noncomputable def Ev (C:Calls) (ρ:D7) (H:Heap) (e:E) (v:V):Prop:=∀ Q:C2,Q v H->D9 C e ρ Q H
noncomputable def Evs (C:Calls) (ρ:D7) (H:Heap) (es:List E) (vs:List V):Prop:=∀ Q:List V->Heap->Prop,Q vs H->R7 C es ρ Q H
section
variable {C:Calls}{ρ:D7}{H:Heap}{R:E2}{ss:List S}
theorem fH {x:Nat}{v:V}(h:ρ[x]? = some (some v)):Ev C ρ H (.var x) v:=fun zz k=>Y4 h k
theorem C8 {i:Int}:Ev C ρ H (.int i) (.int i):=fun zz k=>k
theorem N0 {i:List Nat}:Ev C ρ H (.str i) (.str i):=fun zz k=>k
theorem V0 {i:Int}:Ev C ρ H (.neg i) (.int (-i)):=fun zz k=>k
theorem D6 {o:Op}{l r:E}{a b c:V}(hl:Ev C ρ H l a) (hr:Ev C ρ H r b) (h:eK o a b H=some (c,H)):Ev C ρ H (.bin o l r) c:=fun Q k=>hl _ (hr _ (by
 show res (eK o a b H) Q
 rw [h];exact k))
theorem C7 {o:Cmp}{l r:E}{a b:V}{t:Bool}(hl:Ev C ρ H l a) (hr:Ev C ρ H r b) (h:Q6 o a b H=some t):Ev C ρ H (.cmp o l r) (.bool t):=fun Q k=>hl _ (hr _ (by
 show boo (Q6 o a b H) (fun b H=>Q (.bool b) H) H
 rw [h];exact k))
theorem Ck6 {o o2:Cmp}{l r q:E}{a b d:V}{t t2:Bool}(hl:Ev C ρ H l a) (hr:Ev C ρ H r b) (hq:Ev C ρ H q d) (h:Q6 o a b H=some t) (h2:Q6 o2 b d H=some t2):Ev C ρ H (.cmp2 o o2 l r q) (.bool (t&&t2)):=fun Q k=>hl _ (hr _ (by
 show boo (Q6 o a b H) _ H
 rw [h]
 cases t with
 | true=>exact hq _ (by show boo (Q6 o2 b d H) (fun b H=>Q (.bool b) H) H;rw [h2];exact k)
 | false=>exact k))
theorem Cw4 {e:E}{c:xJ}{a:V}(he:Ev C ρ H e a):Ev C ρ H (.is e c) (.bool (isV a c)):=fun Q k=>he _ k
theorem nA {e:E}{c:Ty}{a:V}(he:Ev C ρ H e a):Ev C ρ H (.isinst e c) (.bool (cR a c)):=fun Q k=>he _ k
theorem jM {e:E}{t:Bool}(he:Ev C ρ H e (.bool t)):Ev C ρ H (.not e) (.bool (!t)):=fun Q k=>he _ k
theorem E4 {l r:E}{a b c:V}(hl:Ev C ρ H l a) (hr:Ev C ρ H r b) (h:X9 a b H=some c):Ev C ρ H (.idx l r) c:=fun Q k=>hl _ (hr _ (by
 show val (X9 a b H) Q H
 rw [h];exact k))
theorem Cq8 {o l r:E}{a c:V}{i j:Int}(ho:Ev C ρ H o a) (hl:Ev C ρ H l (.int i)) (hr:Ev C ρ H r (.int j)) (h:dL a (some i) (some j) H=some (c,H)):Ev C ρ H (.slc o l r) c:=fun Q k=>ho _ (hl _ (hr _ (by
 show res (dL a (some i) (some j) H) Q
 rw [h];exact k)))
theorem Bh9 {o l:E}{a c:V}{i:Int}(ho:Ev C ρ H o a) (hl:Ev C ρ H l (.int i)) (h:dL a (some i) none H=some (c,H)):Ev C ρ H (.slcL o l) c:=fun Q k=>ho _ (hl _ (by
 show res (dL a (some i) none H) Q
 rw [h];exact k))
theorem Bi0 {o l:E}{a c:V}{i:Int}(ho:Ev C ρ H o a) (hl:Ev C ρ H l (.int i)) (h:dL a none (some i) H=some (c,H)):Ev C ρ H (.slcH o l) c:=fun Q k=>ho _ (hl _ (by
 show res (dL a none (some i) H) Q
 rw [h];exact k))
theorem K0 {e:E}{a:V}{n:Int}(he:Ev C ρ H e a) (h:uA a H=some n):Ev C ρ H (.len e) (.int n):=fun Q k=>he _ (by
 show val ((uA a H).map .int) Q H
 rw [h];exact k)
theorem Bi2 {o a b:E}{s:List Nat}{c:Nat}{i:Int}(ho:Ev C ρ H o (.str s)) (ha:Ev C ρ H a (.str [c])) (hb:Ev C ρ H b (.int i)) (h:0<=i):Ev C ρ H (.find o a b) (.int (rO s c i.toNat)):=fun Q k=>ho _ (ha _ (hb _ ⟨h,k⟩))
theorem fI {es:List E}{vs:List V}(h:Evs C ρ H es vs):Ev C ρ H (.tup es) (.tup vs):=fun Q k=>h _ k
theorem K5:Evs C ρ H [] []:=fun zz k=>k
theorem C9 {e:E}{es:List E}{v:V}{vs:List V}(h:Ev C ρ H e v) (k:Evs C ρ H es vs):Evs C ρ H (e::es) (v::vs):=fun zz q=>h _ (k _ q)
theorem Cq9 {e:E}{c:Nat}(he:Ev C ρ H e (.str [c])):Ev C ρ H (.ord e) (.int c):=fun Q k=>he _ k
theorem fR {e:E}{b:Bool}(he:Ev C ρ H e (.bool b)):Ev C ρ H (.toInt e) (.int (if b then 1 else 0)):=fun Q k=>he _ k
theorem E5 {e f:E}{es:List E}{b b2:Bool}(h1:Ev C ρ H e (.bool b)) (h2:b=true->Ev C ρ H (.and (f::es)) (.bool b2)):Ev C ρ H (.and (e::f::es)) (.bool (b&&b2)):=fun Q k=>h1 _ (by
 cases b with
 | true=>exact h2 rfl _ k
 | false=>exact k)
theorem R1 {e f:E}{es:List E}{b b2:Bool}(h1:Ev C ρ H e (.bool b)) (h2:b=false->Ev C ρ H (.or (f::es)) (.bool b2)):Ev C ρ H (.or (e::f::es)) (.bool (b||b2)):=fun Q k=>h1 _ (by
 cases b with
 | true=>exact k
 | false=>exact h2 rfl _ k)
theorem G8 {e:E}{b:V}(h1:Ev C ρ H e b):Ev C ρ H (.and [e]) b:=h1
theorem Y3 {e:E}{b:V}(h1:Ev C ρ H e b):Ev C ρ H (.or [e]) b:=h1
theorem lT {e:E}{v v':V}(h:Ev C ρ H e v) (q:v=v'):Ev C ρ H e v':=q▸h
theorem J6 {e:E}{v v':Bool}(h:Ev C ρ H e (.bool v)) (q:v=v'):Ev C ρ H e (.bool v'):=q▸h
theorem Q8 {a b:Int}:eK .add (.int a) (.int b) H=some (.int (a+b),H):=rfl
theorem nH {a b:Int}:eK .sub (.int a) (.int b) H=some (.int (a - b),H):=rfl
theorem N1 {a b:Int}(hb:0<b):eK .mod (.int a) (.int b) H=some (.int (a % b),H):=by
 show (if _ then _ else _)=_
 rw [if_pos hb]
theorem M0 {a b:Int}(hb:0<b/\b<1073741824):eK .fdiv (.int a) (.int b) H=some (.int (a / b),H):=by
 show (if _ then _ else _)=_
 rw [if_pos hb]
theorem iH {a b:Int}(hb:a.natAbs<1152921504606846976∨b.natAbs<1152921504606846976):eK .mul (.int a) (.int b) H=some (.int (a * b),H):=if_pos hb
theorem Aj6 {a:List Nat}{n:Int}(hb:a.length * n.toNat<=I8/\-4611686018427387904<n/\n<4611686018427387904):eK .mul (.str a) (.int n) H=some (.str (List.replicate n.toNat a).flatten,H):=if_pos hb
theorem aI {a b:List Nat}(hb:a.length+b.length<=I8):eK .add (.str a) (.str b) H=some (.str (a++b),H):=by
 show (if _ then _ else _)=_
 rw [if_pos hb]
theorem uF {s:List Nat}{lo hi:Option Int}:dL (.str s) lo hi H=some (.str (slice s lo hi),H):=rfl
theorem V1 {a b:List Nat}:Q6 .eq (.str a) (.str b) H=some (a==b):=rfl
theorem mQ {a b:List Nat}:Q6 .ne (.str a) (.str b) H=some (!(a==b)):=rfl
theorem U2 {a b:Int}:Q6 .eq (.int a) (.int b) H=some (a==b):=rfl
theorem Bg7 {a b:Int}:Q6 .ne (.int a) (.int b) H=some (!(a==b)):=rfl
theorem X3 {a b:Int}:Q6 .lt (.int a) (.int b) H=some (decide (a<b)):=rfl
theorem xQ {a b:Int}:Q6 .le (.int a) (.int b) H=some (decide (a<=b)):=rfl
theorem T0 {a b:Int}:Q6 .gt (.int a) (.int b) H=some (decide (b<a)):=rfl
theorem Cj2 {a b:Int}:Q6 .ge (.int a) (.int b) H=some (decide (b<=a)):=rfl
theorem Cg9 {c:Nat}{b:List Nat}:Q6 .isin (.str [c]) (.str b) H=some (b.contains c):=rfl
theorem uG {s:List Nat}:uA (.str s) H=some (s.length:Int):=rfl
theorem Bj5 {s:List V}:uA (.tup s) H=some (s.length:Int):=rfl
theorem Cl4 {s:List Int}:uA (.frz s) H=some (s.length:Int):=rfl
theorem J4 {a:Nat}{l:List V}(h:H[a]? = some l):uA (.ref a) H=some (l.length:Int):=by show (H[a]?).map _=_;rw [h];rfl
theorem C6 {x:Nat}{e:E}{v:V}(h:Ev C ρ H e v) (k:C4 C ss (ρ.set x (some v)) R H):C4 C (.assign x e::ss) ρ R H:=h _ k
theorem I6 {e:E}{v:V}(h:Ev C ρ H e v) (k:R (.ret v) ρ H):C4 C (.ret e::ss) ρ R H:=h _ k
theorem T1 {c:E}{t f:List S}{b:Bool}(hc:Ev C ρ H c (.bool b)) (ht:b=true->C4 C t ρ (K6 C ss R) H) (hf:b=false->C4 C f ρ (K6 C ss R) H):C4 C (.ite c t f::ss) ρ R H:=hc _ (by
 cases b with
 | true=>exact ht rfl
 | false=>exact hf rfl)
theorem D3 {f:String}{es:List E}{vs:List V}{v:V}(h:Evs C ρ H es vs) (k:∀ Q:C2,Q v H->C f vs Q H):Ev C ρ H (.call f es) v:=fun Q q=>h _ (k Q q)
theorem C3 {c:E}{t:List S}(hc:Ev C ρ H c (.bool false)) (k:C4 C ss ρ R H):C4 C (.ite c t []::ss) ρ R H:=hc _ k
theorem D5 {c:E}{t f:List S}(hc:Ev C ρ H c (.bool true)) (ht:C4 C t ρ (K6 C ss R) H):C4 C (.ite c t f::ss) ρ R H:=hc _ ht
theorem D4 {c:E}{t f:List S}(hc:Ev C ρ H c (.bool false)) (hf:C4 C f ρ (K6 C ss R) H):C4 C (.ite c t f::ss) ρ R H:=hc _ hf
theorem bZ {x:Nat}{f:String}{es:List E}{vs:List V}(h:Evs C ρ H es vs) (k:C f vs (fun v H₁=>C4 C ss (ρ.set x (some v)) R H₁) H):C4 C (.assign x (.call f es)::ss) ρ R H:=h _ k
theorem At0 {f:String}{es:List E}{vs:List V}(h:Evs C ρ H es vs) (k:C f vs (fun v H₁=>R (.ret v) ρ H₁) H):C4 C (.ret (.call f es)::ss) ρ R H:=h _ k
theorem K8 {f:String}{es:List E}{vs:List V}(h:Evs C ρ H es vs) (k:C f vs (fun zz H₁=>C4 C ss ρ R H₁) H):C4 C (.expr (.call f es)::ss) ρ R H:=h _ k
end
inductive Cw6 (C:Calls) (c:E) (b:List S) (Q:E2) (ρ:D7) (H:Heap) (K:D7->Heap->Prop):Prop
 | go (hc:Ev C ρ H c (.bool true)) (hb:C4 C b ρ (dO Q K) H)
 | stop (hc:Ev C ρ H c (.bool false)) (hq:Q .next ρ H)
theorem mR {C:Calls}{c:E}{b:List S}{Q:E2}{σ:Type}(env:σ->D7) (I:σ->Heap->Prop) (μ:σ->Nat)
  (step:∀ s H,I s H->∀ K:D7->Heap->Prop,(∀ s' H',μ s'<μ s->I s' H'->K (env s') H')->Cw6 C c b Q (env s) H K) (s:σ) {H:Heap}(h:I s H):iA C (.whl c b) (env s) Q H:=by
 refine zA (fun m ρ H=>∃ s,m=μ s/\ρ=env s/\I s H) (fun k ρ H hI K hK=>?_) (μ s) ⟨s,rfl,rfl,h⟩
 obtain ⟨s,rfl,rfl,hI⟩:=hI
 rcases step s H hI K (fun s' H' hm h'=>hK (μ s') _ _ hm ⟨s',rfl,rfl,h'⟩) with ⟨hc,hb⟩ | ⟨hc,hq⟩
 ·exact hc _ hb
 ·exact hc _ hq
theorem Bj7 {C:Calls}{x:Nat}{b:List S}{Q:E2}{σ:Type}(env:σ->D7) (I:Nat->σ->Heap->Prop) {a:Nat}{l:List V}(hl:∀ i s H,I i s H->H[a]? = some l)
  (step:∀ i s H v,l[i]? = some v->I i s H->∀ K:D7->Heap->Prop,(∀ s' H',I (i+1) s' H'->K (env s') H')->C4 C b ((env s).set x (some v)) (dO Q K) H)
  (fin:∀ s H,I l.length s H->Q .next (env s) H) (s:σ) {H:Heap}(h:I 0 s H):∃ n,Y0 (C4 C b) x (.lst a) n 0 (env s) Q H:=by
 refine Cc0 (l:=l) (fun i ρ H=>∃ s,ρ=env s/\I i s H) (fun i ρ H h=>?_) (fun i ρ H v hv hI K hK=>?_) (fun ρ H hI=>?_) ⟨s,rfl,h⟩
 ·obtain ⟨s,rfl,h⟩:=h;exact hl i s H h
 ·obtain ⟨s,rfl,h⟩:=hI;exact step i s H v hv h K fun s' H' h'=>hK _ _ ⟨s',rfl,h'⟩
 ·obtain ⟨s,rfl,h⟩:=hI;exact fin s H h
theorem V2 {C:Calls}{x:Nat}{e:E}{b:List S}{Q:E2}{σ:Type}(env:σ->D7) (I:Nat->σ->Heap->Prop) {a:Nat}{l:List V}(hl:∀ i s H,I i s H->H[a]? = some l)
  (step:∀ i s H v,l[i]? = some v->I i s H->∀ K:D7->Heap->Prop,(∀ s' H',I (i+1) s' H'->K (env s') H')->C4 C b ((env s).set x (some v)) (dO Q K) H)
  (fin:∀ s H,I l.length s H->Q .next (env s) H) (s:σ) {H:Heap}(he:Ev C (env s) H e (.ref a)) (h:I 0 s H):iA C (.forIn x e b) (env s) Q H :=
 he (fun v H₁=>match iterV v with | some it=>∃ n,Y0 (C4 C b) x it n 0 (env s) Q H₁ | none=>False) (Bj7 env I hl step fin s h)
theorem Cl6 {C:Calls}{x:Nat}{e:E}{b:List S}{Q:E2}{ρ:D7}{H:Heap}(h:D9 C e ρ (fun v H₁=>match iterV v with | some it=>∃ n,Y0 (C4 C b) x it n 0 ρ Q H₁ | none=>False) H):iA C (.forIn x e b) ρ Q H:=h
theorem I0 {C:Calls}{ρ:D7}{H H1:Heap}{R:E2}{ss:List S}{o e:E}{a:Nat}{l:List V}{v:V}(ho:Ev C ρ H o (.ref a)) (he:∀ Q:C2,Q v H1->D9 C e ρ Q H) (ha:H1[a]? = some l) (hl:l.length<I8) (k:C4 C ss ρ R (H1.set a (l++[v]))):C4 C (.expr (.append o e)::ss) ρ R H:=ho _ (he _ (K2 (Q:=fun zz H₁=>C4 C ss ρ R H₁) ha hl k))
theorem cA {C:Calls}{ρ:D7}{H:Heap}{R:E2}{ss:List S}{o:E}{f:String}{es:List E}{vs:List V}{a:Nat}(ho:Ev C ρ H o (.ref a)) (h:Evs C ρ H es vs) (k:C f vs (fun v H₁=>hea (X1 (.ref a) v H₁) (fun zz H₂=>C4 C ss ρ R H₂)) H):C4 C (.expr (.append o (.call f es))::ss) ρ R H:=ho _ (h _ k)
theorem Bg4 {C:Calls}{ρ:D7}{H:Heap}{R:E2}{ss:List S}{x:Nat}{o:E}{a:Nat}{l:List V}{v:V}(ho:Ev C ρ H o (.ref a)) (ha:H[a]? = some (l++[v])) (k:C4 C ss (ρ.set x (some v)) R (H.set a l)):C4 C (.assign x (.pop o)::ss) ρ R H:=ho _ (Bg5 (Q:=fun v H₁=>C4 C ss (ρ.set x (some v)) R H₁) ha k)
theorem Bj2 {C:Calls}{ρ:D7}{H:Heap}{R:E2}{ss:List S}{o:E}{a:Nat}{l:List V}{v:V}(ho:Ev C ρ H o (.ref a)) (ha:H[a]? = some (l++[v])) (k:C4 C ss ρ R (H.set a l)):C4 C (.expr (.pop o)::ss) ρ R H:=ho _ (Bg5 (Q:=fun zz H₁=>C4 C ss ρ R H₁) ha k)
theorem I5 {C:Calls}{ρ:D7}{H:Heap}{e:E}{es:List E}{v:V}{Q:List V->Heap->Prop}(h:Ev C ρ H e v) (k:R7 C es ρ (fun vs H₂=>Q (v::vs) H₂) H):R7 C (e::es) ρ Q H:=h _ k
theorem P0 {C:Calls}{ρ:D7}{H:Heap}{f:String}{fs es:List E}{vs:List V}{Q:List V->Heap->Prop}(h:Evs C ρ H fs vs) (k:C f vs (fun v H₁=>R7 C es ρ (fun ws H₂=>Q (v::ws) H₂) H₁) H):R7 C (.call f fs::es) ρ Q H:=h _ k
theorem Z2 {C:Calls}{ρ:D7}{H:Heap}{Q:List V->Heap->Prop}(k:Q [.ref H.length] (H++[[]])):R7 C [.list []] ρ Q H:=k
theorem Bp5 {C:Calls}{ρ:D7}{H:Heap}{R:E2}{ss:List S}{o i e:E}{a k:Nat}{z:Int}{l:List V}{v:V}(he:Ev C ρ H e v) (ho:Ev C ρ H o (.ref a)) (hi:Ev C ρ H i (.int z)) (ha:H[a]? = some l) (hk:K3 z l.length=some k) (q:C4 C ss ρ R (H.set a (l.set k v))):C4 C (.setIdx o i e::ss) ρ R H:=he _ (ho _ (hi _ (Cr2 (Q:=fun zz H₁=>C4 C ss ρ R H₁) ha hk q)))
theorem J9 {C:Calls}{ρ:D7}{H H1:Heap}{R:E2}{ss:List S}{x:Nat}{e:E}{v:V}(h:∀ Q:C2,Q v H1->D9 C e ρ Q H) (k:C4 C ss (ρ.set x (some v)) R H1):C4 C (.assign x e::ss) ρ R H:=h _ k
theorem S3 {H:Heap}{a i:Nat}{l:List V}{c:V}(ha:H[a]? = some l) (hc:l[i]? = some c):X9 (.ref a) (.int i) H=some c:=by
 show (H[a]?).bind _=_
 rw [ha]
 show (K3 (i:Int) l.length).bind _=_
 rw [S6 (List.getElem?_eq_some_iff.mp hc).1];exact hc
theorem J8 {H:Heap}{a:Nat}{l:List V}{c:V}(ha:H[a]? = some (l++[c])):X9 (.ref a) (.int (-1)) H=some c:=by
 show (H[a]?).bind _=_
 rw [ha]
 show (K3 (-1) (l++[c]).length).bind _=_
 rw [A6,List.length_singleton,oW]
 show (l++[c])[l.length]? = _
 rw [List.getElem?_append_right (A4 _),Nat.sub_self];rfl
theorem As7 {H:Heap}{s:List Nat}{i c:Nat}(hc:s[i]? = some c):X9 (.str s) (.int i) H=some (.str [c]):=by
 show (K3 (i:Int) s.length).bind _=_
 rw [S6 (List.getElem?_eq_some_iff.mp hc).1]
 show (s[i]?).map _=_
 rw [hc];rfl
theorem uJ {C:Calls}{x:Nat}{e:E}{b:List S}{Q:E2}{σ:Type}(env:σ->D7) (I:Nat->σ->Heap->Prop) {n:Nat}(hn:n<4611686018427387904)
  (step:∀ i s H,i<n->I i s H->∀ K:D7->Heap->Prop,(∀ s' H',I (i+1) s' H'->K (env s') H')->C4 C b ((env s).set x (some (.int (i:Int)))) (dO Q K) H)
  (fin:∀ s H,I n s H->Q .next (env s) H) (s:σ) {H:Heap}(he:Ev C (env s) H e (.int (n:Int))) (h:I 0 s H):iA C (.forR x e b) (env s) Q H:=by
 refine he (fun v H₁=>match rangeV v with | some it=>∃ m,Y0 (C4 C b) x it m 0 (env s) Q H₁ | none=>False) ?_
 show match rangeV (.int (n:Int)) with | some it=>∃ m,Y0 (C4 C b) x it m 0 (env s) Q H | none=>False
 rw [Bb4 hn]
 refine Aw3 (fun i ρ H=>∃ s,ρ=env s/\I i s H) (fun i ρ H v hv hI K hK=>?_) (fun ρ H hI=>?_) ⟨s,rfl,h⟩
 ·obtain ⟨s,rfl,h⟩:=hI
  have hi:i<n:=by
   have:=(List.getElem?_eq_some_iff.mp hv).1
   simpa using this
  have e:v=.int (i:Int):=by
   simp [hi] at hv
   exact hv.symm
  subst e
  exact step i s H hi h K fun s' H' h'=>hK _ _ ⟨s',rfl,h'⟩
 ·obtain ⟨s,rfl,h⟩:=hI
  exact fin s H (by simpa using h)
theorem Cb9 {C:Calls}{ρ:D7}{H:Heap}{o a:E}{s:List Nat}{c:Nat}(ho:Ev C ρ H o (.str s)) (ha:Ev C ρ H a (.str [c])) (hl:s.length<I8) (Q:C2) (k:Q (.ref H.length) (H++[(splitAt c s).map .str])):D9 C (.split o a) ρ Q H:=ho _ (ha _ ⟨hl,k⟩)
theorem Cl5 {C:Calls}{x:Nat}{e:E}{b:List S}{Q:E2}{σ:Type}(env:σ->D7) (I:Nat->σ->Heap->Prop) {t:List Nat}
  (step:∀ i s H c,t[i]? = some c->I i s H->∀ K:D7->Heap->Prop,(∀ s' H',I (i+1) s' H'->K (env s') H')->C4 C b ((env s).set x (some (.str [c]))) (dO Q K) H)
  (fin:∀ s H,I t.length s H->Q .next (env s) H) (s:σ) {H:Heap}(he:Ev C (env s) H e (.str t)) (h:I 0 s H):iA C (.forIn x e b) (env s) Q H:=by
 refine he (fun v H₁=>match iterV v with | some it=>∃ n,Y0 (C4 C b) x it n 0 (env s) Q H₁ | none=>False) ?_
 refine Aw3 (vs:=t.map fun c=>V.str [c]) (fun i ρ H=>∃ s,ρ=env s/\I i s H) (fun i ρ H v hv hI K hK=>?_) (fun ρ H hI=>?_) ⟨s,rfl,h⟩
 ·obtain ⟨s,rfl,h⟩:=hI
  rw [C0] at hv
  obtain ⟨c,hc,rfl⟩:=Option.map_eq_some_iff.mp hv
  exact step i s H c hc h K fun s' H' h'=>hK _ _ ⟨s',rfl,h'⟩
 ·obtain ⟨s,rfl,h⟩:=hI
  rw [B6] at h
  exact fin s H h
theorem sK {C:Calls}{elt:E}{x a:Nat}{ρ:D7}{l:List V}{Q:List V->Heap->Prop}(hn:l.length<=I8) (I:Nat->List V->Heap->Prop) (hl:∀ i acc G,I i acc G->G[a]? = some l)
  (step:∀ i acc G v,l[i]? = some v->acc.length=i->I i acc G->∀ K:C2,(∀ w G',I (i+1) (acc++[w]) G'->K w G')->D9 C elt (ρ.set x (some v)) K G)
  (fin:∀ acc G,acc.length=l.length->I l.length acc G->Q acc G):∀ (m i:Nat) (acc:List V) (H:Heap),l.length<m+i->i<=l.length->acc.length=i->I i acc H->T3 (Q7 C []) (D9 C elt) x ρ (.lst a) m i acc Q H
 | 0,i,_,_,h,hi,_,_=>absurd h (Nat.not_lt_of_le (by rw [Nat.zero_add];exact hi))
 | m+1,i,acc,H,h,hi,hlen,hI=>by
  show (match (It.lst a).at H i with | none=>_ | some v=>_)
  have hat:(It.lst a).at H i=l[i]?:=by unfold It.at;simp only [hl i acc H hI]
  rw [hat]
  by_cases hlt:i<l.length
  ·rw [List.getElem?_eq_getElem hlt]
   exact step i acc H _ (List.getElem?_eq_getElem hlt) hlen hI _ fun w G' hI'=>⟨A8 (hlen▸hlt) hn,sK hn I hl step fin m (i+1) (acc++[w]) G' (by rw [Nat.add_right_comm] at h;exact h) hlt (by rw [A6,hlen];rfl) hI'⟩
  ·have e:i=l.length:=Nat.le_antisymm hi (Nat.le_of_not_lt hlt)
   subst e
   rw [List.getElem?_eq_none (A4 _)]
   exact fin acc H hlen hI
theorem Aj9 {C:Calls}{elt e:E}{x a:Nat}{ρ:D7}{H:Heap}{l:List V}(he:Ev C ρ H e (.ref a)) (hn:l.length<=I8) (I:Nat->List V->Heap->Prop) (hl:∀ i acc G,I i acc G->G[a]? = some l)
  (step:∀ i acc G v,l[i]? = some v->acc.length=i->I i acc G->∀ K:C2,(∀ w G',I (i+1) (acc++[w]) G'->K w G')->D9 C elt (ρ.set x (some v)) K G) (h0:I 0 [] H)
  (Q:C2) (fin:∀ acc G,acc.length=l.length->I l.length acc G->Q (.ref G.length) (G++[acc])):D9 C (.comp elt x e []) ρ Q H :=
 he (fun v H₁=>match iterV v with | some it=>∃ n,T3 (Q7 C []) (D9 C elt) x ρ it n 0 [] (fun vs H₂=>Q (.ref H₂.length) (H₂++[vs])) H₁ | none=>False) ⟨l.length+1,sK hn I hl step fin (l.length+1) 0 [] H (B1 _) (B0 _) rfl h0⟩
theorem Cr3 {C:Calls}{elt e:E}{x a:Nat}{ρ:D7}{H:Heap}{l:List V}(f:V->V) (he:Ev C ρ H e (.ref a)) (ha:H[a]? = some l) (hn:l.length<=I8) (step:∀ v∈l,Ev C (ρ.set x (some v)) H elt (f v))
  (Q:C2) (fin:Q (.ref H.length) (H++[l.map f])):D9 C (.comp elt x e []) ρ Q H :=
 Aj9 he hn (fun i acc G=>G=H/\acc=(l.take i).map f) (fun i acc G h=>h.1▸ha) (fun i acc G v hv zz hI K hK=>by
  obtain ⟨rfl,rfl⟩:=hI
  exact step v (B9 hv) K (hK _ _ ⟨rfl,by rw [List.take_add_one,hv,List.map_append];rfl⟩)) ⟨rfl,rfl⟩ Q fun acc G zz hI=>by
  obtain ⟨rfl,rfl⟩:=hI
  rw [List.take_length];exact fin
noncomputable def T9 (C:Calls) (ρ:D7) (H:Heap) (e:E) (v:V) (Φ:Heap->Prop):Prop:=∀ Q:C2,(∀ G,Φ G->Q v G)->D9 C e ρ Q H
section
variable {C:Calls}{ρ:D7}{H:Heap}{R:E2}{ss:List S}{Φ Ψ:Heap->Prop}
theorem fF {e:E}{v:V}(h:Ev C ρ H e v):T9 C ρ H e v (fun G=>G=H):=fun zz k=>h _ (k H rfl)
theorem Bg0 {e:E}{v:V}(h:T9 C ρ H e v Φ) (k:∀ G,Φ G->Ψ G):T9 C ρ H e v Ψ:=fun Q q=>h Q fun G g=>q G (k G g)
theorem X5 {f:String}{es:List E}{vs:List V}{v:V}(h:Evs C ρ H es vs) (k:∀ Q:C2,(∀ G,Φ G->Q v G)->C f vs Q H):T9 C ρ H (.call f es) v Φ:=fun Q q=>h _ (k Q q)
theorem xZ {e:E}{t:Bool}(h:T9 C ρ H e (.bool t) Φ):T9 C ρ H (.not e) (.bool (!t)) Φ:=fun Q q=>h _ fun G g=>q G g
theorem rN {e f:E}{es:List E}{v:V}(h1:T9 C ρ H e (.bool false) Φ) (h2:∀ G,Φ G->T9 C ρ G (.or (f::es)) v Ψ):T9 C ρ H (.or (e::f::es)) v Ψ:=fun Q k=>h1 _ fun G g=>h2 G g Q k
theorem xY {e:E}{v:V}(h1:T9 C ρ H e v Φ):T9 C ρ H (.or [e]) v Φ:=h1
theorem V7 {e f:E}{es:List E}{v:V}(h1:T9 C ρ H e (.bool true) Φ) (h2:∀ G,Φ G->T9 C ρ G (.and (f::es)) v Ψ):T9 C ρ H (.and (e::f::es)) v Ψ:=fun Q k=>h1 _ fun G g=>h2 G g Q k
theorem bR {e:E}{v:V}(h1:T9 C ρ H e v Φ):T9 C ρ H (.and [e]) v Φ:=h1
theorem h_b {e:E}{v v':Bool}(h:T9 C ρ H e (.bool v) Φ) (q:v=v'):T9 C ρ H e (.bool v') Φ:=q▸h
theorem Q4 {c:E}{t:List S}(hc:T9 C ρ H c (.bool false) Φ) (k:∀ G,Φ G->C4 C ss ρ R G):C4 C (.ite c t []::ss) ρ R H:=hc _ fun G g=>k G g
theorem cS {c:E}{t f:List S}(hc:T9 C ρ H c (.bool true) Φ) (k:∀ G,Φ G->C4 C t ρ (K6 C ss R) G):C4 C (.ite c t f::ss) ρ R H:=hc _ fun G g=>k G g
theorem nI {e:E}{v:V}(h:T9 C ρ H e v Φ) (k:∀ G,Φ G->R (.ret v) ρ G):C4 C (.ret e::ss) ρ R H:=h _ fun G g=>k G g
theorem yA {o:Cmp}{l r:E}{a b:V}{t:Bool}(hl:T9 C ρ H l a Φ) (hr:∀ G,Φ G->T9 C ρ G r b Ψ) (h:∀ G,Ψ G->Q6 o a b G=some t):T9 C ρ H (.cmp o l r) (.bool t) Ψ:=fun Q k=>hl _ fun G g=>hr G g _ fun G' g'=>by
 show boo (Q6 o a b G') (fun b H=>Q (.bool b) H) G'
 rw [h G' g'];exact k G' g'
theorem lX:T9 C ρ H (.list []) (.ref H.length) (fun G=>G=H++[[]]):=fun zz k=>k _ rfl
end
end Mini
set_option genSizeOf false
set_option linter.unusedVariables false
namespace L13
open Mini
inductive A where
 | n
 | b (t:Bool)
 | i (z:Int)
 | s (w:List Nat)
noncomputable def aV:A->V
 | .n=>.none
 | .b t=>.bool t
 | .i z=>.int z
 | .s w=>.str w
inductive X where
 | at (a:A)
 | tup (xs:List X)
 | lst (xs:List X)
structure Bd (lo hi a p q:Nat):Prop where
 la:lo<=a
 ah:a<hi
 lp:lo<=p
 qh:q<=hi
theorem Bd.mono {lo hi a p q lo' hi':Nat}(h:Bd lo hi a p q) (h1:lo'<=lo) (h2:hi<=hi'):Bd lo' hi' a p q :=
 ⟨A3 h1 h.la,A8 h.ah h2,A3 h1 h.lp,A3 h.qh h2⟩
mutual
noncomputable def J0 (H:Heap):X->Nat->Nat->V->Prop
 | .at a,_,_,v=>v=aV a
 | .tup xs,lo,hi,v=>∃ vs,v=.tup vs/\E8 H xs lo hi vs
 | .lst xs,lo,hi,v=>∃ a vs p q,v=.ref a/\Bd lo hi a p q/\H[a]? = some vs/\E8 H xs p q vs
noncomputable def E8 (H:Heap):List X->Nat->Nat->List V->Prop
 | [],lo,hi,l=>lo<=hi/\l=[]
 | x::xs,lo,hi,l=>∃ v r m,l=v::r/\lo<=m/\J0 H x lo m v/\E8 H xs m hi r
end
noncomputable def L0 (H G:Heap) (lo hi:Nat):Prop:=∀ x,lo<=x->x<hi->G[x]? = H[x]?
theorem L0.sub {H G:Heap}{lo hi lo' hi':Nat}(h:L0 H G lo hi) (h1:lo<=lo') (h2:hi'<=hi):L0 H G lo' hi':=fun x a b=>h x (A3 h1 a) (A8 b h2)
theorem L0.refl {H:Heap}{lo hi:Nat}:L0 H H lo hi:=fun zz zz zz=>rfl
theorem L0.trans {A B C:Heap}{lo hi:Nat}(h:L0 A B lo hi) (k:L0 B C lo hi):L0 A C lo hi:=fun x a b=>(k x a b).trans (h x a b)
theorem E8.le {H:Heap}:∀ {xs:List X}{lo hi:Nat}{l:List V},E8 H xs lo hi l->lo<=hi
 | [],_,_,_,h=>h.1
 | _::xs,_,_,_,h=>by
  obtain ⟨v,r,m,_,h1,_,h2⟩:=h
  exact A3 h1 (E8.le (xs:=xs) h2)
mutual
theorem J0.mono {H G:Heap}:∀ (x:X) (lo hi lo' hi':Nat) (v:V),L0 H G lo hi->lo'<=lo->hi<=hi'->J0 H x lo hi v->J0 G x lo' hi' v
 | .at _,_,_,_,_,_,_,_,_,h=>h
 | .tup xs,lo,hi,lo',hi',_,hf,h1,h2,h=>by
  obtain ⟨vs,e,h⟩:=h
  exact ⟨vs,e,E8.mono xs lo hi lo' hi' vs hf h1 h2 h⟩
 | .lst xs,lo,hi,lo',hi',_,hf,h1,h2,h=>by
  obtain ⟨a,l,p,q,e,hb,hl,hr⟩:=h
  exact ⟨a,l,p,q,e,hb.mono h1 h2,(hf a hb.la hb.ah).trans hl,E8.mono xs p q p q l (hf.sub hb.lp hb.qh) (A4 _) (A4 _) hr⟩
theorem E8.mono {H G:Heap}:∀ (xs:List X) (lo hi lo' hi':Nat) (l:List V),L0 H G lo hi->lo'<=lo->hi<=hi'->E8 H xs lo hi l->E8 G xs lo' hi' l
 | [],_,_,_,_,_,_,h1,h2,h=>⟨A3 h1 (A3 h.1 h2),h.2⟩
 | x::xs,lo,hi,lo',hi',_,hf,h1,h2,h=>by
  obtain ⟨v,r,m,e,b1,g1,g2⟩:=h
  exact ⟨v,r,m,e,A3 h1 b1,J0.mono x lo m lo' m v (hf.sub (A4 _) (E8.le g2)) h1 (A4 _) g1,E8.mono xs m hi m hi' r (hf.sub b1 (A4 _)) (A4 _) h2 g2⟩
end
theorem J0.to {H G:Heap}{x:X}{lo hi:Nat}{v:V}(h:J0 H x lo hi v) (k:L0 H G lo hi):J0 G x lo hi v:=J0.mono _ _ _ _ _ _ k (A4 _) (A4 _) h
theorem E8.to {H G:Heap}{x:List X}{lo hi:Nat}{v:List V}(h:E8 H x lo hi v) (k:L0 H G lo hi):E8 G x lo hi v:=E8.mono _ _ _ _ _ _ k (A4 _) (A4 _) h
theorem E8.wide {H:Heap}{x:List X}{lo hi lo' hi':Nat}{v:List V}(h:E8 H x lo hi v) (h1:lo'<=lo) (h2:hi<=hi'):E8 H x lo' hi' v:=E8.mono _ _ _ _ _ _ .refl h1 h2 h
theorem J0.wide {H:Heap}{x:X}{lo hi lo' hi':Nat}{v:V}(h:J0 H x lo hi v) (h1:lo'<=lo) (h2:hi<=hi'):J0 H x lo' hi' v:=J0.mono _ _ _ _ _ _ .refl h1 h2 h
theorem E8.nil {H:Heap}{lo hi:Nat}(h:lo<=hi):E8 H [] lo hi []:=⟨h,rfl⟩
theorem E8.one {H:Heap}{x:X}{lo hi:Nat}{v:V}(hh:lo<=hi) (h:J0 H x lo hi v):E8 H [x] lo hi [v]:=⟨v,[],hi,rfl,hh,h,A4 _,rfl⟩
theorem E8.app {H:Heap}{ys:List X}{m:List V}{mid hi:Nat}(hm:E8 H ys mid hi m):∀ {xs:List X}{lo:Nat}{l:List V},E8 H xs lo mid l->E8 H (xs++ys) lo hi (l++m)
 | [],lo,l,h=>by
  obtain ⟨h1,rfl⟩:=h
  exact hm.wide h1 (A4 _)
 | x::xs,lo,l,h=>by
  obtain ⟨v,r,k,rfl,b1,g1,g2⟩:=h
  exact ⟨v,r++m,k,rfl,b1,g1,E8.app hm g2⟩
theorem E8.add {H:Heap}{x:X}{v:V}{mid hi:Nat}{xs:List X}{lo:Nat}{l:List V}(h:E8 H xs lo mid l) (hh:mid<=hi) (hm:J0 H x mid hi v):E8 H (xs++[x]) lo hi (l++[v]):=E8.app (.one hh hm) h
theorem E8.cut {H:Heap}{ys:List X}{hi:Nat}:∀ {xs:List X}{lo:Nat}{l:List V},E8 H (xs++ys) lo hi l->∃ a b m,l=a++b/\E8 H xs lo m a/\E8 H ys m hi b
 | [],lo,l,h=>⟨[],l,lo,rfl,⟨A4 _,rfl⟩,h⟩
 | x::xs,lo,l,h=>by
  obtain ⟨v,r,k,rfl,b1,g1,g2⟩:=h
  obtain ⟨a,b,m,rfl,h3,h4⟩:=E8.cut (xs:=xs) g2
  exact ⟨v::a,b,m,rfl,⟨v,a,k,rfl,b1,g1,h3⟩,h4⟩
theorem E8.len {H:Heap}:∀ {xs:List X}{lo hi:Nat}{l:List V},E8 H xs lo hi l->l.length=xs.length
 | [],_,_,_,h=>by rw [h.2];rfl
 | _::xs,_,_,_,h=>by
  obtain ⟨v,r,m,rfl,_,_,h2⟩:=h
  exact congrArg (· + 1) (E8.len h2)
theorem nJ {x m:Nat}(h:x+1<=m):∃ m',m=m'+1:=by
 cases m with
 | zero=>cases h
 | succ m=>exact ⟨m,rfl⟩
theorem mC {deep d:Nat}(hd:deep+d=9) (h:deep<9):∃ d',d=d'+1:=by
 cases d with
 | zero=>exact absurd hd (Nat.ne_of_lt h)
 | succ d=>exact ⟨d,rfl⟩
theorem yD {a d m:Nat}(h:a+(d+1)=m):a+1+d=m:=(Nat.add_right_comm a 1 d).trans h
theorem Ai6 {H:Heap}:∀ {xs:List X}{lo hi:Nat}{l:List V}{i:Nat}{v:V},E8 H xs lo hi l->l[i]? = some v->∃ x,xs[i]? = some x/\J0 H x lo hi v
 | [],_,_,_,i,v,h,hv=>by rw [h.2] at hv;cases hv
 | x::xs,_,_,_,i,v,h,hv=>by
  obtain ⟨u,r,m,rfl,q1,h1,h2⟩:=h
  cases i with
  | zero=>cases hv;exact ⟨x,rfl,h1.wide (A4 _) h2.le⟩
  | succ i =>
   obtain ⟨y,e,hy⟩:=Ai6 (xs:=xs) (i:=i) h2 hv
   exact ⟨y,e,hy.wide q1 (A4 _)⟩
theorem Bw9 {α:Type}{f:α->X}{as:List α}{xs:List X}{H:Heap}{lo hi i:Nat}{l:List V}{v:V}(e:xs=as.map f) (h:E8 H xs lo hi l) (hv:l[i]? = some v):∃ a,as[i]? = some a/\J0 H (f a) lo hi v:=by
 obtain ⟨x,hx,hr⟩:=Ai6 h hv
 rw [e,C0] at hx
 obtain ⟨a,ha,rfl⟩:=Option.map_eq_some_iff.mp hx
 exact ⟨a,ha,hr⟩
theorem uT {α:Type}{f:α->X}{as:List α}{xs:List X}(e:xs=as.map f):xs.length=as.length:=by rw [e,B6]
theorem Bk7 {α:Type}{f:α->X}{as:List α}{xs:List X}(e:xs=as.map f) {y:X}(h:y∈xs):∃ a∈as,y=f a:=by
 rw [e] at h
 obtain ⟨a,ha,q⟩:=List.mem_map.mp h
 exact ⟨a,ha,q.symm⟩
theorem Al0 {α:Type}{f:α->X}{g:List α->List X}(e:∀ as,g as=as.map f) (as bs:List α):g (as++bs)=g as++g bs:=by rw [e,e,e,List.map_append]
noncomputable def M1 (w:Nat):Nat->X->Prop
 | 0,x=>match x with
  | .at _=>True
  | _=>False
 | m+1,x=>match x with
  | .at _=>True
  | .tup xs=>xs.length<=w/\∀ y∈xs,M1 w m y
  | .lst xs=>xs.length<=w/\∀ y∈xs,M1 w m y
theorem M1.at {w m:Nat}{a:A}:M1 w m (.at a):=by cases m<;>exact trivial
theorem M1.tup {w m:Nat}{xs:List X}(h1:xs.length<=w) (h2:∀ y∈xs,M1 w m y):M1 w (m+1) (.tup xs):=⟨h1,h2⟩
theorem M1.lst {w m:Nat}{xs:List X}(h1:xs.length<=w) (h2:∀ y∈xs,M1 w m y):M1 w (m+1) (.lst xs):=⟨h1,h2⟩
theorem M1.up {w w':Nat}(hw:w<=w'):∀ {m m':Nat}{x:X},m<=m'->M1 w m x->M1 w' m' x
 | 0,m',.at _,_,_=>M1.at
 | 0,m',.tup _,_,h=>h.elim
 | 0,m',.lst _,_,h=>h.elim
 | m+1,m',.at _,_,_=>M1.at
 | m+1,m'+1,.tup _,hm,h=>⟨A3 h.1 hw,fun y hy=>M1.up hw (Nat.le_of_succ_le_succ hm) (h.2 y hy)⟩
 | m+1,m'+1,.lst _,hm,h=>⟨A3 h.1 hw,fun y hy=>M1.up hw (Nat.le_of_succ_le_succ hm) (h.2 y hy)⟩
theorem Ad1 {n:Nat}{a:A}{Q:C2}{H:Heap}(h:Q (.bool true) H):C1 P (n+1) "_law_alike" [aV a,aV a] Q H:=by
 refine aZ ?_
 match a with
 | .n=>exact D5 (fun zz h=>h) (I6 (fun zz h=>h) h)
 | .b true=>exact C3 (fun zz h=>h) (D5 (fun zz h=>h) (I6 (fun zz h=>h) h))
 | .b false=>exact C3 (fun zz h=>h) (C3 (fun zz h=>h) (D5 (fun zz h=>h) (I6 (fun zz h=>h) h)))
 | .s w =>
  have e:∀ {C:Calls}{x:Option V},Ev C [some (.str w),some (.str w),x] H (.cmp .eq (.var 0) (.var 1)) (.bool (w==w)):=fun zz h=>h
  rw [beq_self_eq_true] at e
  exact C3 (fun zz h=>h) (C3 (fun zz h=>h) (C3 (fun zz h=>h) (D5 (fun zz h=>h) (I6 (E5 (b:=true) (fun zz h=>h) fun zz=>G8 e) h))))
 | .i w =>
  have e:∀ {C:Calls}{x:Option V},Ev C [some (.int w),some (.int w),x] H (.cmp .eq (.var 0) (.var 1)) (.bool (w==w)):=fun zz h=>h
  rw [beq_self_eq_true] at e
  exact C3 (fun zz h=>h) (C3 (fun zz h=>h) (C3 (fun zz h=>h) (C3 (fun zz h=>h) (D5 (fun zz h=>h) (I6 (E5 (b:=true) (fun zz h=>h) fun zz=>E5 (b:=true) (fun zz h=>h) fun zz=>G8 e) h)))))
theorem qH {n:Nat}{x y:V}{l l':List V}{Q:C2}{H:Heap}(hl:l.length<4611686018427387904) (hll:l'.length=l.length)
  (hx:∀ (i:Nat) (c:V),l[i]? = some c->X9 x (.int i) H=some c) (hy:∀ (i:Nat) (c:V),l'[i]? = some c->X9 y (.int i) H=some c) (hlen:uA y H=some (l.length:Int))
  (hi:∀ (i:Nat) (c c':V),l[i]? = some c->l'[i]? = some c'->∀ K:C2,K (.bool true) H->C1 P n "_law_alike" [c,c'] K H) (h:Q (.bool true) H) :
  C4 (C1 P n) (cK.drop 7) [some x,some y,none] (D8 Q) H:=by
 refine I3 (uJ (σ:=Option V) (fun e=>[some x,some y,e]) (fun zz zz G=>G=H) hl (fun i e G hlt hG K hK=>?_) (fun e G hG=>?_) none (K0 (fun zz h=>h) hlen) rfl)
 ·subst hG
  have hg:l[i]? = some l[i]:=List.getElem?_eq_getElem hlt
  have hg':l'[i]? = some (l'[i]'(hll.symm▸hlt)):=List.getElem?_eq_getElem _
  exact C3 (jM (t:=true) (D3 (C9 (E4 (fun zz h=>h) (fun zz h=>h) (hx i _ hg)) (C9 (E4 (fun zz h=>h) (fun zz h=>h) (hy i _ hg')) K5)) fun Q q=>hi i _ _ hg hg' Q q)) (hK (some (.int i)) _ rfl)
 ·subst hG
  exact h
theorem Be3 {n:Nat}{l l':List V}{Q:C2}{H:Heap}(hl:l.length<4611686018427387904) (hll:l'.length=l.length) (hi:∀ (i:Nat) (c c':V),l[i]? = some c->l'[i]? = some c'->∀ K:C2,K (.bool true) H->C1 P n "_law_alike" [c,c'] K H) (h:Q (.bool true) H) :
  C1 P (n+1) "_law_alike" [.tup l,.tup l'] Q H:=by
 refine aZ (C3 (fun zz h=>h) (C3 (fun zz h=>h) (C3 (fun zz h=>h) (C3 (fun zz h=>h) (C3 (fun zz h=>h) (C3 (R1 (b:=false) (b2:=false) (fun zz h=>h) fun zz=>fun zz h=>h) (C3 (J6 (C7 (K0 (fun zz h=>h) Bj5) (K0 (fun zz h=>h) Bj5) Bg7) ?_) (qH hl hll (fun i c hc=>?_) (fun i c hc=>?_) ?_ hi h))))))))
 ·rw [hll];simp
 ·show (K3 (i:Int) l.length).bind _=_
  rw [S6 (List.getElem?_eq_some_iff.mp hc).1];exact hc
 ·show (K3 (i:Int) l'.length).bind _=_
  rw [S6 (List.getElem?_eq_some_iff.mp hc).1];exact hc
 ·rw [<- hll];rfl
theorem Aq8 {n a b:Nat}{l l':List V}{Q:C2}{H:Heap}(ha:H[a]? = some l) (hb:H[b]? = some l') (hl:l.length<4611686018427387904) (hll:l'.length=l.length) (hi:∀ (i:Nat) (c c':V),l[i]? = some c->l'[i]? = some c'->∀ K:C2,K (.bool true) H->C1 P n "_law_alike" [c,c'] K H) (h:Q (.bool true) H) :
  C1 P (n+1) "_law_alike" [.ref a,.ref b] Q H:=by
 refine aZ (C3 (fun zz h=>h) (C3 (fun zz h=>h) (C3 (fun zz h=>h) (C3 (fun zz h=>h) (C3 (fun zz h=>h) (C3 (R1 (b:=false) (b2:=false) (fun zz h=>h) fun zz=>fun zz h=>h) (C3 (J6 (C7 (K0 (fun zz h=>h) (J4 ha)) (K0 (fun zz h=>h) (J4 hb)) Bg7) ?_) (qH hl hll (fun i c hc=>S3 ha hc) (fun i c hc=>S3 hb hc) ?_ hi h))))))))
 ·rw [hll];simp
 ·rw [<- hll];exact J4 hb
theorem Az0 {H:Heap}{w k:Nat}(hw:w<4611686018427387904):∀ (m:Nat) (x:X) (v v':V) (lo hi lo' hi':Nat),M1 w m x->J0 H x lo hi v->J0 H x lo' hi' v'->∀ K:C2,K (.bool true) H->C1 P (k+m+1) "_law_alike" [v,v'] K H:=by
 intro m
 induction m with
 | zero =>
  intro x v v' lo hi lo' hi' hf h h' K hK
  cases x with
  | «at» a=>rw [show v=aV a from h,show v'=aV a from h'];exact Ad1 hK
  | tup xs=>exact hf.elim
  | lst xs=>exact hf.elim
 | succ m ih =>
  intro x v v' lo hi lo' hi' hf h h' K hK
  have go:∀ (xs:List X) (l l':List V) (p q p' q':Nat),(xs.length<=w/\∀ y∈xs,M1 w m y)->E8 H xs p q l->E8 H xs p' q' l'->l.length<4611686018427387904/\l'.length=l.length/\∀ (i:Nat) (c c':V),l[i]? = some c->l'[i]? = some c'->∀ K:C2,K (.bool true) H->C1 P (k+m+1) "_law_alike" [c,c'] K H:=fun xs l l' p q p' q' hf h h'=>by
   refine ⟨by rw [h.len];exact A9 hf.1 hw,h'.len.trans h.len.symm,fun i c c' hc hc' K hK=>?_⟩
   obtain ⟨y,hy,hr⟩:=Ai6 h hc
   obtain ⟨z,hz,hr'⟩:=Ai6 h' hc'
   cases hy.symm.trans hz
   exact ih y c c' _ _ _ _ (hf.2 y (B9 hy)) hr hr' K hK
  cases x with
  | «at» a=>rw [show v=aV a from h,show v'=aV a from h'];exact Ad1 hK
  | tup xs =>
   obtain ⟨l,rfl,h⟩:=h
   obtain ⟨l',rfl,h'⟩:=h'
   have g:=go xs l l' _ _ _ _ hf h h'
   exact Be3 g.1 g.2.1 g.2.2 hK
  | lst xs =>
   obtain ⟨a,l,_,_,rfl,_,ha,h⟩:=h
   obtain ⟨a',l',_,_,rfl,_,ha',h'⟩:=h'
   have g:=go xs l l' _ _ _ _ hf h h'
   exact Aq8 ha ha' g.1 g.2.1 g.2.2 hK
theorem E0 {A:Heap}{x:List V}:(A++[x])[A.length]? = some x:=by
 rw [List.getElem?_append_right (A4 _),Nat.sub_self];rfl
theorem J5 {A:Heap}{i:Nat}{x y:List V}(h:A[i]? = some x):(A++[y])[i]? = some x:=by
 rw [List.getElem?_append_left (List.getElem?_eq_some_iff.mp h).1];exact h
theorem L0.one {H:Heap}{x:List V}{lo hi:Nat}(h:hi<=H.length):L0 H (H++[x]) lo hi:=fun y zz b=>List.getElem?_append_left (A8 b h)
theorem L0.set {H:Heap}{a:Nat}{l:List V}{lo hi:Nat}(h:a<lo∨hi<=a):L0 H (H.set a l) lo hi:=fun y h1 h2=>List.getElem?_set_ne (fun e=>by
 rcases h with h | h
 ·exact Nat.lt_irrefl _ (A8 (e▸h) h1)
 ·exact Nat.lt_irrefl _ (A8 h2 (e▸h)))
theorem fO {H:Heap}{a:Nat}{l l':List V}(h:H[a]? = some l):(H.set a l')[a]? = some l':=List.getElem?_set_self (List.getElem?_eq_some_iff.mp h).1
inductive T where
 | txt (s:List Nat)
 | kept (s:List Nat)
 | code (s:List Nat) (b:Bool)
 | span (c:Nat) (ts:List T) (b:Bool)
 | link (ts:List T) (g:Option (List Nat)) (b:Bool)
noncomputable def gA:Option (List Nat)->A
 | none=>.n
 | some s=>.s s
mutual
noncomputable def enc:T->X
 | .txt s=>.at (.s s)
 | .kept s=>.tup [.at (.s [107,101,112,116]),.at (.s s)]
 | .code s b=>.tup [.at (.s [99,111,100,101]),.at (.s s),.at (.b b)]
 | .span c ts b=>.tup [.at (.s [115,112,97,110]),.at (.s [c]),.lst (G9 ts),.at (.b b)]
 | .link ts g b=>.tup [.at (.s [108,105,110,107]),.lst (G9 ts),.at (gA g),.at (.b b)]
noncomputable def G9:List T->List X
 | []=>[]
 | t::ts=>enc t::G9 ts
end
theorem cE:∀ ts:List T,G9 ts=ts.map enc
 | []=>rfl
 | t::ts=>congrArg (enc t::·) (cE ts)
theorem oE (ts us:List T):G9 (ts++us)=G9 ts++G9 us:=Al0 cE ts us
theorem S1 (ts:List T):(G9 ts).length=ts.length:=uT (cE ts)
noncomputable def yL (s:List Nat):V:=.tup [.str [107,101,112,116],.str s]
noncomputable def Bg2 (t:List Nat) (b:Bool):V:=.tup [.str [99,111,100,101],.str t,.bool b]
noncomputable def jR (c a:Nat) (b:Bool):V:=.tup [.str [115,112,97,110],.str [c],.ref a,.bool b]
noncomputable def W8 (a:Nat) (g:Option (List Nat)) (b:Bool):V:=.tup [.str [108,105,110,107],.ref a,aV (gA g),.bool b]
theorem J0.atom {H:Heap}{a:A}{lo hi:Nat}:J0 H (.at a) lo hi (aV a):=rfl
theorem E8.cons {H:Heap}{x:X}{xs:List X}{lo m hi:Nat}{v:V}{l:List V}(h:lo<=m) (h1:J0 H x lo m v) (h2:E8 H xs m hi l):E8 H (x::xs) lo hi (v::l):=⟨v,l,m,rfl,h,h1,h2⟩
theorem E8.atom {H:Heap}{a:A}{xs:List X}{lo hi:Nat}{l:List V}(h2:E8 H xs lo hi l):E8 H (.at a::xs) lo hi (aV a::l):=⟨aV a,l,lo,rfl,A4 _,rfl,h2⟩
theorem nZ {H:Heap}{s:List Nat}{lo hi:Nat}(h:lo<=hi):J0 H (enc (.kept s)) lo hi (yL s):=⟨_,rfl,.atom (a:=.s _) (.atom (a:=.s _) (.nil h))⟩
theorem gN {H:Heap}{s:List Nat}{b:Bool}{lo hi:Nat}(h:lo<=hi):J0 H (enc (.code s b)) lo hi (Bg2 s b):=⟨_,rfl,.atom (a:=.s _) (.atom (a:=.s _) (.atom (a:=.b _) (.nil h)))⟩
theorem N9 {H:Heap}{xs:List X}{lo hi a p q:Nat}{l:List V}(hb:Bd lo hi a p q) (ha:H[a]? = some l) (hr:E8 H xs p q l):J0 H (.lst xs) lo hi (.ref a):=⟨a,l,p,q,rfl,hb,ha,hr⟩
theorem Bd.le {lo hi a p q:Nat}(h:Bd lo hi a p q):lo<=hi:=A3 h.la (B5 h.ah)
theorem Aa3 {H:Heap}{c:Nat}{ts:List T}{b:Bool}{lo hi a p q:Nat}{l:List V}(hb:Bd lo hi a p q) (ha:H[a]? = some l) (hr:E8 H (G9 ts) p q l):J0 H (enc (.span c ts b)) lo hi (jR c a b) :=
 ⟨_,rfl,.atom (a:=.s _) (.atom (a:=.s _) (.cons hb.le (N9 hb ha hr) (.atom (a:=.b _) (.nil (A4 _)))))⟩
theorem nY {H:Heap}{ts:List T}{g:Option (List Nat)}{b:Bool}{lo hi a p q:Nat}{l:List V}(hb:Bd lo hi a p q) (ha:H[a]? = some l) (hr:E8 H (G9 ts) p q l):J0 H (enc (.link ts g b)) lo hi (W8 a g b) :=
 ⟨_,rfl,.atom (a:=.s _) (.cons hb.le (N9 hb ha hr) (.atom (a:=gA g) (.atom (a:=.b _) (.nil (A4 _)))))⟩
theorem E8.addT {H:Heap}{t:T}{v:V}{mid hi:Nat}{ts:List T}{lo:Nat}{l:List V}(h:E8 H (G9 ts) lo mid l) (hh:mid<=hi) (hm:J0 H (enc t) mid hi v):E8 H (G9 (ts++[t])) lo hi (l++[v]):=by
 rw [oE];exact h.add hh hm
abbrev L6:=List (Option Nat×List T)
noncomputable def nx (row:List Nat) (k:Nat):List Nat:=(row.drop (k+1)).take 1
noncomputable def qQ (row:List Nat) (k c:Nat):Bool:=c==91||([42,95,126].contains c&&nx row k==[40])
noncomputable def R8 (row:List Nat) (k:Nat):T×Nat:=match idx? 96 (row.drop (k+1)) with
 | some j=>(.code ((row.drop (k+1)).take j) true,k+1+j+1)
 | none=>(.code (row.drop (k+1)) false,row.length)
noncomputable def O3 (row:List Nat) (k:Nat) (ts:List T):T×Nat:=if nx row k=[40] then (match idx? 41 (row.drop (k+2)) with
 | some j=>(.link ts (some ((row.drop (k+2)).take j)) true,k+2+j+1)
 | none=>(.link ts (some (row.drop (k+2))) false,row.length)) else (.link ts none true,k+1)
noncomputable def O0 (ts:List T) (c:Nat):List T:=match ts.getLast? with
 | some (.txt s)=>ts.dropLast++[.txt (s++[c])]
 | _=>ts++[.txt [c]]
noncomputable def Bl5 (kd:Option Nat) (ts:List T):T:=match kd with
 | some c=>.span c ts false
 | none=>.link ts none false
noncomputable def J2:List T->L6->List T
 | cur,[]=>cur
 | cur,(kd,p)::ctx=>J2 (p++[Bl5 kd cur]) ctx
noncomputable def iN:L6->Bool
 | (some _,_)::_=>true
 | _=>false
noncomputable def cZ:L6->Bool
 | (none,_)::_=>true
 | _=>false
inductive K4 (row:List Nat):Nat->List T->L6->List T->Prop
 | done {k:Nat}{cur:List T}{ctx:L6}:row.length<=k->K4 row k cur ctx (J2 cur ctx)
 | kept {k:Nat}{cur r:List T}{ctx:L6}:row[k]? = some 92->K4 row (k+2) (cur++[.kept (nx row k)]) ctx r->K4 row k cur ctx r
 | code {k:Nat}{cur r:List T}{ctx:L6}:row[k]? = some 96->K4 row (R8 row k).2 (cur++[(R8 row k).1]) ctx r->K4 row k cur ctx r
 | label {k:Nat}{cur r:List T}{ctx:L6}:row[k]? = some 91->ctx.length<12->K4 row (k+1) [] ((none,cur)::ctx) r->K4 row k cur ctx r
 | span {k c:Nat}{cur r:List T}{ctx:L6}:row[k]? = some c->[42,95,126].contains c=true->nx row k=[40]->ctx.length<12->K4 row (k+2) [] ((some c,cur)::ctx) r->K4 row k cur ctx r
 | shutS {k c:Nat}{cur p r:List T}{ctx:L6}:row[k]? = some 41->K4 row (k+1) (p++[.span c cur true]) ctx r->K4 row k cur ((some c,p)::ctx) r
 | shutL {k:Nat}{cur p r:List T}{ctx:L6}:row[k]? = some 93->K4 row (O3 row k cur).2 (p++[(O3 row k cur).1]) ctx r->K4 row k cur ((none,p)::ctx) r
 | plain {k c:Nat}{cur r:List T}{ctx:L6}:row[k]? = some c->c≠92->c≠96->(ctx.length<12->qQ row k c=false)->(c=41->iN ctx=false)->(c=93->cZ ctx=false) ->
   K4 row (k+1) (O0 cur c) ctx r->K4 row k cur ctx r
noncomputable def kn:Option Nat->List Nat
 | some _=>[115,112,97,110]
 | none=>[108,97,98,101,108]
noncomputable def ks:Option Nat->List Nat
 | some c=>[c]
 | none=>[]
noncomputable def frV (kd:Option Nat) (a:Nat):List V:=[.str (kn kd),.str (ks kd),.ref a]
noncomputable def At (H:Heap) (cur:List T) (a hi:Nat):Prop:=∃ l,H[a]? = some l/\E8 H (G9 cur) (a+2) hi l
noncomputable def Lv (H:Heap) (A0:Nat):Nat->List Nat->List T->L6->Prop
 | hi,as,cur,[]=>as=[]/\At H cur A0 hi
 | hi,as,cur,(kd,p)::ctx=>∃ a as',as=a::as'/\A0+2<=a/\H[a+1]? = some (frV kd a)/\At H cur a hi/\Lv H A0 a as' p ctx
noncomputable def here (A0:Nat):List Nat->Nat
 | []=>A0
 | a::_=>a
theorem At.le {H:Heap}{cur:List T}{a hi:Nat}(h:At H cur a hi):a+2<=hi:=by
 obtain ⟨_,_,h⟩:=h;exact h.le
theorem At.to {H G:Heap}{cur:List T}{a hi:Nat}(h:At H cur a hi) (e:G[a]? = H[a]?) (k:L0 H G (a+2) hi):At G cur a hi:=by
 obtain ⟨l,h1,h2⟩:=h;exact ⟨l,e.trans h1,h2.to k⟩
theorem At.up {H:Heap}{cur:List T}{a hi hi':Nat}(h:At H cur a hi) (k:hi<=hi'):At H cur a hi':=by
 obtain ⟨l,h1,h2⟩:=h;exact ⟨l,h1,h2.wide (A4 _) k⟩
theorem Lv.to {H G:Heap}{A0:Nat}:∀ {ctx:L6}{hi:Nat}{as:List Nat}{cur:List T},Lv H A0 hi as cur ctx->G[A0]? = H[A0]?->L0 H G (A0+2) hi->Lv G A0 hi as cur ctx
 | [],hi,as,cur,h,e,k=>⟨h.1,h.2.to e k⟩
 | (kd,p)::ctx,hi,as,cur,h,e,k=>by
  obtain ⟨a,as',h1,h2,h3,h4,h5⟩:=h
  have hle:=h4.le
  exact ⟨a,as',h1,h2,(k _ (A3 h2 (B8 _)) hle).trans h3,h4.to (k _ h2 (Nat.lt_of_succ_lt hle)) (k.sub (A3 h2 (B4 _ _)) (A4 _)),h5.to e (k.sub (A4 _) (B5 (Nat.lt_of_succ_lt hle)))⟩
theorem Lv.up {H:Heap}{A0:Nat}{ctx:L6}{hi hi':Nat}{as:List Nat}{cur:List T}(h:Lv H A0 hi as cur ctx) (k:hi<=hi'):Lv H A0 hi' as cur ctx:=by
 cases ctx with
 | nil=>exact ⟨h.1,h.2.up k⟩
 | cons x ctx =>
  obtain ⟨a,as',h1,h2,h3,h4,h5⟩:=h
  exact ⟨a,as',h1,h2,h3,h4.up k,h5⟩
theorem Lv.head {H:Heap}{A0:Nat}{ctx:L6}{hi:Nat}{as:List Nat}{cur:List T}(h:Lv H A0 hi as cur ctx):At H cur (here A0 as) hi/\(here A0 as=A0∨A0+2<=here A0 as):=by
 cases ctx with
 | nil=>obtain ⟨rfl,h1⟩:=h;exact ⟨h1,Or.inl rfl⟩
 | cons x ctx =>
  obtain ⟨a,as',rfl,h2,h3,h4,h5⟩:=h
  exact ⟨h4,Or.inr h2⟩
theorem Lv.lens {H:Heap}{A0:Nat}:∀ {ctx:L6}{hi:Nat}{as:List Nat}{cur:List T},Lv H A0 hi as cur ctx->as.length=ctx.length
 | [],hi,as,cur,h=>by rw [h.1];rfl
 | (kd,p)::ctx,hi,as,cur,h=>by
  obtain ⟨a,as',rfl,h2,h3,h4,h5⟩:=h
  exact congrArg (· + 1) h5.lens
noncomputable def aF (as:List Nat):List V:=as.reverse.map fun a=>.ref (a+1)
theorem W0 {a:Nat}{as:List Nat}:aF (a::as)=aF as++[.ref (a+1)]:=by unfold aF;simp
theorem vW {as:List Nat}:(aF as).length=as.length:=by unfold aF;simp
structure jK (H0:Heap) (as:List Nat) (cur:List T) (ctx:L6) (H:Heap):Prop where
 len:H0.length+2<=H.length
 old:L0 H0 H 0 H0.length
 opn:H[H0.length+1]? = some (aF as)
 lv:Lv H H0.length H.length as cur ctx
theorem jK.at {H0 as cur ctx H}(h:jK H0 as cur ctx H):At H cur (here H0.length as) H.length:=h.lv.head.1
theorem jK.upd {H0 as cur ctx H}{cur':List T}{l':List V}(h:jK H0 as cur ctx H) (hl:E8 H (G9 cur') (here H0.length as+2) H.length l'):jK H0 as cur' ctx (H.set (here H0.length as) l'):=by
 have hh:=h.lv.head
 have hle:=hl.le
 have hA:H0.length<=here H0.length as:=by
  rcases hh.2 with q | q
  ·rw [q];exact A4 _
  ·exact A3 (B4 _ 2) q
 have hget:(H.set (here H0.length as) l')[here H0.length as]? = some l':=List.getElem?_set_self (Nat.lt_of_succ_lt hle)
 have hat:At (H.set (here H0.length as) l') cur' (here H0.length as) H.length:=⟨l',hget,hl.to (L0.set (Or.inl (Nat.lt_add_of_pos_right (by decide))))⟩
 refine ⟨by rw [List.length_set];exact h.len,h.old.trans (L0.set (Or.inr hA)),?_,?_⟩
 ·have hne:here H0.length as≠H0.length+1:=by
   rcases hh.2 with q | q
   ·rw [q];exact Nat.ne_of_lt (B1 _)
   ·exact Nat.ne_of_gt q
  rw [List.getElem?_set_ne hne];exact h.opn
 ·rw [List.length_set]
  have hlv:=h.lv
  cases ctx with
  | nil=>exact ⟨hlv.1,by obtain ⟨rfl,_⟩:=hlv;exact hat⟩
  | cons x ctx =>
   obtain ⟨a,as',rfl,h2,h3,h4,h5⟩:=hlv
   refine ⟨a,as',rfl,h2,?_,hat,h5.to ?_ (L0.set (Or.inr (A4 _)))⟩
   ·exact (List.getElem?_set_ne (Nat.ne_of_lt (B1 a))).trans h3
   ·exact List.getElem?_set_ne (Nat.ne_of_gt (Nat.lt_of_succ_lt h2))
theorem jK.push {H0 as cur ctx H}{kd:Option Nat}(h:jK H0 as cur ctx H):jK H0 (H.length::as) [] ((kd,cur)::ctx) ((H++[[]]++[frV kd H.length]).set (H0.length+1) (aF as++[V.ref (H.length+1)])):=by
 have hlen:=h.len
 have hl2:(H++[[]]++[frV kd H.length]).length=H.length+2:=by rw [A6,A6];rfl
 have hl1:(H++[[]]).length=H.length+1:=by rw [A6];rfl
 have e1:L0 H (H++[[]]++[frV kd H.length]) 0 H.length:=(L0.one (A4 _)).trans (L0.one (by rw [hl1];exact B8 _))
 have hlt:H0.length<H.length:=Nat.lt_of_succ_lt hlen
 refine ⟨by rw [List.length_set,hl2];exact A3 hlen (B4 _ 2),(h.old.trans (e1.sub (A4 _) (B5 hlt))).trans (L0.set (Or.inr (B8 _))),?_,?_⟩
 ·rw [W0];exact List.getElem?_set_self (by rw [hl2];exact A8 hlen (B4 _ 2))
 ·rw [List.length_set,hl2]
  refine ⟨H.length,as,rfl,hlen,?_,⟨[],?_,.nil (A4 _)⟩,h.lv.to ?_ ((e1.sub (B0 _) (A4 _)).trans (L0.set (Or.inl (B1 _))))⟩
  ·rw [List.getElem?_set_ne (show H0.length+1≠H.length+1 from Nat.ne_of_lt (Nat.succ_lt_succ hlt)),<- hl1];exact E0
  ·rw [List.getElem?_set_ne (Nat.ne_of_lt hlen)];exact J5 E0
  ·rw [List.getElem?_set_ne (Nat.ne_of_gt (B1 _))];exact e1 _ (B0 _) hlt
theorem jK.pop {H0 a as cur kd p ctx H}(h:jK H0 (a::as) cur ((kd,p)::ctx) H) :
  jK H0 as p ctx (H.set (H0.length+1) (aF as))/\(H.set (H0.length+1) (aF as))[a+1]? = some (frV kd a)/\Lv (H.set (H0.length+1) (aF as)) H0.length a as p ctx/\At (H.set (H0.length+1) (aF as)) cur a (H.set (H0.length+1) (aF as)).length:=by
 obtain ⟨_,_,e,h2,h3,h4,h5⟩:=h.lv
 cases e
 have hle:=h4.le
 have hA:(H.set (H0.length+1) (aF as))[H0.length]? = H[H0.length]?:=List.getElem?_set_ne (Nat.ne_of_gt (B1 _))
 have ev:∀ {hi:Nat},L0 H (H.set (H0.length+1) (aF as)) (H0.length+2) hi:=L0.set (Or.inl (B1 _))
 have hlv:=h5.to hA ev
 refine ⟨⟨by rw [List.length_set];exact h.len,h.old.trans (L0.set (Or.inr (B8 _))),List.getElem?_set_self h.len,by rw [List.length_set];exact hlv.up (B5 (Nat.lt_of_succ_lt hle))⟩,?_,hlv,?_⟩
 ·rw [List.getElem?_set_ne (Nat.ne_of_lt (Nat.lt_succ_of_lt h2))];exact h3
 ·rw [List.length_set];exact h4.to (List.getElem?_set_ne (Nat.ne_of_lt h2)) (ev.sub (A3 h2 (B4 _ 2)) (A4 _))
noncomputable def Z4 (l:List V) (c:Nat):List V:=match l.getLast? with
 | some (.str s)=>l.dropLast++[.str (s++[c])]
 | _=>l++[.str [c]]
theorem Ax0 (l:List V) (s:List Nat) (c:Nat):Z4 (l++[.str s]) c=l++[.str (s++[c])]:=by
 unfold Z4;simp
theorem Aw9 (l:List V) (t:List V) (c:Nat):Z4 (l++[.tup t]) c=l++[.tup t]++[.str [c]]:=by
 unfold Z4;simp
noncomputable def Ci5 (l:List V):Prop:=l=[]∨(∃ r s,l=r++[.str s]/\s.length+1<=I8)∨∃ r t,l=r++[.tup t]
theorem fZ {l:List V}{c:V}:decide ((0:Int)<((l++[c]).length:Nat))=true:=by
 rw [A6];exact decide_eq_true (Int.natCast_pos.mpr (Nat.succ_pos _))
theorem Bs1 {n a c:Nat}{l:List V}{Q:C2}{H:Heap}(ha:H[a]? = some l) (hl:l.length<I8) (he:Ci5 l) (h:Q .none (H.set a (Z4 l c))):C1 P (n+1) "put_plain" [.ref a,.str [c]] Q H:=by
 refine wN ?_
 rcases he with rfl | ⟨r,s,rfl,hs⟩ | ⟨r,t,rfl⟩
 ·exact D4 (E5 (b:=false) (b2:=true) (C7 (K0 (fun zz h=>h) (J4 ha)) (fun zz h=>h) T0) fun q=>nomatch q) (I0 (fun zz h=>h) (fun zz h=>h) ha hl h)
 ·rw [Ax0] at h
  refine D5 (E5 (b:=true) (b2:=true) (J6 (C7 (K0 (fun zz h=>h) (J4 ha)) (fun zz h=>h) T0) fZ) fun zz=>G8 (J6 (nA (E4 (fun zz h=>h) (fun zz h=>h) (J8 ha))) rfl))
   (Bp5 (D6 (E4 (fun zz h=>h) (fun zz h=>h) (J8 ha)) (fun zz h=>h) (aI hs)) (fun zz h=>h) (fun zz h=>h) ha (by rw [A6];exact oW) ?_)
  rw [List.set_append_right _ _ (A4 _),Nat.sub_self]
  exact h
 ·rw [Aw9] at h
  exact D4 (E5 (b:=true) (b2:=false) (J6 (C7 (K0 (fun zz h=>h) (J4 ha)) (fun zz h=>h) T0) fZ) fun zz=>G8 (J6 (nA (E4 (fun zz h=>h) (fun zz h=>h) (J8 ha))) rfl)) (I0 (fun zz h=>h) (fun zz h=>h) ha hl h)
theorem uN (row:List Nat) (k:Nat):slice row (some ((k:Int)+1)) (some ((k:Int)+2))=nx row k:=by
 rw [aC (by lia) (by lia)]
 show (row.drop (k+1)).take (k+2 - (k+1))=_
 rw [Nat.add_sub_add_left];rfl
section
variable {H0 H:Heap}{as:List Nat}{cur:List T}{ctx:L6}{n:Nat}
theorem vV {a:Nat}:decide ((0:Int)<((aF (a::as)).length:Nat))=true:=by rw [W0];exact fZ
theorem mF (h:jK H0 as cur ctx H) (Q:C2) (k:Q (.ref (here H0.length as)) H):C1 P (n+1) "here_of" [.ref H0.length,.ref (H0.length+1)] Q H:=by
 refine Aq4 ?_
 have ho:=h.opn
 have hlv:=h.lv
 cases ctx with
 | nil =>
  obtain ⟨rfl,_⟩:=hlv
  exact C3 (C7 (K0 (fun zz h=>h) (J4 ho)) (fun zz h=>h) T0) k
 | cons x ctx =>
  obtain ⟨kd,p⟩:=x
  obtain ⟨a,as',rfl,h2,h3,_⟩:=hlv
  exact D5 (J6 (C7 (K0 (fun zz h=>h) (J4 ho)) (fun zz h=>h) T0) vV) (I6 (E4 (E4 (fun zz h=>h) (fun zz h=>h) (J8 (W0▸ho))) (fun zz h=>h) (S3 (i:=2) h3 rfl)) k)
theorem Ax4 {w:List Nat}(h:jK H0 as cur ctx H) (Q:C2) (k:Q (.bool (match ctx with | []=>false | (kd,_)::_=>kn kd==w)) H):C1 P (n+1) "last_is" [.ref (H0.length+1),.str w] Q H:=by
 refine Aq1 ?_
 have ho:=h.opn
 have hlv:=h.lv
 cases ctx with
 | nil =>
  obtain ⟨rfl,_⟩:=hlv
  exact I6 (E5 (b:=false) (b2:=true) (C7 (K0 (fun zz h=>h) (J4 ho)) (fun zz h=>h) T0) fun q=>nomatch q) k
 | cons x ctx =>
  obtain ⟨kd,p⟩:=x
  obtain ⟨a,as',rfl,h2,h3,_⟩:=hlv
  exact I6 (E5 (b:=true) (J6 (C7 (K0 (fun zz h=>h) (J4 ho)) (fun zz h=>h) T0) vV) fun zz=>G8 (C7 (E4 (E4 (fun zz h=>h) (fun zz h=>h) (J8 (W0▸ho))) (fun zz h=>h) (S3 (i:=0) h3 rfl)) (fun zz h=>h) V1)) k
theorem sT (h:jK H0 as cur ctx H) (Q:C2) (k:Q (.bool (iN ctx)) H):C1 P (n+1) "last_is" [.ref (H0.length+1),.str [115,112,97,110]] Q H:=by
 refine Ax4 h Q ?_
 match ctx with
 | []=>exact k
 | (some _,_)::_=>exact k
 | (none,_)::_=>exact k
theorem pJ (h:jK H0 as cur ctx H) (Q:C2) (k:Q (.bool (cZ ctx)) H):C1 P (n+1) "last_is" [.ref (H0.length+1),.str [108,97,98,101,108]] Q H:=by
 refine Ax4 h Q ?_
 match ctx with
 | []=>exact k
 | (some _,_)::_=>exact k
 | (none,_)::_=>exact k
theorem cD {row:List Nat}{i c:Nat}(h:jK H0 as cur ctx H) (hg:row[i]? = some c) (Q:C2) (k:Q (.bool (decide (ctx.length<12)&&qQ row i c)) H):C1 P (n+1) "opens" [.str row,.int i,.ref (H0.length+1)] Q H:=by
 refine Bt7 ?_
 have hl:((aF as).length:Int)=(ctx.length:Nat):=by rw [vW,h.lv.lens]
 have hge:∀ {C:Calls},Ev C [some (V.str row),some (V.int i),some (V.ref (H0.length+1))] H (.cmp .ge (.len (.var 2)) (.glob "MOST_OPEN" 12)) (.bool (decide ((12:Int)<=(aF as).length))):=C7 (K0 (fun zz h=>h) (J4 h.opn)) (fun zz h=>h) Cj2
 rw [hl] at hge
 by_cases h12:ctx.length<12
 ·rw [decide_eq_true h12,Bool.true_and] at k
  refine C3 (J6 hge (decide_eq_false (fun q=>Nat.not_le_of_lt h12 (Int.ofNat_le.mp q)))) (I6 (R1 (J6 (C7 (E4 (fun zz h=>h) (fun zz h=>h) (As7 hg)) (fun zz h=>h) V1) ?_) fun zz=>Y3 (E5 (C7 (E4 (fun zz h=>h) (fun zz h=>h) (As7 hg)) (fun zz h=>h) Cg9) fun zz=>G8 (J6 (fun zz h=>h) (congrArg (· == [40]) (uN row i))))) k)
  simp
 ·rw [decide_eq_false h12] at k
  exact D5 (J6 hge (decide_eq_true (Int.ofNat_le.mpr (Nat.le_of_not_lt h12)))) k
end
theorem Cf4 {n k:Nat}{row:List Nat}{Q:C2}{H:Heap}(h:∀ v,(∀ G lo hi,lo<=hi->J0 G (enc (R8 row k).1) lo hi v)->Q (.tup [v,.int (R8 row k).2]) H):C1 P (n+1) "code_at" [.str row,.int k] Q H:=by
 refine Aq5 (C6 (Bi2 (fun zz h=>h) (fun zz h=>h) (fun zz h=>h) (Int.le_add_one (Int.natCast_nonneg k))) ?_)
 unfold R8 at h
 have e1:rO row 96 ((k:Int)+1).toNat=(match idx? 96 (row.drop (k+1)) with | some j=>((k+1+j:Nat):Int) | none=>-1):=rfl
 rw [e1]
 cases hi:idx? 96 (row.drop (k+1)) with
 | none =>
  rw [hi] at h
  have es:slice row (some ((k:Int)+1)) none=row.drop (k+1):=W1 (Int.le_add_one (Int.natCast_nonneg k))
  exact D5 (fun zz h=>h) (I6 (lT (fun zz h=>h) (congrArg (fun s=>V.tup [V.tup [V.str [99,111,100,101],V.str s,V.bool false],V.int row.length]) es)) (h (Bg2 (row.drop (k+1)) false) fun zz zz zz=>gN))
 | some j =>
  rw [hi] at h
  have es:slice row (some ((k:Int)+1)) (some ((k+1+j:Nat):Int))=(row.drop (k+1)).take j:=by
   rw [aC (Int.le_add_one (Int.natCast_nonneg k)) (Int.natCast_nonneg _)]
   show (row.drop (k+1)).take (k+1+j - (k+1))=_
   rw [Nat.add_sub_cancel_left]
  exact C3 (J6 (C7 (fun zz h=>h) (fun zz h=>h) X3) (decide_eq_false (Int.not_lt.mpr (Int.natCast_nonneg _)))) (I6 (lT (fun zz h=>h) (congrArg (fun s=>V.tup [V.tup [V.str [99,111,100,101],V.str s,V.bool true],V.int ((k+1+j:Nat)+1)]) es)) (h (Bg2 ((row.drop (k+1)).take j) true) fun zz zz zz=>gN))
theorem Ce3 {n k a:Nat}{row:List Nat}{ts:List T}{Q:C2}{H:Heap}(h:∀ g b,(O3 row k ts).1=.link ts g b->Q (.tup [W8 a g b,.int (O3 row k ts).2]) H):C1 P (n+1) "link_at" [.str row,.int k,.ref a] Q H:=by
 refine Ap6 ?_
 have p2:(0:Int)<=(k:Int)+2:=Int.natCast_nonneg (k+2)
 unfold O3 at h
 by_cases hn:nx row k=[40]
 ·rw [if_pos hn] at h
  refine C3 (J6 (fun zz h=>h) (by rw [uN,hn];rfl)) (C6 (Bi2 (fun zz h=>h) (fun zz h=>h) (fun zz h=>h) p2) ?_)
  have e1:rO row 41 ((k:Int)+2).toNat=(match idx? 41 (row.drop (k+2)) with | some j=>((k+2+j:Nat):Int) | none=>-1):=rfl
  rw [e1]
  cases hi:idx? 41 (row.drop (k+2)) with
  | none =>
   rw [hi] at h
   have es:slice row (some ((k:Int)+2)) none=row.drop (k+2):=W1 p2
   exact D5 (fun zz h=>h) (I6 (lT (fun zz h=>h) (congrArg (fun s=>V.tup [V.tup [V.str [108,105,110,107],V.ref a,V.str s,V.bool false],V.int row.length]) es)) (h _ _ rfl))
  | some j =>
   rw [hi] at h
   have es:slice row (some ((k:Int)+2)) (some ((k+2+j:Nat):Int))=(row.drop (k+2)).take j:=by
    rw [aC p2 (Int.natCast_nonneg _)]
    show (row.drop (k+2)).take (k+2+j - (k+2))=_
    rw [Nat.add_sub_cancel_left]
   exact C3 (J6 (C7 (fun zz h=>h) (fun zz h=>h) X3) (decide_eq_false (Int.not_lt.mpr (Int.natCast_nonneg _)))) (I6 (lT (fun zz h=>h) (congrArg (fun s=>V.tup [V.tup [V.str [108,105,110,107],V.ref a,V.str s,V.bool true],V.int ((k+2+j:Nat)+1)]) es)) (h _ _ rfl))
 ·rw [if_neg hn] at h
  exact D5 (J6 (fun zz h=>h) (by rw [uN];simpa using hn)) (h none true rfl)
theorem Aa4 {H:Heap}{t:T}{lo hi:Nat}{v:V}(h:J0 H (enc t) lo hi v):(∃ s,t=.txt s/\v=.str s)∨∃ w,v=.tup w/\∀ us c,O0 (us++[t]) c=us++[t]++[.txt [c]]:=by
 have e:∀ us:List T,(us++[t]).getLast? = some t:=fun us=>by simp
 cases t with
 | txt s=>exact Or.inl ⟨s,rfl,h⟩
 | kept s=>obtain ⟨w,e1,_⟩:=h;exact Or.inr ⟨w,e1,fun us c=>by unfold O0;rw [e]⟩
 | code s b=>obtain ⟨w,e1,_⟩:=h;exact Or.inr ⟨w,e1,fun us c=>by unfold O0;rw [e]⟩
 | span c ts b=>obtain ⟨w,e1,_⟩:=h;exact Or.inr ⟨w,e1,fun us c=>by unfold O0;rw [e]⟩
 | link ts g b=>obtain ⟨w,e1,_⟩:=h;exact Or.inr ⟨w,e1,fun us c=>by unfold O0;rw [e]⟩
theorem cB {us:List T}{s:List Nat}{c:Nat}:O0 (us++[.txt s]) c=us++[.txt (s++[c])]:=by
 unfold O0;simp
theorem Aa2 {H:Heap}{cur:List T}{lo hi:Nat}{l:List V}(h:E8 H (G9 cur) lo hi l):(cur=[]/\l=[])∨∃ us t r v m,cur=us++[t]/\l=r++[v]/\E8 H (G9 us) lo m r/\m<=hi/\J0 H (enc t) m hi v:=by
 rcases List.eq_nil_or_concat cur with rfl | ⟨us,t,e⟩
 ·exact Or.inl ⟨rfl,h.2⟩
 ·rw [List.concat_eq_append] at e
  subst e
  rw [oE] at h
  obtain ⟨a,b,m,rfl,h1,h2⟩:=h.cut
  obtain ⟨v,r,k,rfl,c3,h3,h4⟩:=h2
  rw [h4.2]
  exact Or.inr ⟨us,t,a,v,m,rfl,rfl,h1,A3 c3 h4.1,h3.wide (A4 _) h4.1⟩
theorem Cd3 {H:Heap}{cur:List T}{l:List V}{c lo hi:Nat}(h:E8 H (G9 cur) lo hi l):E8 H (G9 (O0 cur c)) lo hi (Z4 l c):=by
 rcases Aa2 h with ⟨rfl,rfl⟩ | ⟨us,t,r,v,m,rfl,rfl,h1,h2,h3⟩
 ·exact .one h.le rfl
 ·rcases Aa4 h3 with ⟨s,rfl,rfl⟩ | ⟨w,rfl,e⟩
  ·rw [cB,Ax0]
   exact h1.addT h2 rfl
  ·rw [e,Aw9]
   exact h.addT (A4 _) rfl
structure BdL (k:Nat) (ts:List T):Prop where
 len:ts.length<=k
 txt:∀ s,T.txt s∈ts->s.length<=k
theorem BdL.nil {k:Nat}:BdL k []:=⟨B0 _,fun s hs=>nomatch hs⟩
theorem BdL.le {k m:Nat}{ts:List T}(h:BdL k ts) (hm:k<=m):BdL m ts:=⟨A3 h.1 hm,fun s hs=>A3 (h.2 s hs) hm⟩
theorem BdL.add {k m:Nat}{ts:List T}{t:T}(h:BdL k ts) (hm:k<m) (ht:∀ s,t=.txt s->s.length<=m):BdL m (ts++[t]):=by
 refine ⟨by rw [A6];exact A9 h.1 hm,fun s hs=>?_⟩
 rcases List.mem_append.mp hs with q | q
 ·exact A3 (h.2 s q) (B5 hm)
 ·exact ht s (List.mem_singleton.mp q).symm
theorem BdL.put {k c:Nat}{ts:List T}(h:BdL k ts):BdL (k+1) (O0 ts c):=by
 rcases List.eq_nil_or_concat ts with rfl | ⟨us,t,e⟩
 ·exact h.add (t:=.txt [c]) (B1 _) fun s e=>by cases e;exact B3 (B0 _)
 ·rw [List.concat_eq_append] at e
  subst e
  have hadd:=h.add (m:=k+1) (t:=.txt [c]) (B1 _) (fun s e=>by cases e;exact B3 (B0 _))
  have hl:=h.len
  cases t with
  | txt s =>
   rw [cB]
   have hs:=h.txt s (List.mem_append_right _ (.head _))
   have hus:BdL k us:=⟨by rw [A6] at hl;exact Nat.le_of_succ_le hl,fun s hs=>h.txt s (List.mem_append_left _ hs)⟩
   exact hus.add (B1 _) fun s' e=>by cases e;rw [A6];exact B3 hs
  | kept s=>unfold O0;simp only [List.getLast?_append,List.getLast?_singleton,Option.some_or];exact hadd
  | code s b=>unfold O0;simp only [List.getLast?_append,List.getLast?_singleton,Option.some_or];exact hadd
  | span c' ts b=>unfold O0;simp only [List.getLast?_append,List.getLast?_singleton,Option.some_or];exact hadd
  | link ts g b=>unfold O0;simp only [List.getLast?_append,List.getLast?_singleton,Option.some_or];exact hadd
theorem Co3 {H:Heap}{k lo hi:Nat}{cur:List T}{l:List V}(hb:BdL k cur) (h:E8 H (G9 cur) lo hi l) (hk:k<I8):Ci5 l/\l.length<I8:=by
 refine ⟨?_,by rw [h.len,S1];exact A9 hb.1 hk⟩
 rcases Aa2 h with ⟨rfl,rfl⟩ | ⟨us,t,r,v,m,rfl,rfl,h1,h2,h3⟩
 ·exact Or.inl rfl
 ·rcases Aa4 h3 with ⟨s,rfl,rfl⟩ | ⟨w,rfl,e⟩
  ·exact Or.inr (Or.inl ⟨r,s,rfl,A9 (hb.2 s (List.mem_append_right _ (.head _))) hk⟩)
  ·exact Or.inr (Or.inr ⟨r,w,rfl⟩)
structure Bds (k:Nat) (cur:List T) (ctx:L6):Prop where
 cur:BdL k cur
 ctx:∀ x∈ctx,BdL k x.2
theorem Bds.to {k m:Nat}{cur cur':List T}{ctx:L6}(h:Bds k cur ctx) (hm:k<=m) (h':BdL m cur'):Bds m cur' ctx:=⟨h',fun x hx=>(h.ctx x hx).le hm⟩
theorem jK.shut {H0 a as cur kd p ctx H}(h:jK H0 (a::as) cur ((kd,p)::ctx) H) {t:T}{v:V}
  (ht:∀ G,At G cur a G.length->J0 G (enc t) a G.length v):∃ l,(H.set (H0.length+1) (aF as))[here H0.length as]? = some l/\l.length=p.length/\jK H0 as (p++[t]) ctx ((H.set (H0.length+1) (aF as)).set (here H0.length as) (l++[v])):=by
 obtain ⟨h1,_,h2,h3⟩:=h.pop
 obtain ⟨l,g1,g2⟩:=h2.head.1
 exact ⟨l,g1,by rw [g2.len,S1],h1.upd (g2.addT (B5 (Nat.lt_of_succ_lt h3.le)) (ht _ h3))⟩
theorem Ay8 {G:Heap}{cur:List T}{a c:Nat}{b:Bool}(h:At G cur a G.length):J0 G (enc (.span c cur b)) a G.length (jR c a b):=by
 have hle:=h.le
 obtain ⟨l,h1,h2⟩:=h
 exact Aa3 ⟨A4 _,Nat.lt_of_succ_lt hle,B4 _ _,A4 _⟩ h1 h2
theorem Ay9 {G:Heap}{cur:List T}{a:Nat}{g:Option (List Nat)}{b:Bool}(h:At G cur a G.length):J0 G (enc (.link cur g b)) a G.length (W8 a g b):=by
 have hle:=h.le
 obtain ⟨l,h1,h2⟩:=h
 exact nY ⟨A4 _,Nat.lt_of_succ_lt hle,B4 _ _,A4 _⟩ h1 h2
noncomputable def PQ (H0:Heap) (res:List T) (Q:C2):Prop:=∀ H' l,H'[H0.length]? = some l->E8 H' (G9 res) (H0.length+2) H'.length l->L0 H0 H' 0 H0.length->Q (.ref H0.length) H'
structure ES where
 as:List Nat
 cur:List T
 ctx:L6
 e2:Option V
 e3:Option V
theorem Bu6 {n K:Nat}{H0 H:Heap}{as:List Nat}{cur:List T}{ctx:L6}{Q:C2}(hst:jK H0 as cur ctx H) (hK:K<2000000) (hb:Bds K cur ctx) (h:PQ H0 (J2 cur ctx) Q) :
  C1 P (n+2) "ended" [.ref H0.length,.ref (H0.length+1)] Q H:=by
 refine Bt8 (I3 (mR (σ:=ES) (fun s=>[some (.ref H0.length),some (.ref (H0.length+1)),s.e2,s.e3]) (fun s G=>jK H0 s.as s.cur s.ctx G/\J2 s.cur s.ctx=J2 cur ctx/\∀ x∈s.ctx,x.2.length<=K) (fun s=>s.ctx.length) (fun s G hI K' hK'=>?_) ⟨as,cur,ctx,none,none⟩ ⟨hst,rfl,fun x hx=>(hb.ctx x hx).len⟩))
 obtain ⟨as,cur',ctx',e2,e3⟩:=s
 have ho:=hI.1.opn
 have hlv:=hI.1.lv
 cases ctx' with
 | nil =>
  obtain ⟨rfl,l,g1,g2⟩:=hlv
  refine .stop (C7 (K0 (fun zz h=>h) (J4 ho)) (fun zz h=>h) T0) (h G l g1 ?_ hI.1.old)
  rw [<- hI.2.1];exact g2
 | cons x ctx' =>
  obtain ⟨kd,p⟩:=x
  obtain ⟨a,as',rfl,_⟩:=hlv
  obtain ⟨hst1,hf1,_⟩:=hI.1.pop
  refine .go (J6 (C7 (K0 (fun zz h=>h) (J4 ho)) (fun zz h=>h) T0) vV) (Bg4 (fun zz h=>h) (W0▸ho) (C6 (D3 (fun zz h=>h) (mF hst1)) ?_))
  have hp:=hI.2.2 (kd,p) (.head _)
  have hlim:I8=16777216:=rfl
  have next:∀ {t:T}{G':Heap}{e2 e3:Option V},t=Bl5 kd cur'->jK H0 as' (p++[t]) ctx' G'->K' [some (.ref H0.length),some (.ref (H0.length+1)),e2,e3] G':=fun {t G' e2 e3} et g=>hK' ⟨as',p++[t],ctx',e2,e3⟩ G' (B1 _) ⟨g,by rw [et];exact hI.2.1,fun x hx=>hI.2.2 x (.tail _ hx)⟩
  cases kd with
  | some c =>
   obtain ⟨l,g1,g2,g3⟩:=hI.1.shut (t:=.span c cur' false) (v:=jR c a false) fun G h=>Ay8 h
   exact D5 (J6 (C7 (E4 (fun zz h=>h) (fun zz h=>h) (S3 (i:=0) hf1 rfl)) (fun zz h=>h) V1) rfl) (I0 (fun zz h=>h) (fI (C9 (fun zz h=>h) (C9 (E4 (fun zz h=>h) (fun zz h=>h) (S3 (i:=1) hf1 rfl)) (C9 (E4 (fun zz h=>h) (fun zz h=>h) (S3 (i:=2) hf1 rfl)) (C9 (fun zz h=>h) K5))))) g1 (by exact M4 (M9 (Nat.le_of_eq g2) (M9 hp (M9 hK (Nat.le_of_eq hlim.symm))))) (next rfl g3))
  | none =>
   obtain ⟨l,g1,g2,g3⟩:=hI.1.shut (t:=.link cur' none false) (v:=W8 a none false) fun G h=>Ay9 h
   exact D4 (J6 (C7 (E4 (fun zz h=>h) (fun zz h=>h) (S3 (i:=0) hf1 rfl)) (fun zz h=>h) V1) rfl) (I0 (fun zz h=>h) (fI (C9 (fun zz h=>h) (C9 (E4 (fun zz h=>h) (fun zz h=>h) (S3 (i:=2) hf1 rfl)) (C9 (fun zz h=>h) (C9 (fun zz h=>h) K5))))) g1 (by exact M4 (M9 (Nat.le_of_eq g2) (M9 hp (M9 hK (Nat.le_of_eq hlim.symm))))) (next rfl g3))
theorem gQ {row:List Nat}{k:Nat}(hk:k<row.length):k<(R8 row k).2:=by
 unfold R8
 split
 ·exact Nat.lt_succ_of_le (A3 (B8 k) (B4 _ _))
 ·exact hk
theorem Al1 {c:Nat}:∀ {l:List Nat}{j:Nat},idx? c l=some j->j<l.length
 | [],_,h=>by cases h
 | x::l,j,h=>by
  replace h:(if x=c then some 0 else (idx? c l).map (· + 1))=some j:=h
  by_cases hx:x=c
  ·rw [if_pos hx] at h;cases h;exact Nat.succ_pos _
  ·rw [if_neg hx] at h
   obtain ⟨i,hi,rfl⟩:=Option.map_eq_some_iff.mp h
   exact Nat.succ_lt_succ (Al1 hi)
set_option tactic.hygienic true in
theorem Ac1 {row:List Nat}{k:Nat}(hk:k<row.length):(R8 row k).2<=row.length:=by
 unfold R8
 split
 ·rename_i j hj
  have:=Al1 hj
  rw [List.length_drop] at this
  exact Nat.add_comm (k+1) j▸Nat.add_lt_of_lt_sub this
 ·exact A4 _
set_option tactic.hygienic true in
theorem Aa7 {row:List Nat}{k:Nat}{ts:List T}(hk:k<row.length):(O3 row k ts).2<=row.length:=by
 unfold O3
 split
 ·split
  ·rename_i j hj
   have:=Al1 hj
   rw [List.length_drop] at this
   exact Nat.add_comm (k+2) j▸Nat.add_lt_of_lt_sub this
  ·exact A4 _
 ·exact hk
theorem Bu8 {row:List Nat}{k:Nat}(s:List Nat):(R8 row k).1≠.txt s:=by
 unfold R8
 split<;>exact fun e=>by cases e
theorem gP {row:List Nat}{k:Nat}{ts:List T}(hk:k<row.length):k<(O3 row k ts).2:=by
 unfold O3
 split
 ·split
  ·exact Nat.lt_succ_of_le (A3 (B4 k 2) (B4 _ _))
  ·exact hk
 ·exact B1 _
theorem Ap1 {row:List Nat}{k:Nat}{ts:List T}:∃ g b,(O3 row k ts).1=.link ts g b:=by
 unfold O3
 split
 ·split<;>exact ⟨_,_,rfl⟩
 ·exact ⟨_,_,rfl⟩
structure PS where
 k:Nat
 as:List Nat
 cur:List T
 ctx:L6
 e4:Option V
 e5:Option V
 e6:Option V
 e7:Option V
structure Cx4 (row:List Nat) (res:List T) (H0:Heap) (k:Nat) (as:List Nat) (cur:List T) (ctx:L6) (H:Heap):Prop where
 le:k<=row.length+1
 pars:K4 row k cur ctx res
 bds:Bds k cur ctx
 st:jK H0 as cur ctx H
theorem gO {n:Nat}{row:List Nat}{res:List T}{Q:C2}{H0:Heap}(hr:row.length<=1000000) (hp:K4 row 0 [] [] res) (h:PQ H0 res Q):C1 P (n+3) "parts_of" [.str row] Q H0:=by
 have hlim:I8=16777216:=rfl
 have hH:(H0++[[]]).length=H0.length+1:=by rw [A6];rfl
 have hst0:jK H0 [] [] [] (H0++[[]]++[[]]):=⟨by rw [A6,hH];exact A4 _,(L0.one (A4 _)).trans (L0.one (by rw [hH];exact B8 _)),by rw [<- hH];exact E0,rfl,[],J5 E0,.nil (by rw [A6,hH];exact A4 _)⟩
 refine Af1 (J9 (H1:=H0++[[]]) (fun zz h=>h) (J9 (v:=.ref (H0.length+1)) (H1:=H0++[[]]++[[]]) (fun zz h=>by rw [<- hH] at h;exact h) (C6 (fun zz h=>h) (I3 (mR (σ:=PS)
  (fun s=>[some (.str row),some (.ref H0.length),some (.ref (H0.length+1)),some (.int s.k),s.e4,s.e5,s.e6,s.e7]) (fun s G=>Cx4 row res H0 s.k s.as s.cur s.ctx G) (fun s=>row.length+1 - s.k) (fun s G hI K hK=>?_) ⟨0,[],[],[],none,none,none,none⟩ ⟨B0 _,hp,⟨.nil,fun x hx=>nomatch hx⟩,hst0⟩)))))
 obtain ⟨k,as,cur,ctx,e4,e5,e6,e7⟩:=s
 obtain ⟨hkb,hp,hb,hst⟩:=hI
 dsimp only at hkb hp hb hst hK ⊢
 by_cases hk:k<row.length
 ·have hg:row[k]? = some row[k]:=List.getElem?_eq_getElem hk
  generalize row[k]=c at hg
  have go:∀ {k' as' cur' ctx' G' e4 e5 e6 e7},k<k'->k'<=row.length+1->K4 row k' cur' ctx' res->Bds k' cur' ctx'->jK H0 as' cur' ctx' G'->K [some (.str row),some (.ref H0.length),some (.ref (H0.length+1)),some (.int (k':Nat)),e4,e5,e6,e7] G':=fun {k' as' cur' ctx' G' e4 e5 e6 e7} h1 h2 h3 h4 h5=>hK ⟨k',as',cur',ctx',e4,e5,e6,e7⟩ G' (Nat.sub_lt_sub_left (A8 h1 h2) h1) ⟨h2,h3,h4,h5⟩
  clear hK
  have same:∀ {d:Nat},row[k]? = some d->c=d:=fun hd=>Option.some.inj (hg.symm.trans hd)
  obtain ⟨l,ha,hra⟩:=hst.at
  have hend:=Co3 hb.cur hra (by exact M4 (M9 hkb (M9 hr (Nat.le_of_eq hlim.symm))))
  have cat:∀ {t:T}{v:V},J0 G (enc t) G.length G.length v->jK H0 as (cur++[t]) ctx (G.set (here H0.length as) (l++[v])):=fun hv=>hst.upd (hra.addT (A4 _) hv)
  refine .go (J6 (C7 (fun zz h=>h) (fun zz h=>h) X3) (decide_eq_true (Int.ofNat_lt.mpr hk))) (C6 (E4 (fun zz h=>h) (fun zz h=>h) (As7 hg)) (C6 (D3 (fun zz h=>h) (mF hst)) ?_))
  cases hp with
  | done hd=>exact absurd hk (Nat.not_lt.mpr hd)
  | kept hc hp =>
   obtain rfl:=same hc
   exact D5 (fun zz h=>h) (I0 (fun zz h=>h) (lT (fun zz h=>h) (congrArg (fun s=>V.tup [V.str [107,101,112,116],V.str s]) (uN row k))) ha hend.2 (go (k':=k+2) (Nat.lt_add_of_pos_right (by decide)) (B3 hk) hp (hb.to (B4 _ 2) (hb.cur.add (Nat.lt_add_of_pos_right (by decide)) fun s e=>nomatch e)) (cat (nZ (A4 _)))))
  | code hc hp =>
   obtain rfl:=same hc
   have h1:=gQ hk
   refine D4 (fun zz h=>h) (D5 (fun zz h=>h) (bZ (fun zz h=>h) (Cf4 fun v hv=>I0 (fun zz h=>h) (fun zz h=>h) ha hend.2 (go h1 (Nat.le_succ_of_le (Ac1 hk)) hp (hb.to (B5 h1) (hb.cur.add h1 fun s e=>absurd e (Bu8 s))) (cat (hv _ _ _ (A4 _)))))))
  | label hc h12 hp =>
   obtain rfl:=same hc
   have hop:=cD (n:=n+1) hst hc
   rw [decide_eq_true h12] at hop
   have hpush:=hst.push (kd:=none)
   have e2:(G++[[]]).length=G.length+1:=by rw [A6];rfl
   rw [<- e2] at hpush
   refine D4 (fun zz h=>h) (D4 (fun zz h=>h) (D5 (D3 (fun zz h=>h) hop) (D5 (fun zz h=>h) (I0 (H1:=G++[[]]++[frV none G.length]) (v:=V.ref (G++[[]]:Heap).length) (fun zz h=>h) (fun zz h=>h) (J5 (J5 hst.opn)) (by rw [vW,hst.lv.lens];exact M4 (M9 h12 (Nat.le_of_eq hlim.symm))) (go (B1 k) (Nat.le_succ_of_le hk) hp ⟨.nil,fun x hx=>?_⟩ hpush)))))
   cases hx with
   | head=>exact hb.cur.le (B8 _)
   | tail _ hx=>exact (hb.ctx x hx).le (B8 _)
  | @span _ d _ _ _ hc hcc hn h12 hp =>
   obtain rfl:=same hc
   have hop:=cD (n:=n+1) hst hc
   have h91:c≠91:=fun e=>by subst e;cases hcc
   have h92:c≠92:=fun e=>by subst e;cases hcc
   have h96:c≠96:=fun e=>by subst e;cases hcc
   have eop:qQ row k c=true:=by unfold qQ;rw [hcc,hn];simp
   rw [decide_eq_true h12,eop] at hop
   have hpush:=hst.push (kd:=some c)
   have e2:(G++[[]]).length=G.length+1:=by rw [A6];rfl
   rw [<- e2] at hpush
   have hk2:k+2<=row.length+1:=B3 hk
   refine D4 (J6 (fun zz h=>h) (by simpa using h92)) (D4 (J6 (fun zz h=>h) (by simpa using h96)) (D5 (D3 (fun zz h=>h) hop) (D4 (J6 (fun zz h=>h) (by simpa using h91)) (I0 (H1:=G++[[]]++[frV (some c) G.length]) (v:=V.ref (G++[[]]:Heap).length) (fun zz h=>h) (fun zz h=>h) (J5 (J5 hst.opn)) (by rw [vW,hst.lv.lens];exact M4 (M9 h12 (Nat.le_of_eq hlim.symm))) (go (k':=k+2) (Nat.lt_add_of_pos_right (by decide)) hk2 hp ⟨.nil,fun x hx=>?_⟩ hpush)))))
   cases hx with
   | head=>exact hb.cur.le (B4 _ _)
   | tail _ hx=>exact (hb.ctx x hx).le (B4 _ _)
  | @shutS _ d _ p _ ctx hc hp =>
   obtain rfl:=same hc
   obtain ⟨a,as',rfl,_⟩:=hst.lv
   obtain ⟨hst1,hf1,_⟩:=hst.pop
   obtain ⟨l',g1,g2,g3⟩:=hst.shut (t:=.span d cur true) (v:=jR d a true) fun G h=>Ay8 h
   have hop:=cD (n:=n+1) hst hc
   have eop:(decide (((some d,p)::ctx:L6).length<12)&&qQ row k 41)=false:=by unfold qQ;simp
   rw [eop] at hop
   have hpl:=(hb.ctx _ (.head _)).len
   refine D4 (fun zz h=>h) (D4 (fun zz h=>h) (D4 (D3 (fun zz h=>h) hop) (D5 (E5 (b:=true) (b2:=true) (fun zz h=>h) fun zz=>G8 (D3 (fun zz h=>h) (sT hst))) (Bg4 (fun zz h=>h) (W0▸hst.opn)
    (I0 (D3 (fun zz h=>h) (mF hst1)) (fI (C9 (fun zz h=>h) (C9 (E4 (fun zz h=>h) (fun zz h=>h) (S3 (i:=1) hf1 rfl)) (C9 (E4 (fun zz h=>h) (fun zz h=>h) (S3 (i:=2) hf1 rfl)) (C9 (fun zz h=>h) K5))))) g1 (by exact M4 (M9 (Nat.le_of_eq g2) (M9 hpl (M9 hkb (M9 hr (Nat.le_of_eq hlim.symm))))))
     (go (B1 k) (Nat.le_succ_of_le hk) hp ⟨(hb.ctx _ (.head _)).add (B1 _) (fun s e=>nomatch e),fun x hx=>(hb.ctx x (.tail _ hx)).le (B8 _)⟩ g3))))))
  | @shutL _ _ p _ ctx hc hp =>
   obtain rfl:=same hc
   obtain ⟨a,as',rfl,_⟩:=hst.lv
   obtain ⟨hst1,hf1,_⟩:=hst.pop
   have hop:=cD (n:=n+1) hst hc
   have eop:(decide (((none,p)::ctx:L6).length<12)&&qQ row k 93)=false:=by unfold qQ;simp
   rw [eop] at hop
   have hpl:=(hb.ctx _ (.head _)).len
   have hup:=gP (ts:=cur) hk
   refine D4 (fun zz h=>h) (D4 (fun zz h=>h) (D4 (D3 (fun zz h=>h) hop) (D4 (E5 (b:=false) (b2:=true) (fun zz h=>h) fun q=>nomatch q) (D5 (E5 (b:=true) (b2:=true) (fun zz h=>h) fun zz=>G8 (D3 (fun zz h=>h) (pJ hst))) ?_))))
   refine P2 (M6 (M5 (Y4 rfl (M5 (Y4 rfl (M5 (yC (Cr4 (Y4 rfl ⟨_,rfl,Bg5 (W0▸hst.opn) (Ch2 (Ca1 (c:=.ref a) hf1 (by decide) rfl (I1 ?_)))⟩) (T6 _ _)))))))))
   refine Ce3 (ts:=cur) fun g b e=>?_
   obtain ⟨l',g1,g2,g3⟩:=hst.shut (t:=.link cur g b) (v:=W8 a g b) fun G h=>Ay9 h
   rw [<- e] at g3
   exact I0 (D3 (fun zz h=>h) (mF hst1)) (fun zz h=>h) g1 (by exact M4 (M9 (Nat.le_of_eq g2) (M9 hpl (M9 hkb (M9 hr (Nat.le_of_eq hlim.symm)))))) (go hup (Nat.le_succ_of_le (Aa7 hk)) hp ⟨(hb.ctx _ (.head _)).add hup (fun s q=>by rw [e] at q;cases q),fun x hx=>(hb.ctx x (.tail _ hx)).le (B5 hup)⟩ g3)
  | @plain _ d _ _ _ hc h92 h96 hop h41 h93 hp =>
   obtain rfl:=same hc
   have hop':=cD (n:=n+1) hst hc
   have eop:(decide (ctx.length<12)&&qQ row k c)=false:=by
    by_cases q:ctx.length<12
    ·rw [hop q,Bool.and_false]
    ·rw [decide_eq_false q];rfl
   rw [eop] at hop'
   have tst:∀ {d:Nat}{w:List Nat}{b:Bool}{ρ:D7},(c=d->b=false)->Ev (C1 P (n+2)) ρ G (.cmp .eq (.var 4) (.str [d])) (.bool ([c]==[d]))->(∀ Q:C2,Q (.bool b) G->D9 (C1 P (n+2)) (.call "last_is" [.var 2,.str w]) ρ Q G)->Ev (C1 P (n+2)) ρ G (.and [.cmp .eq (.var 4) (.str [d]),.call "last_is" [.var 2,.str w]]) (.bool false):=fun {d w b ρ} h1 h2 h3=>by
    refine J6 (E5 h2 fun zz=>G8 h3) ?_
    by_cases q:c=d
    ·rw [h1 q,Bool.and_false]
    ·rw [show ([c]==[d])=false by simpa using q];rfl
   exact D4 (J6 (fun zz h=>h) (by simpa using h92)) (D4 (J6 (fun zz h=>h) (by simpa using h96)) (D4 (D3 (fun zz h=>h) hop') (D4 (tst h41 (fun zz h=>h) (D3 (fun zz h=>h) (sT hst))) (D4 (tst h93 (fun zz h=>h) (D3 (fun zz h=>h) (pJ hst)))
    (K8 (fun zz h=>h) (Bs1 ha hend.2 hend.1 (go (B1 k) (Nat.le_succ_of_le hk) hp (hb.to (B8 _) hb.cur.put) (hst.upd (Cd3 hra)))))))))
 ·refine .stop (J6 (C7 (fun zz h=>h) (fun zz h=>h) X3) (decide_eq_false (fun q=>hk (Int.ofNat_lt.mp q)))) (At0 (fun zz h=>h) (Bu6 (K:=k) hst (by exact M4 (M9 hkb hr)) hb ?_))
  cases hp with
  | done hd=>exact h
  | kept hc _=>exact absurd (List.getElem?_eq_some_iff.mp hc).1 hk
  | code hc _=>exact absurd (List.getElem?_eq_some_iff.mp hc).1 hk
  | label hc _ _=>exact absurd (List.getElem?_eq_some_iff.mp hc).1 hk
  | span hc _ _ _ _=>exact absurd (List.getElem?_eq_some_iff.mp hc).1 hk
  | shutS hc _=>exact absurd (List.getElem?_eq_some_iff.mp hc).1 hk
  | shutL hc _=>exact absurd (List.getElem?_eq_some_iff.mp hc).1 hk
  | plain hc _ _ _ _ _ _=>exact absurd (List.getElem?_eq_some_iff.mp hc).1 hk
theorem K4.past {row:List Nat}{k:Nat}{cur r:List T}{ctx:L6}(h:K4 row k cur ctx r) (hk:row.length<=k):r=J2 cur ctx:=by
 have hno:∀ {c:Nat},row[k]? = some c->r=J2 cur ctx:=fun hc=>by rw [List.getElem?_eq_none hk] at hc;cases hc
 cases h with
 | done _=>rfl
 | kept hc _=>exact hno hc
 | code hc _=>exact hno hc
 | label hc _ _=>exact hno hc
 | span hc _ _ _ _=>exact hno hc
 | shutS hc _=>exact hno hc
 | shutL hc _=>exact hno hc
 | plain hc _ _ _ _ _ _=>exact hno hc
structure E6 (H G:Heap):Prop where
 len:H.length<=G.length
 old:L0 H G 0 H.length
theorem E6.refl {H:Heap}:E6 H H:=⟨A4 _,.refl⟩
theorem E6.one {H:Heap}{x:List V}:E6 H (H++[x]):=⟨by rw [A6];exact B4 _ _,.one (A4 _)⟩
theorem E6.trans {A B C:Heap}(h:E6 A B) (k:E6 B C):E6 A C:=⟨A3 h.len k.len,h.old.trans (k.old.sub (A4 _) h.len)⟩
theorem E6.get {H G:Heap}{a:Nat}{l:List V}(g:E6 H G) (h:H[a]? = some l):G[a]? = some l:=(g.old a (B0 _) (List.getElem?_eq_some_iff.mp h).1).trans h
theorem E8.grow {H G:Heap}{xs:List X}{lo hi:Nat}{l:List V}(h:E8 H xs lo hi l) (g:E6 H G) (hh:hi<=H.length):E8 G xs lo hi l:=h.to (g.old.sub (B0 _) hh)
theorem J0.grow {H G:Heap}{xs:X}{lo hi:Nat}{l:V}(h:J0 H xs lo hi l) (g:E6 H G) (hh:hi<=H.length):J0 G xs lo hi l:=h.to (g.old.sub (B0 _) hh)
theorem H8 {H:Heap}{a:Nat}{l:List V}(h:H[a]? = some l):a<H.length:=(List.getElem?_eq_some_iff.mp h).1
theorem L7 {H:Heap}{x:List V}:(H++[x]).length=H.length+1:=by rw [A6];rfl
noncomputable def W:Nat:=1000000
theorem W4:(4:Nat)<=W:=by decide
theorem Ax7 {m:Nat}{s:List Nat}:M1 W m (enc (.txt s)):=M1.at
theorem Bu4 {m:Nat}{s:List Nat}:M1 W (m+1) (enc (.kept s)):=⟨A3 (by decide:(2:Nat)<=4) W4,fun y hy=>by
 rcases List.mem_cons.mp hy with rfl | hy
 ·exact M1.at
 ·rw [List.mem_singleton.mp hy];exact M1.at⟩
theorem Bu5 {m:Nat}{s:List Nat}{b:Bool}:M1 W (m+1) (enc (.code s b)):=⟨A3 (by decide:(3:Nat)<=4) W4,fun y hy=>by
 rcases List.mem_cons.mp hy with rfl | hy
 ·exact M1.at
 ·rcases List.mem_cons.mp hy with rfl | hy
  ·exact M1.at
  ·rw [List.mem_singleton.mp hy];exact M1.at⟩
theorem Bs6 {ts:List T}{y:X}(h:y∈G9 ts):∃ t∈ts,y=enc t:=Bk7 (cE ts) h
theorem wB {m:Nat}{us:List T}(h:us.length<=W) (hf:∀ t∈us,M1 W m (enc t)):M1 W (m+1) (.lst (G9 us)):=⟨by rw [S1];exact h,fun y hy=>by
 obtain ⟨t,ht,rfl⟩:=Bs6 hy
 exact hf t ht⟩
theorem Bu2 {m c:Nat}{us:List T}{b:Bool}(h:us.length<=W) (hf:∀ t∈us,M1 W m (enc t)):M1 W (m+2) (enc (.span c us b)):=⟨W4,fun y hy=>by
 rcases List.mem_cons.mp hy with rfl | hy
 ·exact M1.at
 ·rcases List.mem_cons.mp hy with rfl | hy
  ·exact M1.at
  ·rcases List.mem_cons.mp hy with rfl | hy
   ·exact wB h hf
   ·rw [List.mem_singleton.mp hy];exact M1.at⟩
theorem Bu3 {m:Nat}{us:List T}{g:Option (List Nat)}{b:Bool}(h:us.length<=W) (hf:∀ t∈us,M1 W m (enc t)):M1 W (m+2) (enc (.link us g b)):=⟨W4,fun y hy=>by
 rcases List.mem_cons.mp hy with rfl | hy
 ·exact M1.at
 ·rcases List.mem_cons.mp hy with rfl | hy
  ·exact wB h hf
  ·rcases List.mem_cons.mp hy with rfl | hy
   ·exact M1.at
   ·rw [List.mem_singleton.mp hy];exact M1.at⟩
theorem Cm5 {row:List Nat}{k:Nat}(h:nx row k=[40]):k+2<=row.length:=by
 refine Nat.lt_of_not_le fun q=>?_
 rw [show nx row k=[] by unfold nx;rw [List.drop_eq_nil_of_le q];rfl] at h
 cases h
theorem Bs4 {row:List Nat}{k c:Nat}(h:[42,95,126].contains c=true) (hn:nx row k=[40]):qQ row k c=true:=by unfold qQ;rw [h,hn];simp
theorem K4.total {row:List Nat}:∀ (n k:Nat) (cur:List T) (ctx:L6),row.length<=k+n->∃ r,K4 row k cur ctx r
 | 0,k,cur,ctx,h=>⟨_,.done h⟩
 | n+1,k,cur,ctx,h=>by
  by_cases hk:row.length<=k
  ·exact ⟨_,.done hk⟩
  have hk':k<row.length:=Nat.not_le.mp hk
  have up:∀ {k':Nat}(cur':List T) (ctx':L6),k<k'->∃ r,K4 row k' cur' ctx' r:=fun {k'} cur' ctx' q=>K4.total (row:=row) n k' cur' ctx' (by exact M4 (M9 h q))
  have hg:row[k]? = some row[k]:=List.getElem?_eq_getElem hk'
  generalize row[k]=c at hg
  by_cases h92:c=92
  ·exact (up _ ctx (Nat.lt_add_of_pos_right (by decide))).imp fun r hr=>.kept (by rw [hg,h92]) hr
  by_cases h96:c=96
  ·exact (up _ ctx (gQ hk')).imp fun r hr=>.code (by rw [hg,h96]) hr
  by_cases hop:ctx.length<12/\qQ row k c=true
  ·obtain ⟨h12,hop⟩:=hop
   by_cases h91:c=91
   ·exact (up [] ((none,cur)::ctx) (B1 _)).imp fun r hr=>.label (by rw [hg,h91]) h12 hr
   ·unfold qQ at hop
    rw [show (c==91)=false by simpa using h91,Bool.false_or] at hop
    obtain ⟨h1,h2⟩:=Bool.and_eq_true_iff.mp hop
    exact (up [] ((some c,cur)::ctx) (Nat.lt_add_of_pos_right (by decide))).imp fun r hr=>.span hg h1 (by simpa using h2) h12 hr
  have hno:ctx.length<12->qQ row k c=false:=fun h12=>by
   cases e:qQ row k c with
   | false=>rfl
   | true=>exact absurd ⟨h12,e⟩ hop
  have plain:(c=41->iN ctx=false)->(c=93->cZ ctx=false)->∃ r,K4 row k cur ctx r:=fun h1 h2=>(up (O0 cur c) ctx (B1 _)).imp fun r hr=>.plain hg h92 h96 hno h1 h2 hr
  match ctx,plain with
  | [],plain=>exact plain (fun zz=>rfl) fun zz=>rfl
  | (some x,p)::ctx,plain =>
   by_cases h41:c=41
   ·exact (up (p++[.span x cur true]) ctx (B1 _)).imp fun r hr=>.shutS (by rw [hg,h41]) hr
   ·exact plain (fun q=>absurd q h41) fun zz=>rfl
  | (none,p)::ctx,plain =>
   by_cases h93:c=93
   ·exact (up (p++[(O3 row k cur).1]) ctx (gP hk')).imp fun r hr=>.shutL (by rw [hg,h93]) hr
   ·exact plain (fun zz=>rfl) fun q=>absurd q h93
noncomputable def Ch4 (row:List Nat) (k:Nat) (cur:List T):L6->Nat×List T×L6
 | []=>(k+1,cur,[])
 | (some d,p)::ctx=>(k+1,p++[.span d cur true],ctx)
 | (none,p)::ctx=>((O3 row k cur).2,p++[(O3 row k cur).1],ctx)
noncomputable def nxt (row:List Nat) (k c:Nat) (cur:List T) (ctx:L6):Nat×List T×L6 :=
 if c=92 then (k+2,cur++[.kept (nx row k)],ctx) else if c=96 then ((R8 row k).2,cur++[(R8 row k).1],ctx) else
 if ctx.length<12/\qQ row k c=true then (if c=91 then (k+1,[],(none,cur)::ctx) else (k+2,[],(some c,cur)::ctx)) else
 if c=41/\iN ctx=true then Ch4 row k cur ctx else if c=93/\cZ ctx=true then Ch4 row k cur ctx else (k+1,O0 cur c,ctx)
theorem K4.step {row:List Nat}{k:Nat}{cur r:List T}{ctx:L6}(h:K4 row k cur ctx r):(row.length<=k/\r=J2 cur ctx)∨∃ c,row[k]? = some c/\k<(nxt row k c cur ctx).1/\K4 row (nxt row k c cur ctx).1 (nxt row k c cur ctx).2.1 (nxt row k c cur ctx).2.2 r:=by
 have mk:∀ {c:Nat}{s:Nat×List T×L6},row[k]? = some c->nxt row k c cur ctx=s->k<s.1->K4 row s.1 s.2.1 s.2.2 r->(row.length<=k/\r=J2 cur ctx)∨∃ c,row[k]? = some c/\k<(nxt row k c cur ctx).1/\K4 row (nxt row k c cur ctx).1 (nxt row k c cur ctx).2.1 (nxt row k c cur ctx).2.2 r:=fun {c s} h1 h2 h3 h4=>Or.inr ⟨c,h1,by rw [h2];exact ⟨h3,h4⟩⟩
 cases h with
 | done hk=>exact Or.inl ⟨hk,rfl⟩
 | kept hc h=>exact mk hc rfl (Nat.lt_add_of_pos_right (by decide)) h
 | code hc h=>exact mk hc rfl (gQ (List.getElem?_eq_some_iff.mp hc).1) h
 | @label _ cur _ ctx hc h12 h=>exact mk (s:=(k+1,[],(none,cur)::ctx)) hc (by unfold nxt;rw [if_neg (by decide),if_neg (by decide),if_pos ⟨h12,rfl⟩];rfl) (B1 _) h
 | @span _ c cur _ ctx hc hcc hn h12 h =>
  exact mk (s:=(k+2,[],(some c,cur)::ctx)) hc (by unfold nxt;rw [if_neg (fun e=>by subst e;cases hcc),if_neg (fun e=>by subst e;cases hcc),if_pos ⟨h12,Bs4 hcc hn⟩,if_neg (fun e=>by subst e;cases hcc)]) (Nat.lt_add_of_pos_right (by decide)) h
 | @shutS _ c cur p _ ctx hc h =>
  have e:qQ row k 41=false:=by unfold qQ;simp
  exact mk (s:=(k+1,p++[.span c cur true],ctx)) hc (by unfold nxt;rw [if_neg (by decide),if_neg (by decide),if_neg (fun q=>by rw [e] at q;cases q.2)];rfl) (B1 _) h
 | @shutL _ cur p _ ctx hc h =>
  have e:qQ row k 93=false:=by unfold qQ;simp
  exact mk (s:=((O3 row k cur).2,p++[(O3 row k cur).1],ctx)) hc (by unfold nxt;rw [if_neg (by decide),if_neg (by decide),if_neg (fun q=>by rw [e] at q;cases q.2),if_neg (fun q=>by cases q.1)];rfl) (gP (List.getElem?_eq_some_iff.mp hc).1) h
 | @plain _ c cur _ ctx hc h92 h96 hop h41 h93 h =>
  exact mk (s:=(k+1,O0 cur c,ctx)) hc (by unfold nxt;rw [if_neg h92,if_neg h96,if_neg (fun q=>by rw [hop q.1] at q;cases q.2),if_neg (fun q=>by rw [h41 q.1] at q;cases q.2),if_neg (fun q=>by rw [h93 q.1] at q;cases q.2)]) (B1 _) h
theorem K4.det {row:List Nat}:∀ (n k:Nat) (cur:List T) (ctx:L6) (r r':List T),row.length<=k+n->K4 row k cur ctx r->K4 row k cur ctx r'->r=r'
 | 0,k,cur,ctx,r,r',hn,h,h'=>(h.past hn).trans (h'.past hn).symm
 | n+1,k,cur,ctx,r,r',hn,h,h'=>by
  rcases h.step with ⟨q,e⟩ | ⟨c,hc,hk,g⟩
  ·rw [e,h'.past q]
  ·rcases h'.step with ⟨q,e⟩ | ⟨c',hc',_,g'⟩
   ·rw [e,h.past q]
   ·cases hc.symm.trans hc'
    exact K4.det n _ _ _ r r' (by exact M4 (M9 hn hk)) g g'
noncomputable def pts (row:List Nat):List T:=Classical.choose (K4.total (row:=row) row.length 0 [] [] (Nat.le_of_eq (Nat.zero_add _).symm))
theorem eR (row:List Nat):K4 row 0 [] [] (pts row):=Classical.choose_spec (K4.total (row:=row) row.length 0 [] [] (Nat.le_of_eq (Nat.zero_add _).symm))
theorem Cm4 {row:List Nat}{us:List T}(h:K4 row 0 [] [] us):us=pts row:=K4.det row.length 0 [] [] _ _ (Nat.le_of_eq (Nat.zero_add _).symm) h (eR row)
noncomputable def runL (c:Nat):List Nat->Nat
 | []=>0
 | x::r=>if x=c then runL c r+1 else 0
theorem zX (row:List Nat) (k:Nat):slice row (some (k:Int)) (some ((k:Int)+1))=(row.drop k).take 1:=by
 rw [aC (Int.natCast_nonneg _) (Int.le_add_one (Int.natCast_nonneg _))]
 show (row.drop k).take (k+1 - k)=_
 rw [Nat.add_sub_cancel_left]
theorem Cm0 {C:Calls}{row:List Nat}{c:Nat}{H:Heap}{R:E2}(h:R .next [some (.str row),some (.str [c]),some (.int (runL c row:Nat))] H) :
  iA C (.whl (.cmp .eq (.slc (.var 0) (.var 2) (.bin .add (.var 2) (.int 1))) (.var 1)) [.assign 2 (.bin .add (.var 2) (.int 1))]) [some (.str row),some (.str [c]),some (.int 0)] R H:=by
 refine mR (σ:=Nat) (fun i=>[some (.str row),some (.str [c]),some (.int (i:Nat))]) (fun i G=>G=H/\runL c row=i+runL c (row.drop i)) (fun i=>runL c (row.drop i)) (fun i G hI K hK=>?_) 0 ⟨rfl,(Nat.zero_add _).symm⟩
 obtain ⟨rfl,he⟩:=hI
 have et:Ev C [some (.str row),some (.str [c]),some (.int (i:Nat))] G (.cmp .eq (.slc (.var 0) (.var 2) (.bin .add (.var 2) (.int 1))) (.var 1)) (.bool ((row.drop i).take 1==[c])):=J6 (fun zz h=>h) (congrArg (· == [c]) (zX row i))
 have e1:row.drop (i+1)=(row.drop i).tail:=(List.tail_drop).symm
 cases hd:row.drop i with
 | nil =>
  rw [hd] at et he
  rw [show runL c row=i from he] at h
  exact .stop et h
 | cons x r =>
  rw [hd] at et he e1
  by_cases hx:x=c
  ·subst hx
   have e2:runL x (x::r)=runL x r+1:=if_pos rfl
   refine .go (J6 et (by show ([x]==[x])=true;simp)) (hK (i+1) _ ?_ ⟨rfl,?_⟩)
   ·show runL x (row.drop (i+1))<runL x (row.drop i)
    rw [e1,hd,e2];exact B1 _
   ·rw [e1,he,e2];exact (Nat.add_right_comm i _ 1)
  ·have e2:runL c (x::r)=0:=if_neg hx
   rw [e2] at he
   rw [show runL c row=i from he] at h
   exact .stop (J6 et (by show ([x]==[c])=false;simpa using hx)) h
theorem aE {n:Nat}{row:List Nat}{c:Nat}{H:Heap}(Q:C2) (h:Q (.int (runL c row:Nat)) H):C1 P (n+1) "run_of" [.str row,.str [c]] Q H:=Bd7 (C6 (fun zz h=>h) (I3 (Cm0 h)))
structure Sh where
 k:Nat
 n:Nat
 r:List Nat
noncomputable def isRun (c m:Nat) (row:List Nat):Bool:=decide (1<=runL c row)&&(decide (runL c row<=m)&&((row.drop (runL c row)).take 1==[32]))
noncomputable def isQ (deep:Nat) (row:List Nat):Bool:=decide (deep<9)&&(row.take 2==[62,32])
noncomputable def shpN (deep:Nat) (row:List Nat):Sh:=bif isQ deep row then ⟨1,0,row.drop 2⟩ else bif isRun 35 6 row then ⟨2,runL 35 row,row.drop (runL 35 row+1)⟩ else bif isRun 45 9 row then ⟨3,runL 45 row,row.drop (runL 45 row+1)⟩ else ⟨4,0,row⟩
noncomputable def shp (deep:Nat) (row:List Nat):Sh:=match row with
 | []=>⟨0,0,[]⟩
 | x::r=>shpN deep (x::r)
noncomputable def nmS:Nat->List Nat
 | 0=>[103,97,112]
 | 1=>[113,117,111,116,101]
 | 2=>[104,101,97,100,105,110,103]
 | 3=>[105,116,101,109]
 | _=>[112,108,97,105,110]
noncomputable def shV (s:Sh):V:=.tup [.str (nmS s.k),.int (s.n:Nat),.str s.r]
theorem Cf1 (row:List Nat) (k:Nat):slice row (some ((k:Int)+1)) none=row.drop (k+1):=W1 (Int.le_add_one (Int.natCast_nonneg k))
theorem jC (deep:Nat) (row:List Nat):(row=[]/\shp deep row=⟨0,0,[]⟩)∨((row==[])=false/\((isQ deep row=true/\shp deep row=⟨1,0,row.drop 2⟩)∨(isQ deep row=false/\((isRun 35 6 row=true/\shp deep row=⟨2,runL 35 row,row.drop (runL 35 row+1)⟩)∨(isRun 35 6 row=false /\
  ((isRun 45 9 row=true/\shp deep row=⟨3,runL 45 row,row.drop (runL 45 row+1)⟩)∨(isRun 45 9 row=false/\shp deep row=⟨4,0,row⟩))))))):=by
 match row with
 | []=>exact Or.inl ⟨rfl,rfl⟩
 | x::r =>
  refine Or.inr ⟨rfl,?_⟩
  show (_/\shpN deep (x::r)=_)∨(_/\((_/\shpN deep (x::r)=_)∨(_/\((_/\shpN deep (x::r)=_)∨(_/\shpN deep (x::r)=_)))))
  generalize x::r=row
  unfold shpN
  cases isQ deep row with
  | true=>exact Or.inl ⟨rfl,rfl⟩
  | false =>
   refine Or.inr ⟨rfl,?_⟩
   cases isRun 35 6 row with
   | true=>exact Or.inl ⟨rfl,rfl⟩
   | false =>
    refine Or.inr ⟨rfl,?_⟩
    cases isRun 45 9 row with
    | true=>exact Or.inl ⟨rfl,rfl⟩
    | false=>exact Or.inr ⟨rfl,rfl⟩
section
variable {n deep:Nat}{row:List Nat}{H:Heap}
theorem lt9 {k m:Nat}:decide ((k:Int)<(m:Nat))=decide (k<m):=decide_eq_decide.mpr Int.ofNat_lt
theorem le9 {k m:Nat}:decide ((k:Int)<=(m:Nat))=decide (k<=m):=decide_eq_decide.mpr Int.ofNat_le
theorem Cj9 {C:Calls}{ρ:D7}{k x:Nat}(h0:ρ[0]? = some (some (.str row))) (hx:ρ[x]? = some (some (.int (k:Nat)))):Ev C ρ H (.cmp .eq (.slc (.var 0) (.var x) (.bin .add (.var x) (.int 1))) (.str [32])) (.bool ((row.drop k).take 1==[32])):=C7 (Cq8 (fH h0) (fH hx) (D6 (fH hx) C8 Q8) uF) N0 (by rw [zX];rfl)
theorem Bl4 {C:Calls}{ρ:D7}{k x:Nat}{w:List Nat}(h0:ρ[0]? = some (some (.str row))) (hx:ρ[x]? = some (some (.int (k:Nat)))):Ev C ρ H (.tup [.str w,.var x,.slcL (.var 0) (.bin .add (.var x) (.int 1))]) (.tup [.str w,.int (k:Nat),.str (row.drop (k+1))]):=fI (C9 N0 (C9 (fH hx) (C9 (Bh9 (fH h0) (D6 (fH hx) C8 Q8) (by rw [uF,Cf1])) K5)))
theorem zZ (Q:C2) (h:Q (shV (shp deep row)) H):C1 P (n+2) "shape" [.str row,.int (deep:Nat)] Q H:=by
 refine Bt6 ?_
 have eq1:∀ {C:Calls}{y z:Option V},Ev C [some (.str row),some (.int (deep:Nat)),y,z] H (.and [.cmp .lt (.var 1) (.glob "MOST_QUOTES" 9),.cmp .eq (.slcH (.var 0) (.int 2)) (.str [62,32])]) (.bool (isQ deep row)):=E5 (J6 (C7 (fun zz h=>h) (fun zz h=>h) X3) lt9) fun zz=>G8 (J6 (fun zz h=>h) (congrArg (· == [62,32]) (zJ (by decide))))
 have e2:∀ {C:Calls}{a z:Option V},Ev C [some (.str row),a,some (.int (runL 35 row:Nat)),z] H (.and [.cmp .le (.int 1) (.var 2),.cmp .le (.var 2) (.glob "MOST_SHARPS" 6),.cmp .eq (.slc (.var 0) (.var 2) (.bin .add (.var 2) (.int 1))) (.str [32])]) (.bool (isRun 35 6 row)):=E5 (J6 (C7 (fun zz h=>h) (fun zz h=>h) xQ) le9) fun zz=>E5 (J6 (C7 (fun zz h=>h) (fun zz h=>h) xQ) le9) fun zz=>G8 (Cj9 rfl rfl)
 have e3:∀ {C:Calls}{a z:Option V},Ev C [some (.str row),a,z,some (.int (runL 45 row:Nat))] H (.and [.cmp .le (.int 1) (.var 3),.cmp .le (.var 3) (.glob "MOST_DASHES" 9),.cmp .eq (.slc (.var 0) (.var 3) (.bin .add (.var 3) (.int 1))) (.str [32])]) (.bool (isRun 45 9 row)):=E5 (J6 (C7 (fun zz h=>h) (fun zz h=>h) xQ) le9) fun zz=>E5 (J6 (C7 (fun zz h=>h) (fun zz h=>h) xQ) le9) fun zz=>G8 (Cj9 rfl rfl)
 rcases jC deep row with ⟨rfl,e⟩ | ⟨h0,⟨hq,e⟩ | ⟨hq,⟨h35,e⟩ | ⟨h35,⟨h45,e⟩ | ⟨h45,e⟩⟩⟩⟩
 ·rw [e] at h
  exact D5 (fun zz h=>h) h
 ·rw [e] at h
  exact C3 (J6 (fun zz h=>h) h0) (D5 (J6 eq1 hq) (I6 (lT (fun zz h=>h) (congrArg (fun s=>V.tup [V.str [113,117,111,116,101],V.int 0,V.str s]) (W1 (by decide)))) h))
 ·rw [e] at h
  exact C3 (J6 (fun zz h=>h) h0) (C3 (J6 eq1 hq) (C6 (D3 (fun zz h=>h) aE) (D5 (J6 e2 h35) (I6 (Bl4 rfl rfl) h))))
 ·rw [e] at h
  exact C3 (J6 (fun zz h=>h) h0) (C3 (J6 eq1 hq) (C6 (D3 (fun zz h=>h) aE) (C3 (J6 e2 h35) (C6 (D3 (fun zz h=>h) aE) (D5 (J6 e3 h45) (I6 (Bl4 rfl rfl) h))))))
 ·rw [e] at h
  exact C3 (J6 (fun zz h=>h) h0) (C3 (J6 eq1 hq) (C6 (D3 (fun zz h=>h) aE) (C3 (J6 e2 h35) (C6 (D3 (fun zz h=>h) aE) (C3 (J6 e3 h45) h)))))
end
inductive It where
 | it (n:Nat) (ts:List T) (sub:List It)
mutual
noncomputable def itE:It->X
 | .it n ts sub=>.tup [.at (.i (n:Nat)),.lst (G9 ts),.lst (aG sub)]
noncomputable def aG:List It->List X
 | []=>[]
 | i::is=>itE i::aG is
end
theorem oC:∀ is:List It,aG is=is.map itE
 | []=>rfl
 | i::is=>congrArg (itE i::·) (oC is)
mutual
noncomputable def RI (H:Heap):It->Nat->Nat->V->Prop
 | .it n ts sub,lo,hi,v=>∃ a b p q lp ls,v=.tup [.int (n:Nat),.ref a,.ref b]/\Bd lo b a p q/\H[a]? = some lp/\E8 H (G9 ts) p q lp/\H[b]? = some ls/\W5 H sub (b+1) hi ls
noncomputable def W5 (H:Heap):List It->Nat->Nat->List V->Prop
 | [],lo,hi,l=>lo<=hi/\l=[]
 | i::is,lo,hi,l=>∃ v r m,l=v::r/\RI H i lo m v/\W5 H is m hi r
end
mutual
theorem RI.le {H:Heap}:∀ {i:It}{lo hi:Nat}{v:V},RI H i lo hi v->lo<hi
 | .it n ts sub,lo,hi,v,h=>by
  obtain ⟨a,b,p,q,lp,ls,_,hb,_,_,_,h⟩:=h
  exact A9 hb.le (W5.le (is:=sub) h)
theorem W5.le {H:Heap}:∀ {is:List It}{lo hi:Nat}{l:List V},W5 H is lo hi l->lo<=hi
 | [],_,_,_,h=>h.1
 | i::is,_,_,_,h=>by
  obtain ⟨v,r,m,_,h1,h2⟩:=h
  exact A3 (B5 (RI.le (i:=i) h1)) (W5.le (is:=is) h2)
end
mutual
theorem RI.mono {H G:Heap}:∀ {i:It}{lo hi lo' hi':Nat}{v:V},RI H i lo hi v->L0 H G lo hi->lo'<=lo->hi<=hi'->RI G i lo' hi' v
 | .it n ts sub,lo,hi,lo',hi',v,h,k,q1,q2=>by
  obtain ⟨a,b,p,q,lp,ls,e,hb,h1,h2,h3,h4⟩:=h
  have hle:=W5.le h4
  exact ⟨a,b,p,q,lp,ls,e,hb.mono q1 (A4 _),(k a hb.la (Nat.lt_trans hb.ah hle)).trans h1,h2.to (k.sub hb.lp (A3 hb.qh (B5 hle))),(k b hb.le hle).trans h3,W5.mono (is:=sub) h4 (k.sub (Nat.le_succ_of_le hb.le) (A4 _)) (A4 _) q2⟩
theorem W5.mono {H G:Heap}:∀ {is:List It}{lo hi lo' hi':Nat}{l:List V},W5 H is lo hi l->L0 H G lo hi->lo'<=lo->hi<=hi'->W5 G is lo' hi' l
 | [],_,_,_,_,_,h,_,q1,q2=>⟨A3 q1 (A3 h.1 q2),h.2⟩
 | i::is,_,_,_,_,_,h,k,q1,q2=>by
  obtain ⟨v,r,m,e,h1,h2⟩:=h
  exact ⟨v,r,m,e,RI.mono (i:=i) h1 (k.sub (A4 _) (W5.le h2)) q1 (A4 _),W5.mono (is:=is) h2 (k.sub (B5 (RI.le h1)) (A4 _)) (A4 _) q2⟩
end
theorem W5.to {H G:Heap}{is:List It}{lo hi:Nat}{l:List V}(h:W5 H is lo hi l) (k:L0 H G lo hi):W5 G is lo hi l:=W5.mono h k (A4 _) (A4 _)
theorem W5.app {H:Heap}{js:List It}{mid hi:Nat}{m:List V}(hm:W5 H js mid hi m):∀ {is:List It}{lo:Nat}{l:List V},W5 H is lo mid l->W5 H (is++js) lo hi (l++m)
 | [],lo,l,h=>by
  obtain ⟨h1,rfl⟩:=h
  exact W5.mono hm .refl h1 (A4 _)
 | i::is,lo,l,h=>by
  obtain ⟨v,r,k,rfl,h1,h2⟩:=h
  exact ⟨v,r++m,k,rfl,h1,W5.app hm h2⟩
theorem W5.one {H:Heap}{i:It}{lo hi:Nat}{v:V}(h:RI H i lo hi v):W5 H [i] lo hi [v]:=⟨v,[],hi,rfl,h,A4 _,rfl⟩
theorem W5.last {H:Heap}{hi:Nat}{v:V}:∀ {is:List It}{lo:Nat}{l:List V},W5 H is lo hi (l++[v])->∃ is' i m,is=is'++[i]/\W5 H is' lo m l/\RI H i m hi v
 | [],lo,l,h=>absurd h.2 (by simp)
 | i::is,lo,l,h=>by
  obtain ⟨w,r,m,e,h1,h2⟩:=h
  cases l with
  | nil =>
   cases e
   match is,h2 with
   | [],h2=>exact ⟨[],i,lo,rfl,⟨A4 _,rfl⟩,RI.mono h1 .refl (A4 _) h2.1⟩
   | j::js,h2=>obtain ⟨_,_,_,e,_⟩:=h2;cases e
  | cons y l =>
   cases e
   obtain ⟨is',j,k,rfl,h3,h4⟩:=W5.last h2
   exact ⟨i::is',j,k,rfl,⟨w,l,m,rfl,h1,h3⟩,h4⟩
theorem W5.len {H:Heap}:∀ {is:List It}{lo hi:Nat}{l:List V},W5 H is lo hi l->l.length=is.length
 | [],_,_,_,h=>by rw [h.2];rfl
 | _::is,_,_,_,h=>by
  obtain ⟨v,r,m,rfl,_,h2⟩:=h
  exact congrArg (· + 1) (W5.len h2)
mutual
theorem RI.rep {H:Heap}:∀ {i:It}{lo hi:Nat}{v:V},RI H i lo hi v->J0 H (itE i) lo hi v
 | .it n ts sub,lo,hi,v,h=>by
  obtain ⟨a,b,p,q,lp,ls,rfl,hb,h1,h2,h3,h4⟩:=h
  have hle:=W5.le h4
  exact ⟨_,rfl,.atom (a:=.i _) (.cons hb.le (N9 hb h1 h2) (.cons (B5 hle) (N9 ⟨A4 _,hle,B8 _,A4 _⟩ h3 (W5.rep h4)) (.nil (A4 _))))⟩
theorem W5.rep {H:Heap}:∀ {is:List It}{lo hi:Nat}{l:List V},W5 H is lo hi l->E8 H (aG is) lo hi l
 | [],_,_,_,h=>h
 | i::is,_,_,_,h=>by
  obtain ⟨v,r,m,e,h1,h2⟩:=h
  exact ⟨v,r,m,e,B5 (RI.le h1),RI.rep h1,W5.rep h2⟩
end
abbrev Cn:=Nat×Nat×Nat
noncomputable def cV (c:Cn):V:=.tup [.int (c.1:Nat),.ref c.2.1,.ref c.2.2]
inductive Ch (H:Heap):List V->List Cn->Prop
 | nil:Ch H [] []
 | cons {l lb:List V}{c:Cn}{cs:List Cn}:H[c.2.2]? = some lb->Ch H lb cs->Ch H (l++[cV c]) (c::cs)
theorem Al4 {c:Cn}{n a b:Nat}(h:cV c=.tup [.int (n:Nat),.ref a,.ref b]):c=(n,a,b):=by
 obtain ⟨c1,c2,c3⟩:=c
 unfold cV at h
 cases h;rfl
theorem Ch.to {H G:Heap}{l:List V}{cs:List Cn}(h:Ch H l cs):∀ {is:List It}{lo hi:Nat},W5 H is lo hi l->L0 H G lo hi->Ch G l cs:=by
 induction h with
 | nil=>exact fun zz zz=>.nil
 | cons h2 _ ih =>
  intro is lo hi hr k
  obtain ⟨is',⟨mm,ts',sub⟩,m,rfl,h3,h4⟩:=W5.last hr
  obtain ⟨a',b',p',q',lp,ls,e,hb,g1,g2,g3,g4⟩:=h4
  have ec:=Al4 e
  rw [ec] at h2
  cases h2.symm.trans g3
  have hlb:lo<=b':=A3 h3.le hb.le
  refine .cons (by rw [ec];exact (k b' hlb g4.le).trans g3) (ih g4 (k.sub (Nat.le_succ_of_le hlb) (A4 _)))
mutual
noncomputable def cnt:It->Nat
 | .it _ _ sub=>cnts sub+1
noncomputable def cnts:List It->Nat
 | []=>0
 | i::is=>cnt i+cnts is
end
theorem Z9:∀ is js:List It,cnts (is++js)=cnts is+cnts js
 | [],js=>(Nat.zero_add _).symm
 | i::is,js=>by show cnt i+cnts (is++js)=cnt i+cnts is+cnts js;rw [Z9 is js,Nat.add_assoc]
theorem Z6:∀ is:List It,is.length<=cnts is
 | []=>A4 _
 | .it n ts sub::is=>by
  show is.length+1<=(cnts sub+1)+cnts is
  rw [Nat.add_comm]
  exact Nat.add_le_add (Nat.le_add_left _ _) (Z6 is)
noncomputable def insAt:Nat->List It->It->List It
 | 0,is,x=>is++[x]
 | j+1,is,x=>match is.getLast? with
  | some (.it m ts sub)=>is.dropLast++[.it m ts (insAt j sub x)]
  | none=>is++[x]
theorem Ap4 {j m:Nat}{ts:List T}{sub is:List It}{x:It}(h:is.getLast? = some (It.it m ts sub)):insAt (j+1) is x=is.dropLast++[It.it m ts (insAt j sub x)]:=by
 show (match is.getLast? with
  | some (It.it m ts sub)=>is.dropLast++[It.it m ts (insAt j sub x)]
  | none=>is++[x])=_
 rw [h]
theorem R0 {j m:Nat}{ts:List T}{sub is:List It}{x:It}:insAt (j+1) (is++[It.it m ts sub]) x=is++[It.it m ts (insAt j sub x)]:=by
 rw [Ap4 List.getLast?_concat,List.dropLast_concat]
noncomputable def tgt (a:Nat) (cs:List Cn):Nat->Nat
 | 0=>a
 | j+1=>match cs[j]? with
  | some c=>c.2.2
  | none=>a
structure Ins (H:Heap) (a lo hi hi':Nat) (is:List It) (x:It) (v:V) (cs:List Cn) (c:Cn) (j bt:Nat) (lt:List V):Prop where
 get:H[bt]? = some lt
 len:lt.length<=cnts is
 loc:bt=a∨(lo<=bt/\bt<hi)
 new:∃ l',(H.set bt (lt++[v]))[a]? = some l'/\W5 (H.set bt (lt++[v])) (insAt j is x) lo hi' l'/\Ch (H.set bt (lt++[v])) l' (cs.take j++[c])
theorem Cn0 {H:Heap}{n:Nat}{ts:List T}{hi hi':Nat}{c:Cn}(hx:RI H (.it n ts []) hi hi' (cV c)):∀ (j:Nat) (is:List It) (lo:Nat) (l:List V) (cs:List Cn) (a:Nat),W5 H is lo hi l->Ch H l cs->j<=cs.length->H[a]? = some l->(a<lo∨hi'<=a) ->
  ∃ lt,Ins H a lo hi hi' is (.it n ts []) (cV c) cs c j (tgt a cs j) lt:=by
 intro j
 induction j with
 | zero =>
  intro is lo l cs a hr hc hj ha hlo
  have hxx:=hx
  obtain ⟨a',b',p',q',lp,ls,e,hb,h1,h2,h3,h4⟩:=hx
  have hle:=hr.le
  have ec:=Al4 e
  have ev:L0 H (H.set a (l++[cV c])) hi hi':=L0.set (hlo.imp (fun q=>A8 q hle) id)
  refine ⟨l,ha,by rw [hr.len];exact Z6 is,Or.inl rfl,l++[cV c],fO ha,W5.app (.one (RI.mono hxx ev (A4 _) (A4 _))) (hr.to (L0.set (hlo.imp id (fun q=>A3 (B5 (RI.le hxx)) q)))),?_⟩
  rw [List.take_zero]
  refine .cons (lb:=[]) ?_ .nil
  subst ec
  exact (ev b' hb.le h4.1).trans (by rw [h3,h4.2])
 | succ j ih =>
  intro is lo l cs a hr hc hj ha hlo
  cases hc with
  | nil=>cases hj
  | @cons l0 lb d cs' hd2 hc' =>
   obtain ⟨is',⟨mm,ts',sub⟩,m,rfl,h1,h2⟩:=W5.last hr
   obtain ⟨a',b',p',q',lp,ls,e,hb,g1,g2,g3,g4⟩:=h2
   have ed:=Al4 e
   subst ed
   cases hd2.symm.trans g3
   have hlm:=h1.le
   have hmb:=hb.le
   obtain ⟨lt,hi1,hi2,hi3,lb',hi4,hi5,hi6⟩:=ih sub (b'+1) lb cs' b' g4 hc' (Nat.le_of_succ_le_succ hj) g3 (Or.inl (B1 _))
   have et:tgt a ((mm,a',b')::cs') (j+1)=tgt b' cs' j:=by
    cases j with
    | zero=>rfl
    | succ j =>
     show (match cs'[j]? with | some c=>c.2.2 | none=>a)=(match cs'[j]? with | some c=>c.2.2 | none=>b')
     rw [List.getElem?_eq_getElem (Nat.le_of_succ_le_succ hj)]
   rw [et]
   have hbt:b'<=tgt b' cs' j:=by
    rcases hi3 with q | q
    ·exact Nat.le_of_eq q.symm
    ·exact Nat.le_of_succ_le q.1
   have hbh:tgt b' cs' j<hi:=by
    rcases hi3 with q | q
    ·rw [q];exact g4.le
    ·exact q.2
   have hne:tgt b' cs' j≠a:=fun q=>by
    rcases hlo with p | p
    ·exact Nat.lt_irrefl _ (A8 p (A3 hlm (A3 hmb (q▸hbt))))
    ·exact Nat.lt_irrefl _ (A8 (q▸hbh) (A3 (B5 (RI.le hx)) p))
   refine ⟨lt,hi1,?_,Or.inr ⟨A3 hlm (A3 hmb hbt),hbh⟩,l0++[cV (mm,a',b')],?_,?_,?_⟩
   ·rw [Z9]
    exact A3 hi2 (A3 (Nat.le_succ_of_le (A4 _)) (Nat.le_add_left _ _))
   ·rw [List.getElem?_set_ne hne];exact ha
   ·rw [R0]
    have hri:RI (H.set (tgt b' cs' j) (lt++[cV c])) (.it mm ts' (insAt j sub (.it n ts []))) m hi' (cV (mm,a',b')):=⟨a',b',p',q',lp,lb',rfl,hb,(List.getElem?_set_ne (Nat.ne_of_gt (A8 hb.ah hbt))).trans g1,g2.to (L0.set (Or.inr (A3 hb.qh hbt))),hi4,hi5⟩
    exact W5.app (.one hri) (h1.to (L0.set (Or.inr (A3 hmb hbt))))
   ·exact .cons hi4 hi6
noncomputable def jO (ds:List Nat) (n:Nat):Nat:=(ds.reverse.dropWhile fun m=>decide (n<=m)).length
theorem vY {ds:List Nat}{m n:Nat}:jO (ds++[m]) n=if n<=m then jO ds n else ds.length+1:=by
 unfold jO
 rw [List.reverse_append]
 show ((m::ds.reverse).dropWhile _).length=_
 rw [List.dropWhile_cons]
 by_cases h:n<=m
 ·rw [if_pos (decide_eq_true h),if_pos h]
 ·rw [if_neg (fun q=>h (of_decide_eq_true q)),if_neg h,List.length_cons,List.length_reverse]
theorem Ct3 {ds:List Nat}{n:Nat}:jO ds n<=ds.length:=by
 unfold jO
 rw [<- List.length_reverse (as:=ds)]
 exact (List.dropWhile_sublist _).length_le
noncomputable def fM (s:List It×List Nat) (r:Nat×List T):List It×List Nat:=(insAt (jO s.2 r.1) s.1 (.it r.1 r.2 []),s.2.take (jO s.2 r.1)++[r.1])
noncomputable def itS (rs:List (Nat×List T)):List It×List Nat:=rs.foldl fM ([],[])
theorem Bt3 {rs:List (Nat×List T)}{r:Nat×List T}:itS (rs++[r])=fM (itS rs) r:=by
 unfold itS;rw [List.foldl_append];rfl
noncomputable def itF (rs:List (Nat×List T)):List It:=(itS rs).1
theorem oG:∀ (j:Nat) (is:List It) (x:It),cnts (insAt j is x)=cnts is+cnt x
 | 0,is,x=>by show cnts (is++[x])=_;rw [Z9];rfl
 | j+1,is,x=>by
  rcases List.eq_nil_or_concat is with rfl | ⟨is',i,rfl⟩
  ·show cnts [x]=_;show cnt x+0=0+cnt x;rw [Nat.zero_add];rfl
  ·rw [List.concat_eq_append]
   obtain ⟨m,ts,sub⟩:=i
   rw [R0,Z9,Z9]
   show cnts is'+((cnts (insAt j sub x)+1)+0)=cnts is'+((cnts sub+1)+0)+cnt x
   rw [oG j sub x,Nat.add_right_comm (cnts sub),Nat.add_assoc (cnts is')];rfl
noncomputable def bL (s:Sh):Nat×List T:=(s.n,pts s.r)
structure IS where
 cs:List Cn
 e3:Option V
 e4:Option V
structure Cq5 (H0:Heap) (rs:List (Nat×List T)) (i:Nat) (cs:List Cn) (G:Heap):Prop where
 old:L0 H0 G 0 H0.length
 len:H0.length+2<=G.length
 abv:G[H0.length+1]? = some (cs.map cV)
 top:∃ l,G[H0.length]? = some l/\W5 G (itF (rs.take i)) (H0.length+2) G.length l/\Ch G l cs
 ds:cs.map (·.1)=(itS (rs.take i)).2
 cnt:cnts (itF (rs.take i))<=i
 csl:cs.length<=i
theorem X6 {α β:Type}{f:α->β}{cs:List α}{j:Nat}{c:α}(h:cs[j]? = some c):(cs.take (j+1)).map f=(cs.take j).map f++[f c]:=by
 rw [List.take_add_one,h,List.map_append];rfl
theorem Cd4 {n A:Nat}{cs:List Cn}{x0 x1 x4:Option V}{s:Sh}{G:Heap}{R:E2}(hA:G[A]? = some (cs.map cV))
  (h:R .next [x0,x1,some (.ref A),some (shV s),x4] (G.set A ((cs.take (jO (cs.map (·.1)) s.n)).map cV))) :
  iA (C1 P n) (.whl (.and [.cmp .gt (.len (.var 2)) (.int 0),.cmp .ge (.idx (.idx (.var 2) (.neg 1)) (.int 0)) (.idx (.var 3) (.int 1))]) [.expr (.pop (.var 2))]) [x0,x1,some (.ref A),some (shV s),x4] R G:=by
 have h0:G.set A ((cs.take cs.length).map cV)=G:=by
  rw [List.take_length]
  exact List.ext_getElem? fun i=>by
   by_cases q:A=i
   ·subst q;rw [fO hA,hA]
   ·rw [List.getElem?_set_ne q]
 refine mR (σ:=Nat) (fun zz=>[x0,x1,some (.ref A),some (shV s),x4]) (fun j G'=>j<=cs.length/\G'=G.set A ((cs.take j).map cV)/\jO ((cs.take j).map (·.1)) s.n=jO (cs.map (·.1)) s.n) (fun j=>j) (fun j G' hI K hK=>?_) cs.length ⟨A4 _,h0.symm,by rw [List.take_length]⟩
 obtain ⟨hj,rfl,hjo⟩:=hI
 have hg:=fO (l':=(cs.take j).map cV) hA
 cases j with
 | zero =>
  refine .stop (E5 (b:=false) (b2:=true) (C7 (K0 (fun zz h=>h) (J4 hg)) (fun zz h=>h) T0) fun q=>nomatch q) ?_
  rw [<- hjo] at h
  exact h
 | succ j =>
  have hc:cs[j]? = some cs[j]:=List.getElem?_eq_getElem hj
  generalize cs[j]=c at hc
  replace hg:=hg.trans (congrArg some (X6 (f:=cV) hc))
  rw [X6 (f:=fun c:Cn=>c.1) hc,vY] at hjo
  have t1:∀ {b:Bool},decide ((s.n:Int)<=(c.1:Nat))=b->Ev (C1 P n) [x0,x1,some (.ref A),some (shV s),x4] (G.set A ((cs.take (j+1)).map cV)) (.and [.cmp .gt (.len (.var 2)) (.int 0),.cmp .ge (.idx (.idx (.var 2) (.neg 1)) (.int 0)) (.idx (.var 3) (.int 1))]) (.bool b):=fun {b} e =>
   J6 (E5 (b:=true) (J6 (C7 (K0 (fun zz h=>h) (J4 hg)) (fun zz h=>h) T0) fZ) fun zz=>G8 (J6 (C7 (E4 (E4 (fun zz h=>h) (fun zz h=>h) (J8 hg)) (fun zz h=>h) rfl) (fun zz h=>h) Cj2) e)) (Bool.true_and b)
  by_cases hn:s.n<=c.1
  ·rw [if_pos hn] at hjo
   refine .go (t1 (decide_eq_true (Int.ofNat_le.mpr hn))) (Bj2 (fun zz h=>h) hg ?_)
   rw [List.set_set]
   exact hK j _ (B1 j) ⟨Nat.le_of_succ_le hj,rfl,hjo⟩
  ·rw [if_neg hn,B6,List.length_take,Nat.min_eq_left (Nat.le_of_succ_le hj)] at hjo
   refine .stop (t1 (decide_eq_false fun q=>hn (Int.ofNat_le.mp q))) ?_
   rw [<- hjo] at h
   exact h
noncomputable def IQ (H0:Heap) (is:List It) (Q:C2):Prop:=∀ G l,G[H0.length]? = some l->E8 G (aG is) (H0.length+2) G.length l->L0 H0 G 0 H0.length->Q (.ref H0.length) G
theorem Bt2 {n a:Nat}{ss:List Sh}{Q:C2}{H0:Heap}(ha:H0[a]? = some (ss.map shV)) (hl:ss.length<=1000000) (hs:∀ s∈ss,s.r.length<=1000000) (h:IQ H0 (itF (ss.map bL)) Q):C1 P (n+4) "items_of" [.ref a] Q H0:=by
 have hlim:I8=16777216:=rfl
 have hal:=H8 ha
 have st0:Cq5 H0 (ss.map bL) 0 [] (H0++[[]]++[[]]):=⟨(L0.one (A4 _)).trans (L0.one (by rw [L7];exact B8 _)),by rw [L7,L7];exact A4 _,by rw [<- L7 (x:=[])];exact E0,⟨[],J5 E0,⟨by rw [L7,L7];exact A4 _,rfl⟩,.nil⟩,rfl,A4 _,A4 _⟩
 refine Af6 (J9 (H1:=H0++[[]]) (fun zz h=>h) (J9 (v:=.ref (H0.length+1)) (H1:=H0++[[]]++[[]]) (fun zz h=>by rw [<- L7 (x:=[])] at h;exact h) (I3 (V2 (σ:=IS) (fun s=>[some (.ref a),some (.ref H0.length),some (.ref (H0.length+1)),s.e3,s.e4]) (fun i s G=>Cq5 H0 (ss.map bL) i s.cs G) (l:=ss.map shV) (fun i s G hI=>?_) (fun i s G v hv hI K hK=>?_) (fun s G hI=>?_) ⟨[],none,none⟩ (fun zz h=>h) st0))))
 ·exact (hI.old a (B0 _) hal).trans ha
 ·rw [C0] at hv
  obtain ⟨sh,hsh,rfl⟩:=Option.map_eq_some_iff.mp hv
  have hsi:i<ss.length:=(List.getElem?_eq_some_iff.mp hsh).1
  have hrow:(ss.map bL).take (i+1)=(ss.map bL).take i++[bL sh]:=by rw [List.take_add_one,C0,hsh];rfl
  refine I3 (Cd4 hI.abv ?_)
  have hj:jO (s.cs.map (·.1)) sh.n<=s.cs.length:=by have:=Ct3 (ds:=s.cs.map (·.1)) (n:=sh.n);rw [B6] at this;exact this
  have hds:jO (itS ((ss.map bL).take i)).2 sh.n=jO (s.cs.map (·.1)) sh.n:=by rw [hI.ds]
  generalize jO (s.cs.map (·.1)) sh.n=j at hj hds
  obtain ⟨l,htop,hri,hch⟩:=hI.top
  have hA:H0.length+1<G.length:=hI.len
  have e1:L0 G (G.set (H0.length+1) ((s.cs.take j).map cV)) (H0.length+2) G.length:=L0.set (Or.inl (B1 _))
  have hlen1:(G.set (H0.length+1) ((s.cs.take j).map cV)).length=G.length:=List.length_set
  have htop1:(G.set (H0.length+1) ((s.cs.take j).map cV))[H0.length]? = some l:=(List.getElem?_set_ne (Nat.ne_of_gt (B1 _))).trans htop
  have habv1:=fO (l':=(s.cs.take j).map cV) hI.abv
  have hold1:L0 H0 (G.set (H0.length+1) ((s.cs.take j).map cV)) 0 H0.length:=hI.old.trans (L0.set (Or.inr (B8 _)))
  replace hch:=hch.to hri e1
  replace hri:=hri.to e1
  rw [<- hlen1] at hri hA
  generalize G.set (H0.length+1) ((s.cs.take j).map cV)=G1 at hri hch htop1 habv1 hold1 hA
  refine P2 (T2 (I5 (fun zz h=>h) (P0 (fun zz h=>h) (gO (hs sh (B9 hsh)) (eR sh.r) fun H' lp hp1 hp2 hp3=>Z2 ?_))))
  have hle:=hp2.le
  have g1:E6 G1 (H'++[[]]):=⟨by rw [L7];exact B5 (Nat.lt_of_succ_lt (Nat.le_succ_of_le hle)),hp3.trans (L0.one (B5 (Nat.lt_of_succ_lt hle)))⟩
  have hx:RI (H'++[[]]) (.it sh.n (pts sh.r) []) G1.length (H'++[[]]:Heap).length (cV (sh.n,G1.length,H'.length)):=⟨G1.length,H'.length,G1.length+2,H'.length,lp,[],rfl,⟨A4 _,Nat.lt_of_succ_lt hle,B4 _ _,A4 _⟩,J5 hp1,hp2.to (L0.one (A4 _)),E0,by rw [L7];exact A4 _,rfl⟩
  have hch2:=hch.to hri (g1.old.sub (B0 _) (A4 _))
  replace hri:=hri.to (g1.old.sub (B0 _) (A4 _))
  obtain ⟨lt,hi1,hi2,hi3,l',hi4,hi5,hi6⟩:=Cn0 hx j _ (H0.length+2) l s.cs H0.length hri hch2 hj (g1.get htop1) (Or.inl (Nat.lt_add_of_pos_right (by decide)))
  have habv2:=g1.get habv1
  have hltl:lt.length<I8:=by have:=hI.cnt;exact M4 (M9 hi2 (M9 this (M9 hsi (M9 hl (Nat.le_of_eq hlim.symm)))))
  have hbt:tgt H0.length s.cs j≠H0.length+1:=by rcases hi3 with q | q<;>lia
  have habv3:((H'++[[]]).set (tgt H0.length s.cs j) (lt++[cV (sh.n,G1.length,H'.length)]))[H0.length+1]? = some ((s.cs.take j).map cV):=(List.getElem?_set_ne hbt).trans habv2
  have hcl:((s.cs.take j).map cV).length<I8:=by rw [B6,List.length_take];exact A9 (Nat.min_le_right _ _) (by have:=hI.csl;exact M4 (M9 this (M9 hsi (M9 hl (Nat.le_of_eq hlim.symm)))))
  have es:itS ((ss.map bL).take (i+1))=fM (itS ((ss.map bL).take i)) (bL sh):=by rw [hrow,Bt3]
  have hlen2:H0.length+2<=(H'++[[]]).length:=A3 hA g1.len
  have hold2:L0 H0 ((H'++[[]]).set (tgt H0.length s.cs j) (lt++[cV (sh.n,G1.length,H'.length)])) 0 H0.length:=(hold1.trans (g1.old.sub (A4 _) (B5 (Nat.lt_of_succ_lt hA)))).trans (L0.set (Or.inr (by rcases hi3 with q | q<;>lia)))
  have hl3:((H'++[[]]).set (tgt H0.length s.cs j) (lt++[cV (sh.n,G1.length,H'.length)])).length=(H'++[[]]:Heap).length:=List.length_set
  rw [<- hl3] at hi5 hlen2
  have hbt0:=hi1
  generalize hG2:(H'++[[]]).set (tgt H0.length s.cs j) (lt++[cV (sh.n,G1.length,H'.length)])=G2 at hi4 hi5 hi6 habv3 hold2 hlen2
  have e3:L0 G2 (G2.set (H0.length+1) ((s.cs.take j).map cV++[cV (sh.n,G1.length,H'.length)])) (H0.length+2) G2.length:=L0.set (Or.inl (B1 _))
  have next:K [some (.ref a),some (.ref H0.length),some (.ref (H0.length+1)),some (shV sh),some (cV (sh.n,G1.length,H'.length))] (G2.set (H0.length+1) ((s.cs.take j).map cV++[cV (sh.n,G1.length,H'.length)])):=by
   refine hK ⟨s.cs.take j++[(sh.n,G1.length,H'.length)],_,_⟩ _ ⟨hold2.trans (L0.set (Or.inr (B8 _))),by rw [List.length_set];exact hlen2,?_,⟨l',?_,?_,?_⟩,?_,?_,?_⟩
   ·rw [List.map_append];exact fO habv3
   ·exact (List.getElem?_set_ne (Nat.ne_of_gt (B1 _))).trans hi4
   ·unfold itF
    rw [List.length_set,es]
    show W5 _ (insAt (jO (itS ((ss.map bL).take i)).2 sh.n) (itS ((ss.map bL).take i)).1 (.it sh.n (pts sh.r) [])) _ _ _
    rw [hds]
    exact hi5.to e3
   ·exact hi6.to hi5 e3
   ·rw [es]
    show _=(itS ((ss.map bL).take i)).2.take (jO (itS ((ss.map bL).take i)).2 sh.n)++[sh.n]
    rw [hds,<- hI.ds,List.map_append,List.map_take];rfl
   ·unfold itF
    rw [es]
    show cnts (insAt _ _ _)<=_
    rw [oG]
    exact B3 hI.cnt
   ·show (s.cs.take j++[_]).length<=i+1
    rw [A6,List.length_take]
    exact B3 (A3 (Nat.min_le_right _ _) hI.csl)
  have last:∀ {R:E2},(∀ ρ G,K ρ G->R .next ρ G)->C4 (C1 P (n+3)) [.expr (.append (.var 2) (.var 4))] [some (.ref a),some (.ref H0.length),some (.ref (H0.length+1)),some (shV sh),some (cV (sh.n,G1.length,H'.length))] R G2:=fun {R} hR=>I0 (fun zz h=>h) (fun zz h=>h) habv3 hcl (hR _ _ next)
  cases j with
  | zero =>
   refine D4 (C7 (K0 (fun zz h=>h) (J4 habv2)) (fun zz h=>h) T0) (I0 (H1:=H'++[[]]) (fun zz h=>h) (fun zz h=>h) hbt0 hltl (nB (fW ?_)))
   exact hG2▸last fun zz zz h=>h
  | succ j =>
   have hc:s.cs[j]? = some s.cs[j]:=List.getElem?_eq_getElem hj
   have et:tgt H0.length s.cs (j+1)=s.cs[j].2.2:=by show (match s.cs[j]? with | some c=>c.2.2 | none=>H0.length)=_;rw [hc]
   rw [X6 hc] at habv2
   rw [et] at hbt0 hG2
   refine D5 (J6 (C7 (K0 (fun zz h=>h) (J4 habv2)) (fun zz h=>h) T0) fZ) (I0 (H1:=H'++[[]]) (E4 (E4 (fun zz h=>h) (fun zz h=>h) (J8 habv2)) (fun zz h=>h) rfl) (fun zz h=>h) hbt0 hltl (nB (fW ?_)))
   exact hG2▸last fun zz zz h=>h
 ·obtain ⟨l,h1,h2,_⟩:=hI.top
  rw [B6,List.take_of_length_le (by rw [B6];exact A4 _)] at h2
  exact h G l h1 h2.rep hI.old
inductive Bk where
 | gap (n:Nat)
 | head (n:Nat) (ts:List T)
 | list (is:List It)
 | para (rs:List (List T))
 | quote (bs:List Bk)
noncomputable def xK:List (List T)->List X
 | []=>[]
 | ts::r=>.lst (G9 ts)::xK r
mutual
noncomputable def bkE:Bk->X
 | .gap n=>.tup [.at (.s [103,97,112]),.at (.i (n:Nat))]
 | .head n ts=>.tup [.at (.s [104,101,97,100,105,110,103]),.at (.i (n:Nat)),.lst (G9 ts)]
 | .list is=>.tup [.at (.s [108,105,115,116]),.lst (aG is)]
 | .para rs=>.tup [.at (.s [112,97,114,97]),.lst (xK rs)]
 | .quote bs=>.tup [.at (.s [113,117,111,116,101]),.lst (L9 bs)]
noncomputable def L9:List Bk->List X
 | []=>[]
 | b::bs=>bkE b::L9 bs
end
theorem cF:∀ bs:List Bk,L9 bs=bs.map bkE
 | []=>rfl
 | b::bs=>congrArg (bkE b::·) (cF bs)
theorem Ac3 (as bs:List Bk):L9 (as++bs)=L9 as++L9 bs:=Al0 cF as bs
theorem aA (bs:List Bk):(L9 bs).length=bs.length:=uT (cF bs)
theorem gB:∀ rs:List (List T),xK rs=rs.map fun ts=>.lst (G9 ts)
 | []=>rfl
 | ts::rs=>congrArg (X.lst (G9 ts)::·) (gB rs)
theorem Cd5 (as bs:List (List T)):xK (as++bs)=xK as++xK bs:=Al0 gB as bs
noncomputable def joins (s:Sh) (g:List Sh):Bool:=match g with
 | t::_=>t.k==s.k&&s.k != 2
 | []=>false
noncomputable def grpF:List Sh->List (List Sh)
 | []=>[]
 | s::r=>match grpF r with
  | []=>[[s]]
  | g::gs=>bif joins s g then (s::g)::gs else [s]::g::gs
theorem Bt9 (s:Sh) (r:List Sh):∃ m gs,grpF (s::r)=(s::m)::gs:=by
 show ∃ m gs,(match grpF r with
  | []=>[[s]]
  | g::gs=>bif joins s g then (s::g)::gs else [s]::g::gs)=(s::m)::gs
 cases grpF r with
 | nil=>exact ⟨[],[],rfl⟩
 | cons g gs =>
  show ∃ m gs',(bif joins s g then (s::g)::gs else [s]::g::gs)=(s::m)::gs'
  cases joins s g with
  | true=>exact ⟨g,gs,rfl⟩
  | false=>exact ⟨[],g::gs,rfl⟩
structure Uni (s:Sh) (m:List Sh):Prop where
 same:∀ t∈m,t.k=s.k
 one:s.k=2->m=[]
noncomputable def Stp (s:Sh):List Sh->Prop
 | []=>True
 | x::_=>x.k≠s.k∨s.k=2
theorem gC:∀ {s:Sh}{m r:List Sh},Uni s m->Stp s r->grpF (s::(m++r))=(s::m)::grpF r
 | s,[],[],_,_=>rfl
 | s,[],x::r,_,h=>by
  obtain ⟨m,gs,e⟩:=Bt9 x r
  show (match grpF (x::r) with
   | []=>[[s]]
   | g::gs=>bif joins s g then (s::g)::gs else [s]::g::gs)=[s]::grpF (x::r)
  rw [e]
  have q:joins s (x::m)=false:=by
   show (x.k==s.k&&s.k != 2)=false
   rcases h with h | h
   ·rw [show (x.k==s.k)=false by simpa using h];rfl
   ·rw [h,Bool.and_comm];rfl
  show (bif joins s (x::m) then _ else _)=_
  rw [q];rfl
 | s,t::m,r,hu,h=>by
  have et:t.k=s.k:=hu.same t (.head _)
  have e2:s.k≠2:=fun q=>nomatch hu.one q
  have ih:=gC (s:=t) (m:=m) (r:=r) ⟨fun x hx=>(hu.same x (.tail _ hx)).trans et.symm,fun q=>absurd (et.symm.trans q) e2⟩ (by
   match r,h with
   | [],_=>exact trivial
   | x::r,h=>exact h.imp (fun q=>by rw [et];exact q) (fun q=>absurd q e2))
  show (match grpF (t::(m++r)) with
   | []=>[[s]]
   | g::gs=>bif joins s g then (s::g)::gs else [s]::g::gs)=_
  rw [ih]
  have q:joins s (t::m)=true:=by
   show (t.k==s.k&&s.k != 2)=true
   rw [et];simpa using e2
  show (bif joins s (t::m) then _ else _)=_
  rw [q];rfl
noncomputable def qU (rec:List (List Nat)->List Bk) (g:List Sh):Bk:=match g with
 | []=>.gap 0
 | s::_=>match s.k with
  | 0=>.gap g.length
  | 1=>.quote (rec (g.map (·.r)))
  | 2=>.head s.n (pts s.r)
  | 3=>.list (itF (g.map bL))
  | _=>.para (g.map fun s=>pts s.r)
noncomputable def rdF:Nat->List (List Nat)->List Bk
 | 0,rows=>(grpF (rows.map (shp 9))).map (qU fun zz=>[])
 | d+1,rows=>(grpF (rows.map (shp (8 - d)))).map (qU (rdF d))
theorem Cs1 (deep:Nat) (row:List Nat):(shp deep row).k<=4/\((shp deep row).k=1->deep<9)/\(shp deep row).r.length<=row.length:=by
 rcases jC deep row with ⟨rfl,e⟩ | ⟨h0,⟨hq,e⟩ | ⟨hq,⟨h35,e⟩ | ⟨h35,⟨h45,e⟩ | ⟨h45,e⟩⟩⟩⟩
 ·rw [e];exact ⟨by decide,(fun q=>nomatch q),A4 _⟩
 ·rw [e];exact ⟨(by decide:(1:Nat)<=4),(fun zz=>of_decide_eq_true (Bool.and_eq_true_iff.mp hq).1),by show (row.drop 2).length<=_;rw [List.length_drop];exact Nat.sub_le _ _⟩
 ·rw [e];exact ⟨(by decide:(2:Nat)<=4),(fun q=>nomatch q),by show (row.drop _).length<=_;rw [List.length_drop];exact Nat.sub_le _ _⟩
 ·rw [e];exact ⟨(by decide:(3:Nat)<=4),(fun q=>nomatch q),by show (row.drop _).length<=_;rw [List.length_drop];exact Nat.sub_le _ _⟩
 ·rw [e];exact ⟨A4 _,(fun q=>nomatch q),A4 _⟩
theorem Cx2 {k:Nat}(h:k<=4):k=0∨k=1∨k=2∨k=3∨k=4:=(by decide:∀ k<5,k=0∨k=1∨k=2∨k=3∨k=4) k (Nat.lt_succ_of_le h)
theorem Bk5:∀ a<5,∀ b<5,(nmS a==nmS b)=(a==b):=by decide
theorem nK {G:Heap}{xs:List X}{a k:Nat}{l:List V}(h:G[a]? = some l) (hr:E8 G xs (a+k+1) G.length l):J0 G (.lst xs) a G.length (.ref a):=by
 have hle:=hr.le
 exact N9 ⟨A4 _,H8 h,Nat.le_succ_of_le (B4 _ _),A4 _⟩ h hr
theorem aR {H G:Heap}{xs:List X}{k:Nat}{l:List V}(hr:E8 G xs (H.length+k) G.length l) (e:L0 H G 0 H.length):E6 H G:=⟨A3 (B4 _ _) hr.le,e⟩
noncomputable def BQ (H:Heap) (x:X) (Q:C2):Prop:=∀ v G,E6 H G->J0 G x H.length G.length v->Q v G
theorem nX {G:Heap}{x:X}{lo hi:Nat}{v:V}{w:List Nat}(hh:lo<=hi) (h:J0 G x lo hi v):J0 G (.tup [.at (.s w),x]) lo hi (.tup [.str w,v]):=⟨_,rfl,.atom (a:=.s w) (.one hh h)⟩
structure Grp (H:Heap) (a:Nat) (f:Sh->V) (s:Sh) (m:List Sh):Prop where
 get:H[a]? = some ((s::m).map f)
 len:(s::m).length<=1000000
 row:∀ t∈s::m,t.r.length<=1000000
theorem Bu9 {n a deep:Nat}{s:Sh}{m:List Sh}{rec:List (List Nat)->List Bk}{H:Heap}{Q:C2}(hg:Grp H a shV s m) (hk:s.k<=4)
  (hrec:s.k=1->∀ (b:Nat) (G:Heap) (Q:C2),G[b]? = some (((s::m).map (·.r)).map .str)->BQ G (.lst (L9 (rec ((s::m).map (·.r))))) Q->C1 P (n+4) "blocks_of" [.ref b,.int ((deep+1:Nat):Int)] Q G)
  (h:BQ H (bkE (qU rec (s::m))) Q):C1 P (n+5) "block_of" [.ref a,.int (deep:Nat)] Q H:=by
 have hlim:I8=16777216:=rfl
 obtain ⟨hga,hlen,hrow⟩:=hg
 have hal:=H8 hga
 have hlm:((s::m).map shV).length=(s::m).length:=B6 _
 obtain ⟨k,sn,sr⟩:=s
 have e0:∀ {C:Calls}{x y:Option V}{j:Nat}{c:V}(hj:X9 (shV ⟨k,sn,sr⟩) (.int j) H=some c),Ev C [some (.ref a),some (.int (deep:Nat)),x,y] H (.idx (.idx (.var 0) (.int 0)) (.int j)) c:=fun hj=>E4 (E4 (fun zz h=>h) (fun zz h=>h) (S3 (i:=0) hga rfl)) (fun zz h=>h) hj
 refine Af9 (C6 (e0 (j:=0) rfl) ?_)
 rcases Cx2 hk with rfl | rfl | rfl | rfl | rfl
 ·exact D5 (fun zz h=>h) (I6 (fI (C9 (fun zz h=>h) (C9 (K0 (fun zz h=>h) (J4 hga)) K5))) (h _ H .refl ⟨_,rfl,.atom (a:=.s _) (by rw [hlm];exact .atom (a:=.i _) (.nil (A4 _)))⟩))
 ·refine C3 (fun zz h=>h) (C3 (fun zz h=>h) (C3 (fun zz h=>h) (C3 (fun zz h=>h) (U1 (T2 (I5 (fun zz h=>h) (M5 (M6 ?_))))))))
  refine M5 (Cr3 (fun v=>match v with | .tup [_,_,w]=>w | _=>.none) ?_ hga (by rw [hlm];exact M4 (M9 hlen (Nat.le_of_eq hlim.symm))) (fun v hv=>?_) _ ?_)
  ·exact fun zz h=>h
  ·obtain ⟨t,_,rfl⟩:=List.mem_map.mp hv
   exact fun zz h=>h
  refine I5 (v:=.int ((deep+1:Nat):Int)) (fun zz h=>h) (I1 (hrec rfl H.length _ _ ?_ fun v G g hr=>I1 ?_))
  ·rw [List.map_map,List.map_map];exact E0
  ·exact h _ G (E6.one.trans g) (nX (E6.one.trans g).len (hr.wide (by rw [L7];exact B8 _) (A4 _)))
 ·refine C3 (fun zz h=>h) (D5 (fun zz h=>h) (U1 (T2 (I5 (fun zz h=>h) (I5 (e0 (j:=1) rfl) (P0 (C9 (e0 (j:=2) rfl) K5) (gO (hrow _ (.head _)) (eR sr) fun G l g1 g2 g3=>I1 ?_)))))))
  exact h _ G (aR g2 g3) ⟨_,rfl,.atom (a:=.s _) (.atom (a:=.i _) (.one (aR g2 g3).len (nK (k:=1) g1 g2)))⟩
 ·refine C3 (fun zz h=>h) (C3 (fun zz h=>h) (D5 (fun zz h=>h) (U1 (T2 (I5 (fun zz h=>h) (P0 (fun zz h=>h) (Bt2 hga hlen hrow fun G l g1 g2 g3=>I1 ?_)))))))
  exact h _ G (aR g2 g3) (nX (aR g2 g3).len (nK (k:=1) g1 g2))
 ·refine C3 (fun zz h=>h) (C3 (fun zz h=>h) (C3 (fun zz h=>h) (D5 (fun zz h=>h) (U1 (T2 (I5 (fun zz h=>h) (M5 (Aj9 ?_ (by rw [hlm];exact M4 (M9 hlen (Nat.le_of_eq hlim.symm))) (fun i acc G=>E6 H G/\E8 G (xK (((⟨4,sn,sr⟩::m).map fun s=>pts s.r).take i)) H.length G.length acc) (fun i acc G hI=>hI.1.get hga) (fun i acc G v hv hi hI K hK=>?_) ⟨.refl,.nil (A4 _)⟩ _ fun acc G hacc hI=>I1 ?_))))))))
  ·exact fun zz h=>h
  ·rw [C0] at hv
   obtain ⟨t,ht,rfl⟩:=Option.map_eq_some_iff.mp hv
   refine M6 (I5 (v:=.str t.r) (fun zz h=>h) (I1 (gO (hrow t (B9 ht)) (eR t.r) fun G' l g1 g2 g3=>hK _ _ ⟨hI.1.trans (aR g2 g3),?_⟩)))
   have gg:=aR g2 g3
   rw [List.take_add_one,C0,ht,Cd5]
   exact ((hI.2.grow gg (A4 _)).add gg.len (nK (k:=1) g1 g2))
  ·rw [hlm,List.take_of_length_le (by rw [B6];exact A4 _)] at hI
   refine h _ _ (hI.1.trans .one) (nX (A3 hI.1.len E6.one.len) (N9 ⟨hI.1.len,by rw [L7];exact B1 _,A4 _,by rw [L7];exact B8 _⟩ E0 (hI.2.grow .one (A4 _))))
noncomputable def xS:Nat->List (List Nat)->List Bk
 | 0=>fun zz=>[]
 | d+1=>rdF d
theorem uP {d deep:Nat}(h:deep+d=9) (rows:List (List Nat)):rdF d rows=(grpF (rows.map (shp deep))).map (qU (xS d)):=by
 cases d with
 | zero=>obtain rfl:deep=9:=h;rfl
 | succ d =>
  obtain rfl:deep=8 - d:=Nat.eq_sub_of_add_eq (Nat.succ.inj h)
  rfl
noncomputable def At5 (d deep n:Nat):Prop:=∀ (a:Nat) (rows:List (List Nat)) (H:Heap) (Q:C2),H[a]? = some (rows.map .str)->rows≠[]->rows.length<=1000000->(∀ r∈rows,r.length<=1000000)->BQ H (.lst (L9 (rdF d rows))) Q->C1 P n "blocks_of" [.ref a,.int (deep:Nat)] Q H
structure BS where
 gsd:List (List Sh)
 g:List Sh
 ga:Nat
 e4:Option V
 e5:Option V
structure Cq6 (H0:Heap) (rec:List (List Nat)->List Bk) (all:List Sh) (i:Nat) (s:BS) (G:Heap):Prop where
 old:L0 H0 G 0 H0.length
 blk:∃ l,G[H0.length]? = some l/\E8 G (L9 (s.gsd.map (qU rec))) (H0.length+1) s.ga l
 grp:G[s.ga]? = some (s.g.map shV)
 len:s.gsd.length+s.g.length<=i
 eq:grpF all=s.gsd++grpF (s.g++all.drop i)
 uni:(i=0/\s.g=[])∨∃ t m,s.g=t::m/\Uni t m/\∀ x∈t::m,x∈all
theorem Ac2 {n d deep i:Nat}{H0:Heap}{all:List Sh}{s:BS}{G:Heap}{Q:C2}{t:Sh}{m:List Sh}(hd:deep+d=9) (ih:∀ d',d=d'+1->At5 d' (deep+1) (n+4)) (hi:i<=1000000) (hall:∀ x∈all,x.k<=4/\(x.k=1->deep<9)/\x.r.length<=1000000)
  (hI:Cq6 H0 (xS d) all i s G) (hg:s.g=t::m) (hm:∀ x∈t::m,x∈all)
  (h:∀ l v G',E6 G G'->G'[H0.length]? = some l->l.length<I8->L0 H0 (G'.set H0.length (l++[v])) 0 H0.length->E8 (G'.set H0.length (l++[v])) (L9 ((s.gsd++[s.g]).map (qU (xS d)))) (H0.length+1) (G'.set H0.length (l++[v])).length (l++[v])->Q v G') :
  C1 P (n+5) "block_of" [.ref s.ga,.int (deep:Nat)] Q G:=by
 have hlim:I8=16777216:=rfl
 have hlen:=hI.len
 rw [hg] at hlen
 have hml:(t::m).length<=1000000:=A3 (Nat.le_add_left _ _) (A3 hlen hi)
 obtain ⟨l,h1,h2⟩:=hI.blk
 have hgl:=H8 hI.grp
 have hle:=h2.le
 refine Bu9 (rec:=xS d) (s:=t) (m:=m) ⟨hg▸hI.grp,hml,fun x hx=>(hall x (hm x hx)).2.2⟩ (hall t (hm t (.head _))).1 (fun hk b G' Q' hb hq=>?_) fun v G' g hr=>?_
 ·have hd9:=(hall t (hm t (.head _))).2.1 hk
  obtain ⟨d',rfl⟩:=mC hd hd9
  refine ih d' rfl b _ G' Q' hb (by simp) (by rw [B6];exact hml) (fun r hr=>?_) hq
  obtain ⟨x,hx,rfl⟩:=List.mem_map.mp hr
  exact (hall x (hm x hx)).2.2
 ·have h1':=g.get h1
  have hl:l.length<I8:=by rw [h2.len,aA,B6];exact A9 (A3 (B4 _ _) (A3 hlen hi)) (by show 1000000<16777216;decide)
  refine h l v G' g h1' hl ((hI.old.trans (g.old.sub (A4 _) (B5 (H8 h1)))).trans (L0.set (Or.inr (A4 _)))) ?_
  have e:∀ {hi:Nat},L0 G' (G'.set H0.length (l++[v])) (H0.length+1) hi:=L0.set (Or.inl (B1 _))
  rw [List.length_set,List.map_append,Ac3,hg]
  exact (((h2.grow g (B5 hgl)).to e).wide (A4 _) (B5 hgl)).add g.len (hr.to (e.sub (A3 hle (B5 hgl)) (A4 _)))
theorem lA {n d deep:Nat}(hd:deep+d=9) (ih:∀ d',d=d'+1->At5 d' (deep+1) (n+4)):At5 d deep (n+6):=by
 intro a rows H0 Q ha hne hlen hrow hQ
 have hlim:I8=16777216:=rfl
 have hal:=H8 ha
 have hall:∀ x∈rows.map (shp deep),x.k<=4/\(x.k=1->deep<9)/\x.r.length<=1000000:=fun x hx=>by
  obtain ⟨r,hr,rfl⟩:=List.mem_map.mp hx
  have:=Cs1 deep r
  exact ⟨this.1,this.2.1,A3 this.2.2 (hrow r hr)⟩
 rw [uP hd] at hQ
 refine wZ (J9 (H1:=H0++[[]]) (fun zz h=>h) (J9 (H1:=H0++[[]]++[[]]) (fun zz h=>h) (I3 (V2 (σ:=BS) (fun s=>[some (.ref a),some (.int (deep:Nat)),some (.ref H0.length),some (.ref s.ga),s.e4,s.e5]) (Cq6 H0 (xS d) (rows.map (shp deep))) (l:=rows.map .str) (fun i s G hI=>?_) (fun i s G v hv hI K hK=>?_) (fun s G hI=>?_) ⟨[],[],(H0++[[]]:Heap).length,none,none⟩ (fun zz h=>h)
  ⟨(E6.one.trans E6.one).old,⟨[],J5 E0,.nil (by rw [L7];exact A4 _)⟩,E0,A4 _,rfl,Or.inl ⟨rfl,rfl⟩⟩))))
 ·exact (hI.old a (B0 _) hal).trans ha
 ·rw [C0] at hv
  obtain ⟨row,hr,rfl⟩:=Option.map_eq_some_iff.mp hv
  have hi:i<rows.length:=(List.getElem?_eq_some_iff.mp hr).1
  have hx:(rows.map (shp deep))[i]? = some (shp deep row):=by rw [C0,hr];rfl
  have hdrop:(rows.map (shp deep)).drop i=shp deep row::(rows.map (shp deep)).drop (i+1):=by
   obtain ⟨h1,h2⟩:=List.getElem?_eq_some_iff.mp hx
   rw [List.drop_eq_getElem_cons h1,h2]
  have hxm:shp deep row∈rows.map (shp deep):=B9 hx
  have hxk:=hall _ hxm
  have heq:=hI.eq
  rw [hdrop] at heq
  refine C6 (D3 (fun zz h=>h) zZ) ?_
  have push:∀ {gsd:List (List Sh)}{g:List Sh}{ga:Nat}{G:Heap}{R:E2},(∀ ρ G,K ρ G->R .next ρ G)->L0 H0 G 0 H0.length->(∃ l,G[H0.length]? = some l/\E8 G (L9 (gsd.map (qU (xS d)))) (H0.length+1) ga l)->G[ga]? = some (g.map shV)->gsd.length+g.length<=i->grpF (rows.map (shp deep))=gsd++grpF (g++shp deep row::(rows.map (shp deep)).drop (i+1)) ->
    (∃ t m,g++[shp deep row]=t::m/\Uni t m/\∀ x∈t::m,x∈rows.map (shp deep))->C4 (C1 P (n+5)) [.expr (.append (.var 3) (.var 5))] [some (.ref a),some (.int (deep:Nat)),some (.ref H0.length),some (.ref ga),some (.str row),some (shV (shp deep row))] R G:=fun {gsd g ga G R} hR p1 p2 p3 p4 p5 p6=>by
   obtain ⟨l,q1,q2⟩:=p2
   have hle:=q2.le
   refine I0 (fun zz h=>h) (fun zz h=>h) p3 (by rw [B6];exact M4 (M9 p4 (M9 hi (M9 hlen (Nat.le_of_eq hlim.symm))))) (hR _ _ (hK ⟨gsd,g++[shp deep row],ga,_,_⟩ _ ⟨p1.trans (L0.set (Or.inr (Nat.le_of_succ_le hle))),⟨l,(List.getElem?_set_ne (Nat.ne_of_gt hle)).trans q1,q2.to (L0.set (Or.inr (A4 _)))⟩,?_,?_,?_,Or.inr p6⟩))
   ·rw [List.map_append];exact fO p3
   ·show gsd.length+(g++[_]).length<=i+1
    rw [A6];exact B3 p4
   ·rw [p5,A7];rfl
  rcases hI.uni with ⟨hi0,hg0⟩ | ⟨t,m,hg,hu,hm⟩
  ·have hgrp:=hI.grp
   rw [hg0] at hgrp heq
   refine C3 (E5 (b:=false) (b2:=true) (C7 (K0 (fun zz h=>h) (J4 hgrp)) (fun zz h=>h) T0) fun q=>nomatch q) (push (g:=[]) (fun zz zz h=>h) hI.old hI.blk hgrp (by have:=hI.len;rw [hg0] at this;exact this) heq ⟨_,[],rfl,⟨fun zz q=>(nomatch q),fun zz=>rfl⟩,fun y hy=>?_⟩)
   rw [List.mem_singleton.mp hy];exact hxm
  ·have hgrp:=hI.grp
   rw [hg] at hgrp heq
   have htk:=(hall t (hm t (.head _))).1
   have e1:∀ {C:Calls}{b:Bool},(!(nmS t.k==nmS (shp deep row).k)||(nmS (shp deep row).k==nmS 2))=b->Ev C [some (.ref a),some (.int (deep:Nat)),some (.ref H0.length),some (.ref s.ga),some (.str row),some (shV (shp deep row))] G (.and [.cmp .gt (.len (.var 3)) (.int 0),.or [.cmp .ne (.idx (.idx (.var 3) (.int 0)) (.int 0)) (.idx (.var 5) (.int 0)),.cmp .eq (.idx (.var 5) (.int 0)) (.str [104,101,97,100,105,110,103])]]) (.bool b):=fun {C b} e =>
    J6 (E5 (b:=true) (J6 (C7 (K0 (fun zz h=>h) (J4 hgrp)) (fun zz h=>h) T0) (decide_eq_true (Int.natCast_pos.mpr (Nat.succ_pos _)))) fun zz=>G8 (J6 (R1 (C7 (E4 (E4 (fun zz h=>h) (fun zz h=>h) (S3 (i:=0) hgrp rfl)) (fun zz h=>h) rfl) (fun zz h=>h) mQ) fun zz=>Y3 (fun zz h=>h)) e)) (Bool.true_and b)
   rw [Bk5 _ (Nat.lt_succ_of_le htk) _ (Nat.lt_succ_of_le hxk.1),Bk5 _ (Nat.lt_succ_of_le hxk.1) 2 (by decide)] at e1
   by_cases hst:(shp deep row).k≠t.k∨t.k=2
   ·have hcut:=gC (r:=shp deep row::(rows.map (shp deep)).drop (i+1)) hu hst
    rw [show t::m++shp deep row::(rows.map (shp deep)).drop (i+1)=t::(m++shp deep row::(rows.map (shp deep)).drop (i+1)) from rfl,hcut,<- List.singleton_append,<- A7] at heq
    refine D5 (e1 ?_) (cA (fun zz h=>h) (fun zz h=>h) (Ac2 hd ih (by exact M4 (M9 hi hlen)) hall hI hg hm fun l v G' g' q1 q2 q3 q4=>K2 q1 q2 ?_))
    ·rcases hst with q | q
     ·rw [show (t.k==(shp deep row).k)=false by simpa using q.symm];rfl
     ·by_cases q2:(shp deep row).k=t.k
      ·rw [q2,q];rfl
      ·rw [show (t.k==(shp deep row).k)=false by simpa using fun e=>q2 e.symm];rfl
    ·have hlen:=hI.len
     rw [hg] at hlen q4
     have hA:(G'.set H0.length (l++[v]))[H0.length]? = some (l++[v]):=fO q1
     refine J9 (H1:=G'.set H0.length (l++[v])++[[]]) (fun zz h=>h) (nB (fW (push (gsd:=s.gsd++[t::m]) (g:=[]) (fun zz zz h=>h) (q3.trans (L0.one (B5 (H8 hA)))) ⟨_,J5 hA,q4.to (L0.one (A4 _))⟩ E0 ?_ ?_ ⟨_,[],rfl,⟨fun zz q=>(nomatch q),fun zz=>rfl⟩,fun y hy=>?_⟩)))
     ·rw [A6]
      exact A3 (Nat.add_le_add_left (B3 (B0 _)) _) hlen
     ·exact heq
     ·rw [List.mem_singleton.mp hy];exact hxm
   ·have hk:(shp deep row).k=t.k/\t.k≠2:=⟨Classical.not_not.mp fun q=>hst (Or.inl q),fun q=>hst (Or.inr q)⟩
    refine C3 (e1 ?_) (push (g:=t::m) (fun zz zz h=>h) hI.old hI.blk hgrp (by have:=hI.len;rw [hg] at this;exact this) heq ⟨t,m++[shp deep row],rfl,⟨fun y hy=>?_,fun q=>absurd q hk.2⟩,fun y hy=>?_⟩)
    ·rw [hk.1,show (t.k==t.k)=true by simp,show (t.k==2)=false by simpa using hk.2];rfl
    ·rcases List.mem_append.mp hy with q | q
     ·exact hu.same y q
     ·rw [List.mem_singleton.mp q];exact hk.1
    ·rcases List.mem_append.mp (show y∈(t::m)++[shp deep row] from hy) with q | q
     ·exact hm y q
     ·rw [List.mem_singleton.mp q];exact hxm
 ·have hn:(rows.map V.str).length=rows.length:=B6 _
  rw [hn] at hI
  rcases hI.uni with ⟨hi0,_⟩ | ⟨t,m,hg,hu,hm⟩
  ·exact absurd (List.length_eq_zero_iff.mp hi0) hne
  ·have heq:=hI.eq
   rw [List.drop_of_length_le (by rw [B6];exact A4 _),hg] at heq
   have hcut:=gC (r:=[]) hu trivial
   rw [show t::m++[]=t::(m++[]) from rfl,hcut] at heq
   refine cA (fun zz h=>h) (fun zz h=>h) (Ac2 hd ih hlen hall hI hg hm fun l v G' g' q1 q2 q3 q4=>K2 q1 q2 ?_)
   have hA:(G'.set H0.length (l++[v]))[H0.length]? = some (l++[v]):=fO q1
   refine hQ _ _ ⟨B5 (H8 hA),q3⟩ ?_
   rw [heq,<- hg]
   exact nK (k:=0) hA q4
theorem tK:∀ (d deep n:Nat),deep+d=9->At5 d deep (n+2 * d+6)
 | 0,deep,n,h=>lA h fun d' q=>nomatch q
 | d+1,deep,n,h=>lA (n:=n+2 * d+2) h fun d' q=>by
   cases q
   exact tK d (deep+1) n (yD h)
noncomputable def eM (deep:Nat) (ts:List T):Prop:=∀ t∈ts,M1 W (2 * (12 - deep)+1) (enc t)
theorem eM.nil {deep:Nat}:eM deep []:=fun zz q=>nomatch q
theorem eM.add {deep:Nat}{ts:List T}{t:T}(h:eM deep ts) (k:M1 W (2 * (12 - deep)+1) (enc t)):eM deep (ts++[t]):=fun x hx=>by
 rcases List.mem_append.mp hx with q | q
 ·exact h x q
 ·rw [List.mem_singleton.mp q];exact k
theorem eM.put {deep c:Nat}{ts:List T}(h:eM deep ts):eM deep (O0 ts c):=by
 have hadd:=h.add (t:=.txt [c]) Ax7
 rcases List.eq_nil_or_concat ts with rfl | ⟨us,t,rfl⟩
 ·exact hadd
 ·rw [List.concat_eq_append] at h hadd ⊢
  cases t with
  | txt s=>rw [cB];exact eM.add (fun x hx=>h x (List.mem_append_left _ hx)) Ax7
  | kept s=>unfold O0;simp only [List.getLast?_append,List.getLast?_singleton,Option.some_or];exact hadd
  | code s b=>unfold O0;simp only [List.getLast?_append,List.getLast?_singleton,Option.some_or];exact hadd
  | span c' ts b=>unfold O0;simp only [List.getLast?_append,List.getLast?_singleton,Option.some_or];exact hadd
  | link ts g b=>unfold O0;simp only [List.getLast?_append,List.getLast?_singleton,Option.some_or];exact hadd
theorem Br9 {ts:List T}{c:Nat}:(O0 ts c).length<=ts.length+1:=by
 rcases List.eq_nil_or_concat ts with rfl | ⟨us,t,rfl⟩
 ·exact A4 _
 ·rw [List.concat_eq_append]
  cases t with
  | txt s=>rw [cB,A6,A6];exact B8 _
  | kept s=>unfold O0;simp only [List.getLast?_append,List.getLast?_singleton,Option.some_or];rw [A6];exact A4 _
  | code s b=>unfold O0;simp only [List.getLast?_append,List.getLast?_singleton,Option.some_or];rw [A6];exact A4 _
  | span c' ts b=>unfold O0;simp only [List.getLast?_append,List.getLast?_singleton,Option.some_or];rw [A6];exact A4 _
  | link ts g b=>unfold O0;simp only [List.getLast?_append,List.getLast?_singleton,Option.some_or];rw [A6];exact A4 _
noncomputable def Ai9 (k:Nat):L6->Prop
 | []=>True
 | (_,p)::ctx=>ctx.length<12/\eM ctx.length p/\p.length<=k/\Ai9 k ctx
theorem Ai9.le {k m:Nat}(h:k<=m):∀ {ctx:L6},Ai9 k ctx->Ai9 m ctx
 | [],_=>trivial
 | _::ctx,q=>⟨q.1,q.2.1,A3 q.2.2.1 h,Ai9.le h q.2.2.2⟩
theorem Al2 {deep:Nat}{us:List T}(hd:deep<12) (hl:us.length<=W) (h:eM (deep+1) us) {t:T}(ht:(∃ c b,t=.span c us b)∨∃ g b,t=.link us g b):M1 W (2 * (12 - deep)+1) (enc t):=by
 have e0:12 - deep=12 - (deep+1)+1:=(Nat.sub_add_cancel (Nat.sub_pos_of_lt hd)).symm
 have e:2 * (12 - deep)+1=2 * (12 - (deep+1))+1+2:=by rw [e0];rfl
 rw [e]
 rcases ht with ⟨c,b,rfl⟩ | ⟨g,b,rfl⟩
 ·exact Bu2 hl h
 ·exact Bu3 hl h
theorem gY {k:Nat}(hk:k+1<=W):∀ {ctx:L6}{cur:List T},cur.length<=k+1->eM ctx.length cur->Ai9 k ctx->eM 0 (J2 cur ctx)/\(J2 cur ctx).length<=k+1
 | [],cur,h1,h2,_=>⟨h2,h1⟩
 | (kd,p)::ctx,cur,h1,h2,h3=>by
  refine gY hk (ctx:=ctx) (by rw [A6];exact B3 h3.2.2.1) (h3.2.1.add (Al2 h3.1 (A3 h1 hk) h2 ?_)) h3.2.2.2
  cases kd with
  | some c=>exact Or.inl ⟨c,false,rfl⟩
  | none=>exact Or.inr ⟨none,false,rfl⟩
theorem K4.fit {row:List Nat}{k:Nat}{cur r:List T}{ctx:L6}(h:K4 row k cur ctx r):row.length<=900000->k<=row.length+1->cur.length<=k->eM ctx.length cur->Ai9 k ctx->eM 0 r/\r.length<=row.length+2:=by
 have hW:W=1000000:=rfl
 induction h with
 | done hk =>
  intro h0 h1 h2 h3 h4
  have:=gY (k:=row.length+1) (by exact M4 (M9 h0 (Nat.le_of_eq hW.symm))) (A3 h2 (A3 h1 (B8 _))) h3 (h4.le h1)
  exact this
 | kept hc _ ih=>exact fun h0 h1 h2 h3 h4=>ih h0 (B3 (List.getElem?_eq_some_iff.mp hc).1) (by rw [A6];exact B3 (Nat.le_succ_of_le h2)) (h3.add Bu4) (h4.le (B4 _ _))
 | @code k cur r ctx hc _ ih =>
  intro h0 h1 h2 h3 h4
  have hk:=(List.getElem?_eq_some_iff.mp hc).1
  have hu:=gQ hk
  refine ih h0 (Nat.le_succ_of_le (Ac1 hk)) (by rw [A6];exact A9 h2 hu) (h3.add ?_) (h4.le (B5 hu))
  unfold R8
  split<;>exact Bu5
 | label hc h12 _ ih=>exact fun h0 h1 h2 h3 h4=>ih h0 (B3 (B5 (List.getElem?_eq_some_iff.mp hc).1)) (B0 _) .nil ⟨h12,h3,Nat.le_succ_of_le h2,h4.le (B8 _)⟩
 | span hc _ hn h12 _ ih=>exact fun h0 h1 h2 h3 h4=>ih h0 (Nat.le_succ_of_le (Cm5 hn)) (B0 _) .nil ⟨h12,h3,A3 h2 (B4 _ _),h4.le (B4 _ _)⟩
 | @shutS k c cur p r ctx hc _ ih =>
  intro h0 h1 h2 h3 h4
  exact ih h0 (B3 (B5 (List.getElem?_eq_some_iff.mp hc).1)) (by rw [A6];exact B3 h4.2.2.1) (h4.2.1.add (Al2 h4.1 (by exact M4 (M9 h2 (M9 h1 (M9 h0 (Nat.le_of_eq hW.symm))))) h3 (Or.inl ⟨c,true,rfl⟩))) (h4.2.2.2.le (B8 _))
 | @shutL k cur p r ctx hc _ ih =>
  intro h0 h1 h2 h3 h4
  have hk:=(List.getElem?_eq_some_iff.mp hc).1
  have hu:=gP (ts:=cur) hk
  exact ih h0 (Nat.le_succ_of_le (Aa7 hk)) (by rw [A6];exact A9 h4.2.2.1 hu) (h4.2.1.add (Al2 h4.1 (by exact M4 (M9 h2 (M9 h1 (M9 h0 (Nat.le_of_eq hW.symm))))) h3 (Or.inr Ap1))) (h4.2.2.2.le (B5 hu))
 | plain hc _ _ _ _ _ _ ih=>exact fun h0 h1 h2 h3 h4=>ih h0 (B3 (B5 (List.getElem?_eq_some_iff.mp hc).1)) (A3 Br9 (B3 h2)) h3.put (h4.le (B8 _))
theorem Cf3 {row:List Nat}(h:row.length<=900000):M1 W 26 (.lst (G9 (pts row))):=by
 obtain ⟨h1,h2⟩:=(eR row).fit h (B0 _) (B0 _) .nil trivial
 exact wB (m:=25) (A3 h2 (A3 (Nat.add_le_add_right h 2) (by decide))) h1
mutual
noncomputable def dI:It->Nat
 | .it _ _ sub=>dIs sub+1
noncomputable def dIs:List It->Nat
 | []=>0
 | i::is=>max (dI i) (dIs is)
end
theorem wE:∀ as bs:List It,dIs (as++bs)=max (dIs as) (dIs bs)
 | [],bs=>(Nat.zero_max _).symm
 | a::as,bs=>by show max (dI a) (dIs (as++bs))=max (max (dI a) (dIs as)) (dIs bs);rw [wE as bs,Nat.max_assoc]
mutual
noncomputable def PI:It->Prop
 | .it _ ts sub=>M1 W 26 (.lst (G9 ts))/\PIs sub
noncomputable def PIs:List It->Prop
 | []=>True
 | i::is=>PI i/\PIs is
end
theorem Z8 (is:List It):(aG is).length=is.length:=uT (oC is)
mutual
theorem Cn9:∀ {i:It}{m:Nat},dI i<=m->cnt i<=W->PI i->M1 W (2 * m+26) (itE i)
 | .it n ts sub,0,h,_,_=>nomatch h
 | .it n ts sub,m+1,h,hc,hp=>by
  refine M1.tup (m:=2 * m+27) (A3 (by decide:(3:Nat)<=4) W4) fun y hy=>?_
  rcases List.mem_cons.mp hy with rfl | hy
  ·exact M1.at
  ·rcases List.mem_cons.mp hy with rfl | hy
   ·exact hp.1.up (A4 _) (by exact fkz)
   ·rw [List.mem_singleton.mp hy]
    have hc':cnts sub+1<=W:=hc
    exact M1.lst (m:=2 * m+26) (by rw [Z8];exact A3 (Z6 sub) (Nat.le_of_succ_le hc')) (mH (Nat.le_of_succ_le_succ h) (Nat.le_of_succ_le hc') hp.2)
theorem mH:∀ {is:List It}{m:Nat},dIs is<=m->cnts is<=W->PIs is->∀ y∈aG is,M1 W (2 * m+26) y
 | [],_,_,_,_=>fun y hy=>nomatch hy
 | i::is,m,h,hc,hp=>fun y hy=>by
  have h1:=Nat.max_le.mp h
  have hc':cnt i+cnts is<=W:=hc
  rcases List.mem_cons.mp hy with rfl | hy
  ·exact Cn9 h1.1 (A3 (B4 _ _) hc') hp.1
  ·exact mH h1.2 (A3 (Nat.le_add_left _ _) hc') hp.2 y hy
end
structure ItOk (s:List It×List Nat) (k:Nat):Prop where
 dep:dIs s.1<=9
 cnt:cnts s.1<=k
 par:PIs s.1
 ds:∀ i m:Nat,s.2[i]? = some m->i<m
theorem Bx0 {m:Nat}{x:X}{w:List Nat}(h:M1 W m x):M1 W (m+1) (.tup [.at (.s w),x]):=M1.tup (A3 (by decide:(2:Nat)<=4) W4) fun y hy=>by
 rcases List.mem_cons.mp hy with rfl | hy
 ·exact M1.at
 ·rw [List.mem_singleton.mp hy];exact h
theorem Ce0 {rs:List (List T)}{y:X}(h:y∈xK rs):∃ ts∈rs,y=.lst (G9 ts):=Bk7 (gB rs) h
theorem mD (rs:List (List T)):(xK rs).length=rs.length:=uT (gB rs)
noncomputable def mL (c:Nat):Bool:=decide (32<=c)&&(decide (c<=126)&&c != 37)
theorem Cc6 {n c:Nat}{H:Heap}(hc:mL c=true) (Q:C2) (h:Q (.bool true) H):C1 P (n+1) "is_sign" [.str [c]] Q H:=by
 have hc':32<=c/\c<=126/\c≠37:=by unfold mL at hc;simpa using hc
 exact Aq2 (C6 (Cq9 (fun zz h=>h)) (I6 (E5 (b:=true) (b2:=true) (J6 (C7 (fun zz h=>h) (fun zz h=>h) xQ) (decide_eq_true (by exact Int.ofNat_le.mpr (M4 hc'.1)))) fun zz=>E5 (b:=true) (b2:=true) (J6 (C7 (fun zz h=>h) (fun zz h=>h) xQ) (decide_eq_true (by exact Int.ofNat_le.mpr (M4 hc'.2.1)))) fun zz=>G8 (J6 (C7 (fun zz h=>h) (fun zz h=>h) Bg7) (by simp;lia))) h))
theorem U7 {n:Nat}{s:List Nat}{H:Heap}(hs:∀ c∈s,mL c=true) (Q:C2) (h:Q (.bool true) H):C1 P (n+2) "is_row" [.str s] Q H:=by
 refine Be1 (C3 (fun zz h=>h) (I3 (Cl5 (σ:=Option V) (fun e=>[some (.str s),e]) (fun zz zz G=>G=H) (t:=s) (fun i e G c hc hI K hK=>?_) (fun e G hI=>?_) none (fun zz h=>h) rfl)))
 ·subst hI
  exact C3 (jM (t:=true) (D3 (fun zz h=>h) (Cc6 (hs c (B9 hc))))) (hK _ _ rfl)
 ·subst hI
  exact h
theorem sL {c:Nat}:∀ {s:List Nat},splitAt c s≠[]/\(splitAt c s).length<=s.length+1/\∀ r∈splitAt c s,r.length<=s.length
 | []=>⟨fun q=>(nomatch q),A4 _,fun r h=>by rw [List.mem_singleton.mp h];exact A4 _⟩
 | y::l=>by
  have ih:=sL (c:=c) (s:=l)
  show (if y=c then []::splitAt c l else match splitAt c l with | []=>[[y]] | w::r=>(y::w)::r)≠[]/\(if y=c then []::splitAt c l else match splitAt c l with | []=>[[y]] | w::r=>(y::w)::r).length<=l.length+1+1/\∀ r∈(if y=c then []::splitAt c l else match splitAt c l with | []=>[[y]] | w::r=>(y::w)::r),r.length<=l.length+1
  by_cases hy:y=c
  ·rw [if_pos hy]
   refine ⟨fun q=>(nomatch q),B3 ih.2.1,fun r h=>?_⟩
   rcases List.mem_cons.mp h with rfl | h
   ·exact B0 _
   ·exact Nat.le_succ_of_le (ih.2.2 r h)
  ·rw [if_neg hy]
   cases hs:splitAt c l with
   | nil=>exact absurd hs ih.1
   | cons w q =>
    rw [hs] at ih
    refine ⟨fun q=>(nomatch q),Nat.le_succ_of_le ih.2.1,fun r h=>?_⟩
    rcases List.mem_cons.mp h with rfl | h
    ·exact B3 (ih.2.2 w (.head _))
    ·exact Nat.le_succ_of_le (ih.2.2 r (.tail _ h))
theorem Cd1 {n:Nat}{t:List Nat}{Q:C2}{H:Heap}(ht:∀ r∈splitAt 10 t,∀ c∈r,mL c=true) (hl:t.length<=900000) (h:BQ H (.lst (L9 (rdF 9 (splitAt 10 t)))) Q):C1 P (n+25) "read" [.str t] Q H:=by
 have hlim:I8=16777216:=rfl
 have hs:=sL (c:=10) (s:=t)
 refine Ce8 (C3 (fun zz h=>h) (J9 (H1:=H++[(splitAt 10 t).map .str]) (fun Q k=>Cb9 (by exact fun zz h=>h) (by exact fun zz h=>h) (A9 hl (by show 900000<16777216;decide)) Q k) (I3 (V2 (σ:=Option V) (fun e=>[some (.str t),some (.ref H.length),e]) (fun zz zz G=>G=H++[(splitAt 10 t).map .str]) (l:=(splitAt 10 t).map .str) (fun i e G hI=>?_) (fun i e G v hv hI K hK=>?_) (fun e G hI=>?_) none (fun zz h=>h) rfl))))
 ·rw [hI];exact E0
 ·subst hI
  rw [C0] at hv
  obtain ⟨r,hr,rfl⟩:=Option.map_eq_some_iff.mp hv
  exact C3 (jM (t:=true) (D3 (fun zz h=>h) (U7 (ht r (B9 hr))))) (hK _ _ rfl)
 ·subst hI
  exact At0 (fun zz h=>h) (tK 9 0 n rfl H.length _ _ _ E0 hs.1 (A3 hs.2.1 (A3 (B3 hl) (by decide))) (fun r hr=>A3 (hs.2.2 r hr) (A3 hl (by decide))) fun v G g hr=>h v G (E6.one.trans g) (hr.wide (by rw [L7];exact B8 _) (A4 _)))
noncomputable def dA:A->D
 | .n=>.none
 | .b t=>.bool t
 | .i z=>.int z
 | .s w=>.str w
mutual
noncomputable def dX:X->D
 | .at a=>dA a
 | .tup xs=>.tup (dXs xs)
 | .lst xs=>.list (dXs xs)
noncomputable def dXs:List X->List D
 | []=>[]
 | x::xs=>dX x::dXs xs
end
noncomputable def okA:A->Prop
 | .s w=>∀ c∈w,c<1114112
 | _=>True
mutual
noncomputable def okX:X->Prop
 | .at a=>okA a
 | .tup xs=>qS xs
 | .lst xs=>qS xs
noncomputable def qS:List X->Prop
 | []=>True
 | x::xs=>okX x/\qS xs
end
theorem Cp8 {H:Heap}{n:Nat}{a:A}(h:okA a):rd H (n+1) (aV a)=some (dA a):=by
 cases a with
 | n=>rfl
 | b t=>rfl
 | i z=>rfl
 | s w=>exact if_pos (List.all_eq_true.mpr fun c hc=>decide_eq_true (h c hc))
theorem Cj3 {H:Heap}{w:Nat}:∀ (m:Nat) (x:X) (v:V) (lo hi n:Nat),M1 w m x->okX x->J0 H x lo hi v->m<n->rd H n v=some (dX x):=by
 intro m
 induction m with
 | zero =>
  intro x v lo hi n hf ho h hn
  cases x with
  | «at» a =>
   obtain ⟨n',rfl⟩:=nJ hn
   rw [show v=aV a from h];exact Cp8 ho
  | tup xs=>exact hf.elim
  | lst xs=>exact hf.elim
 | succ m ih =>
  intro x v lo hi n hf ho h hn
  obtain ⟨n',rfl⟩:=nJ hn
  have go:∀ (xs:List X) (l:List V) (p q:Nat),(∀ y∈xs,M1 w m y)->qS xs->E8 H xs p q l->xH (rd H n') l=some (dXs xs):=by
   intro xs
   induction xs with
   | nil=>intro l p q _ _ h;rw [h.2];rfl
   | cons y ys ihy =>
    intro l p q hf ho h
    obtain ⟨u,r,k,rfl,_,h1,h2⟩:=h
    show (match rd H n' u with | some d=>(xH (rd H n') r).map (d::·) | none=>none)=_
    rw [ih y u _ _ n' (hf y (.head _)) ho.1 h1 (Nat.lt_of_succ_lt_succ hn),ihy r _ _ (fun z hz=>hf z (.tail _ hz)) ho.2 h2];rfl
  cases x with
  | «at» a=>rw [show v=aV a from h];exact Cp8 ho
  | tup xs =>
   obtain ⟨l,rfl,h⟩:=h
   show (xH (rd H n') l).map D.tup=_
   rw [go xs l _ _ hf.2 ho h];rfl
  | lst xs =>
   obtain ⟨a,l,p,q,rfl,_,ha,h⟩:=h
   show (match H[a]? with | some l=>(xH (rd H n') l).map D.list | none=>none)=_
   rw [ha]
   show (xH (rd H n') l).map D.list=_
   rw [go xs l _ _ hf.2 ho h];rfl
theorem Cj8 {H:Heap}{w m:Nat}{xs:List X}{a b lo hi lo' hi':Nat}(hm:m<100) (hf:M1 w m (.lst xs)) (ho:okX (.lst xs)) (h:J0 H (.lst xs) lo hi (.ref a)) (h':J0 H (.lst xs) lo' hi' (.ref b)):Q6 .eq (.ref a) (.ref b) H=some true:=by
 show (match uK (V.ref a) (V.ref b) with | some t=>some t | none=>uL (.ref a) (.ref b) H)=_
 show ((rd H K7 (.ref a)).bind fun x=>(rd H K7 (.ref b)).bind fun y=>some (xI x y))=_
 rw [Cj3 m _ _ _ _ K7 hf ho h hm,Cj3 m _ _ _ _ K7 hf ho h' hm]
 exact congrArg some (zP _)
theorem Bw7 {H:Heap}{w m:Nat}{x:X}{xs:List X}{a b lo hi:Nat}(hm:m<100) (hf:M1 w m (.lst (x::xs))) (ho:okX (.lst (x::xs))) (h:J0 H (.lst (x::xs)) lo hi (.ref a)) (hb:H[b]? = some []):Q6 .eq (.ref a) (.ref b) H=some false:=by
 show ((rd H K7 (.ref a)).bind fun x=>(rd H K7 (.ref b)).bind fun y=>some (xI x y))=_
 rw [Cj3 m _ _ _ _ K7 hf ho h hm]
 have e:rd H K7 (.ref b)=some (.list []):=by
  show (match H[b]? with | some l=>(xH (rd H 99) l).map D.list | none=>none)=_
  rw [hb];rfl
 rw [e];rfl
theorem N6 {H:Heap}{a:A}{xs:List X}{lo hi:Nat}{l:List V}(h:E8 H (.at a::xs) lo hi l):∃ r m,l=aV a::r/\lo<=m/\E8 H xs m hi r:=by
 obtain ⟨v,r,m,rfl,h1,h2,h3⟩:=h
 rw [show v=aV a from h2]
 exact ⟨r,m,rfl,h1,h3⟩
theorem iJ {H:Heap}{ys xs:List X}{lo hi:Nat}{l:List V}(h:E8 H (.lst ys::xs) lo hi l):∃ a r m,l=.ref a::r/\J0 H (.lst ys) lo m (.ref a)/\lo<=m/\E8 H xs m hi r:=by
 obtain ⟨v,r,m,rfl,h1,⟨a,vs,p,q,rfl,hb,ha,hr⟩,h3⟩:=h
 exact ⟨a,r,m,rfl,⟨a,vs,p,q,rfl,hb,ha,hr⟩,h1,h3⟩
theorem cX {H:Heap}{s:List Nat}{lo hi:Nat}{v:V}(h:J0 H (enc (.kept s)) lo hi v):v=yL s:=by
 obtain ⟨l,rfl,h⟩:=h
 obtain ⟨r,_,rfl,_,h⟩:=N6 h
 obtain ⟨r,_,rfl,_,h⟩:=N6 h
 rw [h.2];rfl
theorem cY {H:Heap}{s:List Nat}{b:Bool}{lo hi:Nat}{v:V}(h:J0 H (enc (.code s b)) lo hi v):v=Bg2 s b:=by
 obtain ⟨l,rfl,h⟩:=h
 obtain ⟨r,_,rfl,_,h⟩:=N6 h
 obtain ⟨r,_,rfl,_,h⟩:=N6 h
 obtain ⟨r,_,rfl,_,h⟩:=N6 h
 rw [h.2];rfl
theorem cU {H:Heap}{c:Nat}{ts:List T}{b:Bool}{lo hi:Nat}{v:V}(h:J0 H (enc (.span c ts b)) lo hi v):∃ a,v=jR c a b/\J0 H (.lst (G9 ts)) lo hi (.ref a):=by
 obtain ⟨l,rfl,h⟩:=h
 obtain ⟨r,_,rfl,q1,h⟩:=N6 h
 obtain ⟨r,_,rfl,q2,h⟩:=N6 h
 obtain ⟨a,r,_,rfl,ha,_,h⟩:=iJ h
 have hle:=h.le
 obtain ⟨r,_,rfl,_,h⟩:=N6 h
 rw [h.2]
 exact ⟨a,rfl,ha.wide (A3 q1 q2) hle⟩
theorem cW {H:Heap}{ts:List T}{g:Option (List Nat)}{b:Bool}{lo hi:Nat}{v:V}(h:J0 H (enc (.link ts g b)) lo hi v):∃ a,v=W8 a g b/\J0 H (.lst (G9 ts)) lo hi (.ref a):=by
 obtain ⟨l,rfl,h⟩:=h
 obtain ⟨r,_,rfl,q1,h⟩:=N6 h
 obtain ⟨a,r,_,rfl,ha,_,h⟩:=iJ h
 have hle:=h.le
 obtain ⟨r,_,rfl,_,h⟩:=N6 h
 obtain ⟨r,_,rfl,_,h⟩:=N6 h
 rw [h.2]
 exact ⟨a,rfl,ha.wide q1 hle⟩
theorem Cj4 {H:Heap}{ts:List T}{lo hi:Nat}{l:List V}{i:Nat}{v:V}(h:E8 H (G9 ts) lo hi l) (hv:l[i]? = some v):∃ t p q,ts[i]? = some t/\lo<=p/\q<=hi/\J0 H (enc t) p q v:=by
 obtain ⟨t,ht,hr⟩:=Bw9 (cE ts) h hv
 exact ⟨t,lo,hi,ht,A4 _,A4 _,hr⟩
noncomputable def Sg (s:List Nat):Prop:=∀ c∈s,mL c=true
mutual
noncomputable def GT:Nat->T->Prop
 | _,.txt s=>s≠[]/\Sg s
 | _,.kept s=>s.length<=1/\Sg s
 | _,.code s _=>Sg s
 | d,.span c ts _=>d<12/\[42,95,126].contains c=true/\X8 (d+1) ts
 | d,.link ts g _=>d<12/\(∀ s,g=some s->Sg s)/\X8 (d+1) ts
noncomputable def X8:Nat->List T->Prop
 | _,[]=>True
 | d,t::ts=>GT d t/\X8 d ts
end
theorem X8.app {d:Nat}:∀ {ts us:List T},X8 d (ts++us)↔X8 d ts/\X8 d us
 | [],us=>⟨fun h=>⟨trivial,h⟩,fun h=>h.2⟩
 | t::ts,us=>⟨fun h=>⟨⟨h.1,(X8.app.mp h.2).1⟩,(X8.app.mp h.2).2⟩,fun h=>⟨h.1.1,X8.app.mpr ⟨h.1.2,h.2⟩⟩⟩
theorem X8.add {d:Nat}{ts:List T}{t:T}(h:X8 d ts) (k:GT d t):X8 d (ts++[t]):=X8.app.mpr ⟨h,k,trivial⟩
theorem X8.get {d:Nat}:∀ {ts:List T}{i:Nat}{t:T},X8 d ts->ts[i]? = some t->GT d t
 | t::ts,0,_,h,e=>by cases e;exact h.1
 | t::ts,i+1,_,h,e=>X8.get (ts:=ts) (i:=i) h.2 e
theorem X8.put {d c:Nat}{ts:List T}(h:X8 d ts) (hc:mL c=true):X8 d (O0 ts c):=by
 have h1:GT d (.txt [c]):=⟨(fun q=>nomatch q),fun x hx=>by rw [List.mem_singleton.mp hx];exact hc⟩
 have hadd:=h.add h1
 rcases List.eq_nil_or_concat ts with rfl | ⟨us,t,rfl⟩
 ·exact hadd
 ·rw [List.concat_eq_append] at h hadd ⊢
  cases t with
  | txt s =>
   rw [cB]
   have:=X8.app.mp h
   refine this.1.add ⟨by simp,fun x hx=>?_⟩
   rcases List.mem_append.mp hx with q | q
   ·exact this.2.1.2 x q
   ·rw [List.mem_singleton.mp q];exact hc
  | kept s=>unfold O0;simp only [List.getLast?_append,List.getLast?_singleton,Option.some_or];exact hadd
  | code s b=>unfold O0;simp only [List.getLast?_append,List.getLast?_singleton,Option.some_or];exact hadd
  | span c' ts b=>unfold O0;simp only [List.getLast?_append,List.getLast?_singleton,Option.some_or];exact hadd
  | link ts g b=>unfold O0;simp only [List.getLast?_append,List.getLast?_singleton,Option.some_or];exact hadd
noncomputable def GC:L6->Prop
 | []=>True
 | (kd,p)::ctx=>ctx.length<12/\(∀ c,kd=some c->[42,95,126].contains c=true)/\X8 ctx.length p/\GC ctx
theorem dW:∀ {ctx:L6}{cur:List T},X8 ctx.length cur->GC ctx->X8 0 (J2 cur ctx)
 | [],cur,h,_=>h
 | (kd,p)::ctx,cur,h,hc=>by
  refine dW (ctx:=ctx) (hc.2.2.1.add ?_) hc.2.2.2
  cases kd with
  | some c=>exact ⟨hc.1,hc.2.1 c rfl,h⟩
  | none=>exact ⟨hc.1,fun s q=>(nomatch q),h⟩
theorem Sg.drop {s:List Nat}{k:Nat}(h:Sg s):Sg (s.drop k):=fun c hc=>h c (List.mem_of_mem_drop hc)
theorem Sg.take {s:List Nat}{k:Nat}(h:Sg s):Sg (s.take k):=fun c hc=>h c (List.mem_of_mem_take hc)
theorem K4.good {row:List Nat}{k:Nat}{cur r:List T}{ctx:L6}(h:K4 row k cur ctx r) (hs:Sg row):X8 ctx.length cur->GC ctx->X8 0 r:=by
 induction h with
 | done _=>exact dW
 | kept _ _ ih=>exact fun h1 h2=>ih (h1.add ⟨by unfold nx;rw [List.length_take];exact Nat.min_le_left _ _,hs.drop.take⟩) h2
 | code _ _ ih =>
  refine fun h1 h2=>ih (h1.add ?_) h2
  unfold R8
  split
  ·exact hs.drop.take
  ·exact hs.drop
 | label _ h12 _ ih=>exact fun h1 h2=>ih trivial ⟨h12,fun c q=>(nomatch q),h1,h2⟩
 | span _ hcc _ h12 _ ih=>exact fun h1 h2=>ih trivial ⟨h12,fun c q=>by cases q;exact hcc,h1,h2⟩
 | shutS _ _ ih=>exact fun h1 h2=>ih (h2.2.2.1.add ⟨h2.1,h2.2.1 _ rfl,h1⟩) h2.2.2.2
 | shutL _ _ ih =>
  refine fun h1 h2=>ih (h2.2.2.1.add ?_) h2.2.2.2
  unfold O3
  split
  ·split
   ·exact ⟨h2.1,fun s q=>by cases q;exact hs.drop.take,h1⟩
   ·exact ⟨h2.1,fun s q=>by cases q;exact hs.drop,h1⟩
  ·exact ⟨h2.1,fun s q=>(nomatch q),h1⟩
 | plain hc _ _ _ _ _ _ ih=>exact fun h1 h2=>ih (h1.put (hs _ (B9 hc))) h2
theorem Bs0 {row:List Nat}(h:Sg row):X8 0 (pts row):=(eR row).good h trivial trivial
theorem rR {s:List Nat}(h:Sg s):∀ c∈s,c<1114112:=fun c hc=>by
 have:=h c hc
 unfold mL at this
 exact A9 (of_decide_eq_true (Bool.and_eq_true_iff.mp (Bool.and_eq_true_iff.mp this).2).1) (by decide)
theorem okL {w:List Nat}(h:(w.all fun c=>decide (c<1114112))=true):okX (.at (.s w)):=fun c hc=>of_decide_eq_true (List.all_eq_true.mp h c hc)
mutual
theorem Cw9:∀ {d:Nat}{t:T},GT d t->okX (enc t)
 | _,.txt s,h=>rR h.2
 | _,.kept s,h=>⟨okL rfl,rR h.2,trivial⟩
 | _,.code s b,h=>⟨okL rfl,rR h,trivial,trivial⟩
 | d,.span c ts b,h=>⟨okL rfl,fun x hx=>by
   rw [List.mem_singleton.mp hx]
   have:=h.2.1
   simp at this
   rcases this with e | e | e<;>subst e<;>decide,jS h.2.2,trivial,trivial⟩
 | d,.link ts g b,h=>⟨okL rfl,jS h.2.2,by cases g with | none=>exact trivial | some s=>exact rR (h.2.1 s rfl),trivial,trivial⟩
theorem jS:∀ {d:Nat}{ts:List T},X8 d ts->qS (G9 ts)
 | _,[],_=>trivial
 | _,t::ts,h=>⟨Cw9 h.1,jS h.2⟩
end
theorem aL {v:V}{r:List V}{H:Heap}:X9 (.tup (v::r)) (.int 0) H=some v:=by
 show (K3 ((0:Nat):Int) (v::r).length).bind _=some v
 rw [S6 (k:=0) (n:=(v::r).length) (Nat.succ_pos _)];rfl
theorem I2 {n:Nat}{w kd:List Nat}{z:Int}{r:List V}{H:Heap}(Q:C2) (h:Q (.bool (((r.length+1:Nat):Int)==z&&w==kd)) H):C1 P (n+1) "is_tuple" [.tup (.str w::r),.str kd,.int z] Q H:=by
 refine Af7 ?_
 have e1:∀ {C:Calls},Ev C [some (.tup (.str w::r)),some (.str kd),some (.int z)] H (.or [.not (.isinst (.var 0) .tuple),.cmp .ne (.len (.var 0)) (.var 2)]) (.bool (false||!(((r.length+1:Nat):Int)==z))):=R1 (fun zz h=>h) fun zz=>Y3 (fun zz h=>h)
 cases hz:((r.length+1:Nat):Int)==z with
 | false =>
  rw [hz] at e1 h
  exact D5 e1 h
 | true =>
  rw [hz] at e1 h
  exact C3 e1 (I6 (E5 (b:=true) (J6 (nA (E4 (fun zz h=>h) (fun zz h=>h) aL)) rfl) fun zz=>G8 (C7 (E4 (fun zz h=>h) (fun zz h=>h) aL) (fun zz h=>h) V1)) h)
theorem Ae7 {H:Heap}{c:Nat}(hs:c<1114112):Q6 .notin (.str [c]) (.tup [.str [42],.str [95],.str [126]]) H=some (![42,95,126].contains c):=by
 have e1:rd H K7 (.str [c])=some (.str [c]):=if_pos (by simpa using hs)
 show (memV _ _ H).map (!·)=_
 unfold memV
 rw [e1]
 show some (!([D.str [42],D.str [95],D.str [126]].any fun y=>xI y (.str [c])))=_
 have q:∀ a:Nat,xI (.str [a]) (.str [c])=(c==a):=fun a=>by
  show ([a]==[c])=(c==a)
  rw [Bool.eq_iff_iff,beq_iff_eq,beq_iff_eq]
  exact ⟨fun h=>by cases h;rfl,fun h=>by rw [h]⟩
 simp only [List.any_cons,List.any_nil,q,List.contains_cons,List.contains_nil]
noncomputable def APs (d n:Nat):Prop:=∀ (ts:List T) (a lo hi:Nat) (H:Heap) (Q:C2),X8 d ts->J0 H (.lst (G9 ts)) lo hi (.ref a)->Q (.bool true) H->C1 P n "are_parts" [.ref a,.int (d:Nat)] Q H
theorem Ap3 {n d lo hi:Nat}{t:T}{v:V}{H:Heap}(ih:d<12->APs (d+1) (n+2)) (hg:GT d t) (hr:J0 H (enc t) lo hi v) (Q:C2) (h:Q (.bool true) H):C1 P (n+3) "is_part" [v,.int (d:Nat)] Q H:=by
 refine Aq3 ?_
 have e12:∀ {C:Calls}{v:V},d<12->Ev C [some v,some (.int (d:Nat))] H (.cmp .ge (.var 1) (.glob "MOST_OPEN" 12)) (.bool false):=fun q=>J6 (C7 (fun zz h=>h) (fun zz h=>h) Cj2) (decide_eq_false (fun k=>Nat.not_le_of_lt q (Int.ofNat_le.mp k)))
 cases t with
 | txt s =>
  rw [show v=.str s from hr]
  exact D5 (fun zz h=>h) (I6 (E5 (b:=true) (b2:=true) (J6 (fun zz h=>h) (by simpa using hg.1)) fun zz=>G8 (D3 (fun zz h=>h) (U7 hg.2))) h)
 | kept s =>
  rw [cX hr]
  exact C3 (fun zz h=>h) (D5 (J6 (D3 (fun zz h=>h) I2) rfl) (I6 (E5 (b:=true) (b2:=true) (D3 (fun zz h=>h) (U7 hg.2)) fun zz=>G8 (J6 (fun zz h=>h) (decide_eq_true (Int.ofNat_le.mpr hg.1)))) h))
 | code s b =>
  rw [cY hr]
  exact C3 (fun zz h=>h) (C3 (J6 (D3 (fun zz h=>h) I2) rfl) (D5 (J6 (D3 (fun zz h=>h) I2) rfl) (I6 (E5 (b:=true) (b2:=true) (D3 (fun zz h=>h) (U7 hg)) fun zz=>fun zz h=>h) h)))
 | span c ts b =>
  obtain ⟨a,rfl,hra⟩:=cU hr
  have hc:mL c=true:=by have:=hg.2.1;simp at this;rcases this with e | e | e<;>subst e<;>rfl
  have hs:Sg [c]:=fun x hx=>by rw [List.mem_singleton.mp hx];exact hc
  refine C3 (fun zz h=>h) (C3 (J6 (D3 (fun zz h=>h) I2) rfl) (C3 (J6 (D3 (fun zz h=>h) I2) rfl) (C3 (e12 hg.1) (D5 (J6 (D3 (fun zz h=>h) I2) rfl) (C3 (R1 (b:=false) (b2:=false) (jM (t:=true) (D3 (fun zz h=>h) (U7 hs))) fun zz=>Y3 (J6 (C7 (fun zz h=>h) (fun zz h=>h) (Ae7 (rR hs c (.head _)))) (by rw [hg.2.1];rfl))) (I6 (E5 (b:=true) (b2:=true) (fun zz h=>h) fun zz=>G8 (D3 (vs:=[.ref a,.int ((d+1:Nat):Int)]) (fun zz h=>h) fun Q q=>ih hg.1 ts a _ _ H Q hg.2.2 hra q)) h))))))
 | link ts g b =>
  obtain ⟨a,rfl,hra⟩:=cW hr
  have eg:∀ {C:Calls},C=C1 P (n+2)->Ev C [some (W8 a g b),some (.int (d:Nat))] H (.and [.isnot (.idx (.var 0) (.int 2)) .none,.not (.call "is_row" [.idx (.var 0) (.int 2)])]) (.bool false):=fun {C} e=>by
   subst e
   cases g with
   | none=>exact E5 (b:=false) (b2:=true) (fun zz h=>h) fun q=>nomatch q
   | some s=>exact E5 (b:=true) (b2:=false) (fun zz h=>h) fun zz=>G8 (jM (t:=true) (D3 (fun zz h=>h) (U7 (hg.2.1 s rfl))))
  exact C3 (fun zz h=>h) (C3 (J6 (D3 (fun zz h=>h) I2) rfl) (C3 (J6 (D3 (fun zz h=>h) I2) rfl) (C3 (e12 hg.1) (C3 (J6 (D3 (fun zz h=>h) I2) rfl) (D5 (J6 (D3 (fun zz h=>h) I2) rfl) (C3 (eg rfl) (I6 (E5 (b:=true) (b2:=true) (fun zz h=>h) fun zz=>G8 (D3 (vs:=[.ref a,.int ((d+1:Nat):Int)]) (fun zz h=>h) fun Q q=>ih hg.1 ts a _ _ H Q hg.2.2 hra q)) h)))))))
theorem Ad0 {n d:Nat}(ih:d<12->APs (d+1) (n+2)):APs d (n+4):=by
 intro ts a lo hi H Q hg hr h
 obtain ⟨a',l,p,q,e,hb,ha,hrl⟩:=hr
 cases e
 refine xA (C3 (fun zz h=>h) (I3 (V2 (σ:=Option V) (fun e=>[some (.ref a),some (.int (d:Nat)),e]) (fun zz zz G=>G=H) (l:=l) (fun i e G hI=>hI▸ha) (fun i e G v hv hI K hK=>?_) (fun e G hI=>?_) none (fun zz h=>h) rfl)))
 ·subst hI
  obtain ⟨t,p',q',ht,_,_,hrt⟩:=Cj4 hrl hv
  exact C3 (jM (t:=true) (D3 (fun zz h=>h) (Ap3 ih (hg.get ht) hrt))) (hK _ _ rfl)
 ·subst hI
  exact h
theorem Bl8:∀ (m d n:Nat),d+m=12->APs d (n+2 * m+4)
 | 0,d,n,h=>Ad0 fun q=>absurd h (Nat.ne_of_lt q)
 | m+1,d,n,h=>Ad0 (n:=n+2 * m+2) fun zz=>Bl8 m (d+1) n ((Nat.add_right_comm d 1 m).trans h)
mutual
noncomputable def rowT:T->List Nat
 | .txt s=>s
 | .kept s=>[92]++s
 | .code s b=>[96]++s++(if b then [96] else [])
 | .span c ts b=>[c,40]++rowTs ts++(if b then [41] else [])
 | .link ts g b=>match g with
  | none=>[91]++rowTs ts++(if b then [93] else [])
  | some s=>[91]++rowTs ts++[93,40]++s++(if b then [41] else [])
noncomputable def rowTs:List T->List Nat
 | []=>[]
 | t::ts=>rowT t++rowTs ts
end
theorem I4:∀ (ts us:List T),rowTs (ts++us)=rowTs ts++rowTs us
 | [],us=>rfl
 | t::ts,us=>by
  show rowT t++rowTs (ts++us)=rowT t++rowTs ts++rowTs us
  rw [I4 ts us,A7]
theorem xV:(1000000:Nat)<=I8:=by show 1000000<=16777216;decide
theorem pre {a b:List Nat}{n:Nat}(h:(a++b).length<=n):a.length<=n:=A3 (by rw [A6];exact B4 _ _) h
theorem suf {a b:List Nat}{n:Nat}(h:(a++b).length<=n):b.length<=n:=A3 (by rw [A6];exact Nat.le_add_left _ _) h
theorem xL {n:Nat}(h:n<=1000000):n<I8:=A9 h (by show 1000000<16777216;decide)
theorem H7 (t:T):rowTs [t]=rowT t:=List.append_nil _
noncomputable def pV (p:List Nat×List Nat):V:=.tup [.str p.1,.str p.2]
noncomputable def Pc (ps:List V) (s:List Nat):Prop:=∃ ks:List (List Nat×List Nat),ps=ks.map pV/\(ks.map (·.2)).flatten=s/\∀ p∈ks,p.2≠[]
theorem Pc.nil:Pc [] []:=⟨[],rfl,rfl,fun p hp=>nomatch hp⟩
theorem Pc.app {ps qs:List V}{s t:List Nat}(h:Pc ps s) (k:Pc qs t):Pc (ps++qs) (s++t):=by
 obtain ⟨ks,rfl,rfl,h1⟩:=h
 obtain ⟨js,rfl,rfl,h2⟩:=k
 refine ⟨ks++js,(List.map_append).symm,by rw [List.map_append,List.flatten_append],fun p hp=>?_⟩
 rcases List.mem_append.mp hp with q | q
 ·exact h1 p q
 ·exact h2 p q
theorem Pc.one {k t:List Nat}(ht:t≠[]):Pc [.tup [.str k,.str t]] t:=⟨[(k,t)],rfl,List.append_nil _,fun p hp=>by rw [List.mem_singleton.mp hp];exact ht⟩
theorem pH:∀ ks:List (List Nat×List Nat),(∀ p∈ks,p.2≠[])->ks.length<=(ks.map (·.2)).flatten.length
 | [],_=>A4 _
 | k::ks,h=>by
  have h1:=List.length_pos_iff.mpr (h k (.head _))
  have h2:=pH ks fun p hp=>h p (.tail _ hp)
  show ks.length+1<=(k.2++(ks.map (·.2)).flatten).length
  rw [A6,Nat.add_comm];exact Nat.add_le_add h1 h2
theorem Pc.len {ps:List V}{s:List Nat}(h:Pc ps s):ps.length<=s.length:=by
 obtain ⟨ks,rfl,rfl,h1⟩:=h
 rw [B6];exact pH ks h1
theorem N5 {n mk:Nat}{k t s:List Nat}{ps ps0:List V}{Q:C2}{H:Heap}(hm:H[mk]? = some ps0) (hp:Pc ps s) (hl:s.length<I8) (h:∀ ps',Pc ps' (s++t)->Q .none (H.set mk ps')):C1 P (n+1) "put_piece" [.ref mk,.str k,.str t] Q (H.set mk ps):=by
 refine wO ?_
 by_cases ht:t=[]
 ·subst ht
  rw [List.append_nil] at h
  exact C3 (fun zz h=>h) (h ps hp)
 ·refine D5 (J6 (fun zz h=>h) (by simpa using ht)) (I0 (fun zz h=>h) (fun zz h=>h) (fO hm) (A9 hp.len hl) ?_)
  rw [List.set_set]
  exact h _ (hp.app (.one ht))
noncomputable def PPs (d n:Nat):Prop:=∀ (H:Heap) (ts:List T) (a lo hi mk:Nat) (ps0 ps:List V) (s:List Nat) (Q:C2),X8 d ts->J0 H (.lst (G9 ts)) lo hi (.ref a)->hi<=mk->H[mk]? = some ps0->Pc ps s->(s++rowTs ts).length<=1000000 ->
 (∀ ps',Pc ps' (s++rowTs ts)->Q .none (H.set mk ps'))->C1 P n "put_pieces" [.ref a,.ref mk] Q (H.set mk ps)
theorem mA {n mk:Nat}{b:Bool}{w s:List Nat}{ps ps0:List V}{ρ:D7}{e:E}{x:Nat}{ss:List S}{R:E2}{H:Heap}(hm:H[mk]? = some ps0) (hp:Pc ps s) (hl:s.length<I8) (he:Ev (C1 P (n+1)) ρ (H.set mk ps) e (.bool b)) (hx:ρ[x]? = some (some (.ref mk)))
  (h:∀ ps',Pc ps' (s++(if b then w else []))->C4 (C1 P (n+1)) ss ρ R (H.set mk ps')):C4 (C1 P (n+1)) (.ite e [.expr (.call "put_piece" [.var x,.str [109,97,114,107],.str w])] []::ss) ρ R (H.set mk ps):=by
 cases b with
 | true=>exact D5 he (K8 (C9 (fH hx) (fun zz h=>h)) (N5 hm hp hl fun ps' hp'=>nB (fW (h ps' hp'))))
 | false=>exact C3 he (h ps (by rw [show (if false=true then w else [])=[] from rfl,List.append_nil];exact hp))
theorem Bs8 {n d a lo hi mk:Nat}{ts:List T}{g:Option (List Nat)}{b:Bool}{ps ps0:List V}{s:List Nat}{Q:C2}{H:Heap}(ih:PPs (d+1) (n+1)) (hg:GT d (.link ts g b)) (hr:J0 H (.lst (G9 ts)) lo hi (.ref a)) (hh:hi<=mk) (hm:H[mk]? = some ps0) (hp:Pc ps s) (hl:(s++rowT (.link ts g b)).length<=1000000)
  (h:∀ ps',Pc ps' (s++rowT (.link ts g b))->Q .none (H.set mk ps')):C1 P (n+2) "link_pieces" [W8 a g b,.ref mk] Q (H.set mk ps):=by
 have h1:(s++[91]++rowTs ts).length<=1000000:=by
  cases g with
  | none =>
   replace hl:(s++([91]++rowTs ts++(if b then [93] else []))).length<=1000000:=hl
   rw [<- A7,<- A7] at hl
   exact pre hl
  | some w =>
   replace hl:(s++([91]++rowTs ts++[93,40]++w++(if b then [41] else []))).length<=1000000:=hl
   rw [<- A7,<- A7,<- A7,<- A7] at hl
   exact pre (pre (pre hl))
 have hs:s.length<I8:=xL (pre (pre h1))
 refine qN (K8 (fun zz h=>h) (N5 hm hp hs fun ps1 hp1=>K8 (fun zz h=>h) (ih H ts a lo hi mk ps0 ps1 _ _ hg.2.2 hr hh hm hp1 h1 fun ps2 hp2=>?_)))
 cases g with
 | none =>
  refine D5 (fun zz h=>h) (mA (b:=b) (w:=[93]) hm hp2 (xL h1) (fun zz h=>h) rfl fun ps3 hp3=>h ps3 ?_)
  rw [A7,A7] at hp3
  show Pc ps3 (s++([91]++rowTs ts++(if b then [93] else [])))
  rw [A7];exact hp3
 | some w =>
  have e0:(s++rowT (.link ts (some w) b))=(((s++[91]++rowTs ts)++[93,40])++w)++(if b then [41] else []):=by
   show s++([91]++rowTs ts++[93,40]++w++_)=_
   simp only [A7]
  rw [e0] at h hl
  have h2:(((s++[91]++rowTs ts)++[93,40])++w).length<=1000000:=pre hl
  exact C3 (fun zz h=>h) (K8 (fun zz h=>h) (N5 hm hp2 (xL h1) fun ps3 hp3=>K8 (fun zz h=>h) (N5 hm hp3 (xL (pre h2)) fun ps4 hp4=>mA (b:=b) (w:=[41]) hm hp4 (xL h2) (fun zz h=>h) rfl fun ps5 hp5=>h ps5 hp5)))
structure PZ where
 ps:List V
 e:Option V
theorem Aa5 {n d:Nat}(ih:d<12->PPs (d+1) (n+2)) (ih1:d<12->PPs (d+1) (n+1)):PPs d (n+3):=by
 intro H ts a lo hi mk ps0 ps s Q hg hr hh hm hp hl hQ
 obtain ⟨a',l,p,q,e,hb,ha,hrl⟩:=hr
 cases e
 have ham:mk≠a:=Nat.ne_of_gt (A8 hb.ah hh)
 refine rA (I3 (V2 (σ:=PZ) (fun z=>[some (.ref a),some (.ref mk),z.e]) (fun i z G=>G=H.set mk z.ps/\Pc z.ps (s++rowTs (ts.take i))) (l:=l) (fun i z G hI=>?_) (fun i z G v hv hI K hK=>?_) (fun z G hI=>?_) ⟨ps,none⟩ (fun zz h=>h) ⟨rfl,by rw [show rowTs (ts.take 0)=[] from rfl,List.append_nil];exact hp⟩))
 ·rw [hI.1,List.getElem?_set_ne ham];exact ha
 ·obtain ⟨rfl,hpz⟩:=hI
  obtain ⟨t,p',q',ht,hp',hq',hrt⟩:=Cj4 hrl hv
  have hgt:=hg.get ht
  have ek:rowTs (ts.take (i+1))=rowTs (ts.take i)++rowT t:=by rw [List.take_add_one,ht,I4];exact congrArg _ (H7 t)
  have hq:q'<=mk:=A3 hq' (A3 hb.qh hh)
  have hlen:((s++rowTs (ts.take i))++rowT t).length<=1000000:=by
   refine A3 ?_ hl
   rw [A7,<- ek,A6,A6]
   have:=congrArg List.length (I4 (ts.take (i+1)) (ts.drop (i+1)))
   rw [List.take_append_drop,A6] at this
   rw [this]
   exact Nat.add_le_add_left (B4 _ _) _
  have fin:∀ {ps':List V}{R:E2}{w:V},(∀ ρ G,K ρ G->R .next ρ G)->Pc ps' ((s++rowTs (ts.take i))++rowT t)->R .next [some (.ref a),some (.ref mk),some w] (H.set mk ps'):=fun {ps' R w} hR hp'=>hR _ _ (hK ⟨ps',some w⟩ _ ⟨rfl,by rw [ek,<- A7];exact hp'⟩)
  generalize s++rowTs (ts.take i)=u at hpz hlen fin
  have hu:u.length<I8:=xL (pre hlen)
  cases t with
  | txt w =>
   rw [show v=.str w from hrt]
   exact D5 (fun zz h=>h) (K8 (fun zz h=>h) (N5 hm hpz hu fun ps1 hp1=>fin (fun zz zz h=>h) hp1))
  | kept w =>
   rw [cX hrt]
   replace hlen:(u++([92]++w)).length<=1000000:=hlen
   rw [<- A7] at hlen
   refine D4 (fun zz h=>h) (D5 (fun zz h=>h) (K8 (fun zz h=>h) (N5 hm hpz hu fun ps1 hp1=>K8 (fun zz h=>h) (N5 hm hp1 (xL (pre hlen)) fun ps2 hp2=>fin (fun zz zz h=>h) ?_))))
   rw [A7] at hp2;exact hp2
  | code w b =>
   rw [cY hrt]
   have e0:u++rowT (.code w b)=((u++[96])++w)++(if b then [96] else []):=by
    show u++([96]++w++_)=_
    simp only [A7]
   rw [e0] at hlen fin
   have h2:((u++[96])++w).length<=1000000:=pre hlen
   exact D4 (fun zz h=>h) (D4 (fun zz h=>h) (D5 (fun zz h=>h) (K8 (fun zz h=>h) (N5 hm hpz hu fun ps1 hp1=>K8 (fun zz h=>h) (N5 hm hp1 (xL (pre h2)) fun ps2 hp2=>mA (b:=b) (w:=[96]) hm hp2 (xL h2) (fun zz h=>h) rfl fun ps3 hp3=>fin (fun zz zz h=>h) hp3)))))
  | span c us b =>
   obtain ⟨a2,rfl,hra⟩:=cU hrt
   have e0:u++rowT (.span c us b)=((u++([c]++[40]))++rowTs us)++(if b then [41] else []):=by
    show u++([c,40]++rowTs us++_)=_
    simp only [A7];rfl
   rw [e0] at hlen fin
   have h2:((u++([c]++[40]))++rowTs us).length<=1000000:=pre hlen
   exact D4 (fun zz h=>h) (D4 (fun zz h=>h) (D4 (fun zz h=>h) (D5 (fun zz h=>h) (K8 (C9 (fun zz h=>h) (C9 (fun zz h=>h) (C9 (D6 (fun zz h=>h) (fun zz h=>h) (aI (by show 2<=I8;decide))) K5))) (N5 hm hpz hu fun ps1 hp1=>K8 (fun zz h=>h) (ih hgt.1 H us a2 _ _ mk ps0 ps1 _ _ hgt.2.2 hra hq hm hp1 h2 fun ps2 hp2=>mA (b:=b) (w:=[41]) hm hp2 (xL h2) (fun zz h=>h) rfl fun ps3 hp3=>fin (fun zz zz h=>h) hp3))))))
  | link us g b =>
   obtain ⟨a2,rfl,hra⟩:=cW hrt
   exact D4 (fun zz h=>h) (D4 (fun zz h=>h) (D4 (fun zz h=>h) (D4 (fun zz h=>h) (K8 (fun zz h=>h) (Bs8 (ih1 hgt.1) hgt hra hq hm hpz hlen fun ps1 hp1=>fin (fun zz zz h=>h) hp1)))))
 ·obtain ⟨rfl,hpz⟩:=hI
  rw [hrl.len,S1,List.take_length] at hpz
  exact hQ z.ps hpz
theorem Ak7:∀ (m d n:Nat),d+m=12->PPs d (n+2 * m+3)
 | 0,d,n,h=>Aa5 (fun q=>absurd h (Nat.ne_of_lt q)) (fun q=>absurd q (by exact Nat.not_lt_of_le (M4 (Nat.le_of_eq h.symm))))
 | m+1,d,n,h=>Aa5 (n:=n+2 * m+2) (fun zz=>by
   have:=Ak7 m (d+1) (n+1) (yD h)
   rw [show n+1+2 * m+3=n+2 * m+2+2 from congrArg (· + 3) (Nat.add_right_comm n 1 (2 * m))] at this
   exact this) fun zz=>Ak7 m (d+1) n (yD h)
theorem aY {n a lo hi:Nat}{ts:List T}{Q:C2}{H:Heap}(hg:X8 0 ts) (hr:J0 H (.lst (G9 ts)) lo hi (.ref a)) (hh:hi<=H.length) (hl:(rowTs ts).length<=1000000) (h:∀ ps,Pc ps (rowTs ts)->Q (.ref H.length) (H++[ps])):C1 P (n+28) "pieces_of" [.ref a] Q H:=by
 have hset:∀ ps,(H++[[]]).set H.length ps=H++[ps]:=fun ps=>by rw [List.set_append_right _ _ (A4 _),Nat.sub_self];rfl
 refine wQ (J9 (H1:=H++[[]]) (fun zz h=>h) (K8 (fun zz h=>h) ?_))
 have:=Ak7 12 0 n rfl (H++[[]]) ts a lo hi H.length [] [] [] (fun v H₁=>C4 (C1 P (n+27)) [.ret (.var 1)] [some (.ref a),some (.ref H.length)] (D8 Q) H₁) hg (hr.to (L0.one hh)) hh E0 .nil hl fun ps hp=>(hset ps).symm▸h ps hp
 rw [hset] at this
 exact this
theorem Ab0 {n:Nat}{ps:List V}{s:List Nat}{Q:C2}{ρ:D7}{x b:Nat}{H:Heap}(hx:x<ρ.length) (hp:Pc ps s) (hl:s.length<=1000000) (hb:H[b]? = some ps) (h:∀ l,Q (.str s) (H++[l])) :
  ∃ a l,V.ref b=.ref a/\H[a]? = some l/\l.length<=I8/\(∀ v∈l,∀ K:C2,K ((fun v=>match v with | .tup [_,w]=>w | _=>.none) v) H->D9 (C1 P n) (.idx (.var x) (.int 1)) (ρ.set x (some v)) K H)/\dP [] (.ref H.length) Q (H++[l.map fun v=>match v with | .tup [_,w]=>w | _=>.none]):=by
 have hlim:I8=16777216:=rfl
 have hpl:=hp.len
 obtain ⟨ks,rfl,hks,hne⟩:=hp
 refine ⟨b,_,rfl,hb,A3 hpl (A3 hl xV),fun v hv K hK=>?_,?_⟩
 ·obtain ⟨p,_,rfl⟩:=List.mem_map.mp hv
  exact yC (Y4 (v:=pV p) (by rw [List.getElem?_set_self hx]) (Ch2 hK))
 ·have e:(ks.map pV).map (fun v=>match v with | .tup [_,w]=>w | _=>.none)=(ks.map (·.2)).map V.str:=by rw [List.map_map,List.map_map];rfl
  rw [e]
  refine Ch0 (ks.map (·.2)) E0 ?_ ?_
  ·rw [<- List.length_flatten,hks];show s.length+_ * 0<=I8;rw [Nat.mul_zero];exact A3 hl xV
  ·rw [zL,hks];exact h _
theorem sO {n a lo hi:Nat}{ts:List T}{Q:C2}{H:Heap}(hg:X8 0 ts) (hr:J0 H (.lst (G9 ts)) lo hi (.ref a)) (hh:hi<=H.length) (hl:(rowTs ts).length<=1000000) (h:∀ l l',Q (.str (rowTs ts)) (H++[l]++[l'])):C1 P (n+29) "row_of" [.ref a] Q H :=
 Bd8 (U1 (Ak1 (As8 ⟨_,rfl,Bk1 (T6 _ _) (fun v=>match v with | .tup [_,w]=>w | _=>.none) (M6 (I5 (v:=.ref a) (fun zz h=>h) (I1 (aY hg hr hh hl fun ps hp=>Ab0 (by show 1<2;decide) hp hl E0 fun l=>h ps l))))⟩) (T6 _ _)))
noncomputable def Y5:Option Nat->List Nat
 | some c=>[c,40]
 | none=>[91]
noncomputable def rowC:L6->List T->List Nat
 | [],cur=>rowTs cur
 | (kd,p)::ctx,cur=>rowC ctx p++Y5 kd++rowTs cur
theorem Z3:∀ (ctx:L6) (cur us:List T),rowC ctx (cur++us)=rowC ctx cur++rowTs us
 | [],cur,us=>I4 cur us
 | (kd,p)::ctx,cur,us=>by
  show rowC ctx p++Y5 kd++rowTs (cur++us)=rowC ctx p++Y5 kd++rowTs cur++rowTs us
  rw [I4,<- A7]
structure Ct (ts:List T):Prop where
 sg:Sg (rowTs ts)
 eq:ts=pts (rowTs ts)
 len:(rowTs ts).length<=900000
theorem Ct.good {ts:List T}(h:Ct ts):X8 0 ts:=by rw [h.eq];exact Bs0 h.sg
theorem Ct.pars {ts:List T}(h:Ct ts):K4 (rowTs ts) 0 [] [] ts:=by
 have:=eR (rowTs ts)
 rw [<- h.eq] at this
 exact this
theorem Ct.fit {ts:List T}(h:Ct ts):M1 W 26 (.lst (G9 ts)):=by
 have:=Cf3 h.len
 rw [<- h.eq] at this
 exact this
theorem bF {H:Heap}{l l':List V}:E6 H (H++[l]++[l']):=E6.one.trans .one
theorem yK {H:Heap}{l l':List V}:(H++[l]++[l']).length=H.length+2:=by rw [L7,L7]
theorem fC {n a lo hi:Nat}{ts:List T}{H:Heap}(hc:Ct ts) (hr:J0 H (.lst (G9 ts)) lo hi (.ref a)) (hh:hi<=H.length) (Q:C2) (h:∀ G,E6 H G->Q (.bool true) G):C1 P (n+30) "is_content" [.ref a] Q H:=by
 refine rC (nI (Φ:=E6 H) (V7 (fF (D3 (fun zz h=>h) fun Q q=>Bl8 12 0 (n+1) rfl ts a lo hi H Q hc.good hr q)) fun G g=>?_) h)
 subst g
 have e1:T9 (C1 P (n+29)) [some (.ref a)] G (.call "parts_of" [.call "row_of" [.var 0]]) (.ref (G.length+2)) (fun G'=>E6 G G'/\J0 G' (.lst (G9 ts)) (G.length+2) G'.length (.ref (G.length+2))):=fun Q k=>by
  refine M6 (M5 (M6 (M5 (Y4 rfl (I1 (sO (n:=n) hc.good hr hh (A3 hc.len (by decide)) fun l l'=>I1 (gO (n:=n+26) (A3 hc.len (by decide)) hc.pars fun H' lp h1 h2 h3=>?_)))))))
  have e:=yK (H:=G) (l:=l) (l':=l')
  have hgr:=aR h2 h3
  have:=nK (k:=1) h1 h2
  rw [e] at this ⊢
  exact k H' ⟨bF.trans hgr,this⟩
 exact bR (Bg0 (yA (t:=true) e1 (fun G' g Q k=>Y4 rfl (k G' g)) fun G' g=>Cj8 (w:=W) (m:=26) (by decide) hc.fit (jS hc.good) g.2 (hr.grow g.1 hh)) fun G' g=>g.1)
noncomputable def dsh:It->Nat
 | .it n _ _=>n
mutual
noncomputable def IO1:Nat->Nat->It->Prop
 | above,most,.it n ts sub=>(1<=n/\n<=most/\above<n)/\Ct ts/\dJ n 9 sub
noncomputable def dJ:Nat->Nat->List It->Prop
 | _,_,[]=>True
 | above,most,i::is=>IO1 above most i/\dJ above (dsh i) is
end
theorem sP {n k m:Nat}{H:Heap}(h1:1<=k) (h2:k<=m) (Q:C2) (h:Q (.bool true) H):C1 P (n+1) "is_number" [.int (k:Nat),.int (m:Nat)] Q H :=
 gX (C3 (R1 (b:=false) (b2:=false) (fun zz h=>h) fun zz=>R1 (b:=false) (b2:=false) (fun zz h=>h) fun zz=>Y3 (J6 (C7 (fun zz h=>h) (fun zz h=>h) X3) (decide_eq_false (by exact Int.not_lt.mpr (Int.ofNat_le.mpr (M4 h1)))))) (I6 (R1 (b:=false) (b2:=true) (fun zz h=>h) fun zz=>Y3 (J6 (C7 (fun zz h=>h) (fun zz h=>h) xQ) (decide_eq_true (Int.ofNat_le.mpr h2)))) h))
theorem Ao8 {n k:Nat}{H:Heap}(h1:1<=k) (Q:C2) (h:Q (.bool true) H):C1 P (n+1) "is_number" [.int (k:Nat),.none] Q H :=
 gX (C3 (R1 (b:=false) (b2:=false) (fun zz h=>h) fun zz=>R1 (b:=false) (b2:=false) (fun zz h=>h) fun zz=>Y3 (J6 (C7 (fun zz h=>h) (fun zz h=>h) X3) (decide_eq_false (by exact Int.not_lt.mpr (Int.ofNat_le.mpr (M4 h1)))))) (I6 (R1 (b:=true) (b2:=true) (fun zz h=>h) fun q=>nomatch q) h))
theorem vP {H:Heap}{n:Nat}{ts:List T}{sub:List It}{lo hi:Nat}{v:V}(h:J0 H (itE (.it n ts sub)) lo hi v):∃ a b,v=.tup [.int (n:Nat),.ref a,.ref b]/\J0 H (.lst (G9 ts)) lo hi (.ref a)/\J0 H (.lst (aG sub)) lo hi (.ref b):=by
 obtain ⟨l,rfl,h⟩:=h
 obtain ⟨r,_,rfl,q1,h⟩:=N6 h
 obtain ⟨a,r,_,rfl,ha,q2,h⟩:=iJ h
 have hle:=h.le
 obtain ⟨b,r,_,rfl,hb,_,h⟩:=iJ h
 rw [h.2]
 exact ⟨a,b,rfl,ha.wide q1 hle,hb.wide (A3 q1 q2) h.1⟩
theorem Cj6 {H:Heap}{is:List It}{lo hi:Nat}{l:List V}{k:Nat}{v:V}(h:E8 H (aG is) lo hi l) (hv:l[k]? = some v):∃ i,is[k]? = some i/\J0 H (itE i) lo hi v:=Bw9 (oC is) h hv
theorem mJ:∀ {is:List It}{k:Nat}{i:It},is[k]? = some i->dI i<=dIs is
 | j::is,0,i,h=>by cases h;exact Nat.le_max_left _ _
 | j::is,k+1,i,h=>A3 (mJ (is:=is) h) (Nat.le_max_right _ _)
noncomputable def AIs (m n:Nat):Prop:=∀ (is:List It) (above a lo hi:Nat) (H:Heap) (Q:C2),dIs is<=m->dJ above 9 is->J0 H (.lst (aG is)) lo hi (.ref a)->hi<=H.length->(∀ G,E6 H G->Q (.bool true) G)->C1 P n "are_items" [.ref a,.int (above:Nat)] Q H
structure IZ where
 most:Nat
 e:Option V
theorem pL {m n:Nat}(ih:∀ m',m=m'+1->AIs m' (n+30)):AIs m (n+31):=by
 intro is above a lo hi H Q hd hi0 hr hh hQ
 obtain ⟨a',l,p,q,e,hb,ha,hrl⟩:=hr
 cases e
 have hq:q<=H.length:=A3 hb.qh hh
 refine xB (C3 (fun zz h=>h) (C6 (fun zz h=>h) (I3 (V2 (σ:=IZ) (fun z=>[some (.ref a),some (.int (above:Nat)),some (.int (z.most:Nat)),z.e]) (fun k z G=>E6 H G/\dJ above z.most (is.drop k)) (l:=l) (fun k z G hI=>hI.1.get ha) (fun k z G v hv hI K hK=>?_) (fun z G hI=>hQ G hI.1) ⟨9,none⟩ (fun zz h=>h) ⟨.refl,hi0⟩))))
 obtain ⟨hg,hio⟩:=hI
 obtain ⟨i,hi1,hri⟩:=Cj6 hrl hv
 have hdk:=A3 (mJ hi1) hd
 obtain ⟨c,ts,sub⟩:=i
 have ed:is.drop k=.it c ts sub::is.drop (k+1):=by
  obtain ⟨h1,h2⟩:=List.getElem?_eq_some_iff.mp hi1
  rw [List.drop_eq_getElem_cons h1,h2]
 rw [ed] at hio
 obtain ⟨⟨hn,hct,hsub⟩,hrest⟩:=hio
 obtain ⟨a1,b1,rfl,hra,hrb⟩:=vP (hri.grow hg hq)
 have hqG:q<=G.length:=A3 hq hg.len
 obtain ⟨m',rfl⟩:=nJ hdk
 refine C3 (R1 (b:=false) (b2:=false) (fun zz h=>h) fun zz=>fun zz h=>h) (C3 (R1 (b:=false) (b2:=false) (jM (t:=true) (D3 (fun zz h=>h) (sP hn.1 hn.2.1))) fun zz=>Y3 (J6 (C7 (fun zz h=>h) (fun zz h=>h) xQ) (decide_eq_false (by lia)))) (Q4 (Φ:=E6 G) (rN (xZ (t:=true) (X5 (fun zz h=>h) fun Q k=>fC (n:=n) hct hra hqG Q k)) fun G1 g1=>xY (Bg0 (xZ (t:=true) (X5 (fun zz h=>h) fun Q k=>ih m' rfl sub c b1 p q G1 Q (Nat.le_of_succ_le_succ hdk) hsub (hrb.grow g1 hqG) (A3 hqG g1.len) k)) fun G2 g2=>g1.trans g2)) fun G2 g2=>?_))
 exact hK ⟨c,_⟩ _ ⟨hg.trans g2,hrest⟩
theorem hZ:∀ (m n:Nat),AIs m (n+m+31)
 | 0,n=>pL fun m' q=>nomatch q
 | m+1,n=>pL (n:=n+m+1) fun m' q=>by cases q;exact hZ m n
noncomputable def fE:Bk->List Nat
 | .gap _=>[103,97,112]
 | .head _ _=>[104,101,97,100,105,110,103]
 | .list _=>[108,105,115,116]
 | .para _=>[112,97,114,97]
 | .quote _=>[113,117,111,116,101]
mutual
noncomputable def BO1:Nat->Bk->Prop
 | _,.gap n=>1<=n
 | _,.head n ts=>(1<=n/\n<=6)/\Ct ts
 | _,.list is=>is≠[]/\dJ 0 9 is/\dIs is<=9
 | deep,.para rs=>rs≠[]/\∀ ts∈rs,Ct ts/\(shp deep (rowTs ts)).k=4
 | deep,.quote bs=>deep<9/\bs≠[]/\bA (deep+1) [] bs
noncomputable def bA:Nat->List Nat->List Bk->Prop
 | _,_,[]=>True
 | deep,last,b::bs=>BO1 deep b/\(fE b≠last∨last=[104,101,97,100,105,110,103])/\bA deep (fE b) bs
end
mutual
theorem Cx0:∀ {above most:Nat}{i:It},IO1 above most i->okX (itE i)
 | above,most,.it n ts sub,h=>⟨trivial,jS h.2.1.good,yG h.2.2,trivial⟩
theorem yG:∀ {above most:Nat}{is:List It},dJ above most is->qS (aG is)
 | _,_,[],_=>trivial
 | above,most,i::is,h=>⟨Cx0 h.1,yG h.2⟩
end
theorem Bh2:∀ {rs:List (List T)},(∀ ts∈rs,Ct ts)->qS (xK rs)
 | [],_=>trivial
 | ts::rs,h=>⟨jS (h ts (.head _)).good,Bh2 fun x hx=>h x (.tail _ hx)⟩
mutual
theorem Cx1:∀ {deep:Nat}{b:Bk},BO1 deep b->okX (bkE b)
 | _,.gap n,h=>⟨okL rfl,trivial,trivial⟩
 | _,.head n ts,h=>⟨okL rfl,trivial,jS h.2.good,trivial⟩
 | _,.list is,h=>⟨okL rfl,yG h.2.1,trivial⟩
 | _,.para rs,h=>⟨okL rfl,Bh2 fun ts ht=>(h.2 ts ht).1,trivial⟩
 | deep,.quote bs,h=>⟨okL rfl,yH h.2.2,trivial⟩
theorem yH:∀ {deep:Nat}{last:List Nat}{bs:List Bk},bA deep last bs->qS (L9 bs)
 | _,_,[],_=>trivial
 | deep,last,b::bs,h=>⟨Cx1 h.1,yH h.2.2⟩
end
theorem aK {H:Heap}{w:List Nat}{xs:List X}{lo hi:Nat}{v:V}(h:J0 H (.tup [.at (.s w),.lst xs]) lo hi v):∃ a,v=.tup [.str w,.ref a]/\J0 H (.lst xs) lo hi (.ref a):=by
 obtain ⟨l,rfl,h⟩:=h
 obtain ⟨r,_,rfl,q1,h⟩:=N6 h
 obtain ⟨a,r,_,rfl,ha,q2,h⟩:=iJ h
 rw [h.2]
 exact ⟨a,rfl,ha.wide q1 h.1⟩
theorem Ak3 {H:Heap}{n:Nat}{lo hi:Nat}{v:V}(h:J0 H (bkE (.gap n)) lo hi v):v=.tup [.str [103,97,112],.int (n:Nat)]:=by
 obtain ⟨l,rfl,h⟩:=h
 obtain ⟨r,_,rfl,q1,h⟩:=N6 h
 obtain ⟨r,_,rfl,q1,h⟩:=N6 h
 rw [h.2];rfl
theorem vQ {H:Heap}{n:Nat}{ts:List T}{lo hi:Nat}{v:V}(h:J0 H (bkE (.head n ts)) lo hi v):∃ a,v=.tup [.str [104,101,97,100,105,110,103],.int (n:Nat),.ref a]/\J0 H (.lst (G9 ts)) lo hi (.ref a):=by
 obtain ⟨l,rfl,h⟩:=h
 obtain ⟨r,_,rfl,q1,h⟩:=N6 h
 obtain ⟨r,_,rfl,q2,h⟩:=N6 h
 obtain ⟨a,r,_,rfl,ha,q3,h⟩:=iJ h
 rw [h.2]
 exact ⟨a,rfl,ha.wide (A3 q1 q2) h.1⟩
theorem Cj7 {H:Heap}{is:List Bk}{lo hi:Nat}{l:List V}{k:Nat}{v:V}(h:E8 H (L9 is) lo hi l) (hv:l[k]? = some v):∃ i,is[k]? = some i/\J0 H (bkE i) lo hi v:=Bw9 (cF is) h hv
theorem Cj5 {H:Heap}{is:List (List T)}{lo hi:Nat}{l:List V}{k:Nat}{v:V}(h:E8 H (xK is) lo hi l) (hv:l[k]? = some v):∃ i a,is[k]? = some i/\v=.ref a/\J0 H (.lst (G9 i)) lo hi (.ref a):=by
 obtain ⟨ts,ht,hr⟩:=Bw9 (gB is) h hv
 obtain ⟨a,_,_,_,rfl,_⟩:=id hr
 exact ⟨ts,a,ht,rfl,hr⟩
theorem Ab9 {C:Calls}{ρ:D7}{H:Heap}{x:X}{xs:List X}{a lo hi m:Nat}{e:E}(he:Ev C ρ H e (.ref a)) (hm:m<100) (hf:M1 W m (.lst (x::xs))) (ho:okX (.lst (x::xs))) (h:J0 H (.lst (x::xs)) lo hi (.ref a)) (hh:hi<=H.length):T9 C ρ H (.cmp .eq e (.list [])) (.bool false) (fun G=>G=H++[[]]) :=
 yA (fF he) (fun G g=>by subst g;exact lX) fun G g=>by
  subst g
  exact Bw7 hm hf ho (h.grow .one hh) E0
theorem Cc9 {n deep a lo hi m:Nat}{rs:List (List T)}{H:Heap}(hne:rs≠[]) (hrs:∀ ts∈rs,Ct ts/\(shp deep (rowTs ts)).k=4) (hm:m<100) (hf:M1 W m (.lst (xK rs))) (hr:J0 H (.lst (xK rs)) lo hi (.ref a)) (hh:hi<=H.length) (Q:C2) (h:∀ G,E6 H G->Q (.bool true) G):C1 P (n+31) "are_rows" [.ref a,.int (deep:Nat)] Q H:=by
 have hok:=Bh2 fun ts ht=>(hrs ts ht).1
 cases rs with
 | nil=>exact absurd rfl hne
 | cons t0 rs =>
  refine Ag0 (Q4 (rN (fF (v:=.bool false) (fun zz h=>h)) fun G g=>by subst g;exact xY (Ab9 (by exact fun zz h=>h) hm hf hok hr hh)) fun G g=>?_)
  subst g
  obtain ⟨a',l,p,q,e,hb,ha,hrl⟩:=hr
  cases e
  have hq:q<=H.length:=A3 hb.qh hh
  refine I3 (V2 (σ:=Option V) (fun z=>[some (.ref a),some (.int (deep:Nat)),z]) (fun k z G=>E6 H G) (l:=l) (fun k z G hI=>hI.get ha) (fun k z G v hv hI K hK=>?_) (fun z G hI=>h G hI) none (fun zz h=>h) .one)
  obtain ⟨ts,b,hts,rfl,hrb⟩:=Cj5 hrl hv
  obtain ⟨hc,h4⟩:=hrs ts (B9 hts)
  have hrb:=hrb.grow hI hq
  have hqG:q<=G.length:=A3 hq hI.len
  have e2:∀ G1,E6 G G1->T9 (C1 P (n+30)) [some (.ref a),some (.int (deep:Nat)),some (.ref b)] G1 (.cmp .ne (.idx (.call "shape" [.call "row_of" [.var 2],.var 1]) (.int 0)) (.str [112,108,97,105,110])) (.bool false) (E6 G1):=fun G1 g1 Q k=>by
   refine Cr5 (yC (M6 (M5 (M6 (M5 (Y4 rfl (I1 (sO (n:=n+1) hc.good (hrb.grow g1 hqG) (A3 hqG g1.len) (A3 hc.len (by decide)) fun l l'=>M5 (Y4 rfl (I1 (zZ (n:=n+28) (deep:=deep) (row:=rowTs ts) _ ?_)))))))))))
   generalize shp deep (rowTs ts)=s at h4
   obtain ⟨k4,sn,sr⟩:=s
   cases h4
   exact k _ bF
  refine Q4 (Φ:=E6 G) (rN (xZ (t:=true) (X5 (fun zz h=>h) fun Q k=>fC (n:=n) hc hrb hqG Q k)) fun G1 g1=>xY (Bg0 (e2 G1 g1) fun G2 g2=>g1.trans g2)) fun G2 g2=>?_
  exact hK _ _ (hI.trans g2)
theorem Bu1 {C:Calls}{ρ:D7}{H:Heap}{x:X}{xs:List X}{a lo hi m:Nat}{e:E}(he:Ev C ρ H e (.ref a)) (hm:m<100) (hf:M1 W m (.lst (x::xs))) (ho:okX (.lst (x::xs))) (h:J0 H (.lst (x::xs)) lo hi (.ref a)) (hh:hi<=H.length):T9 C ρ H (.cmp .ne e (.list [])) (.bool true) (E6 H) :=
 Bg0 (Φ:=fun G=>G=H++[[]]) (yA (fF he) (fun G g=>by subst g;exact lX) fun G g=>by
  subst g
  exact congrArg (Option.map not) (Bw7 hm hf ho (h.grow .one hh) E0)) fun G g=>by subst g;exact .one
theorem Bv0 {bs:List Bk}{k:Nat}{b:Bk}(h:bs[k]? = some b):bkE b∈L9 bs:=by rw [cF];exact List.mem_map.mpr ⟨b,B9 h,rfl⟩
noncomputable def ABs (d deep n:Nat):Prop:=∀ (bs:List Bk) (a lo hi:Nat) (H:Heap) (Q:C2),bs≠[]->bA deep [] bs->M1 W (2 * d+47) (.lst (L9 bs))->J0 H (.lst (L9 bs)) lo hi (.ref a)->hi<=H.length->(∀ G,E6 H G->Q (.bool true) G)->C1 P n "are_blocks" [.ref a,.int (deep:Nat)] Q H
theorem Af0 {n d deep lo hi:Nat}{b:Bk}{v:V}{H:Heap}(hd:deep+d=9) (ih:∀ d',d=d'+1->ABs d' (deep+1) (n+40)) (hb:BO1 deep b) (hf:M1 W (2 * d+46) (bkE b)) (hr:J0 H (bkE b) lo hi v) (hh:hi<=H.length) (Q:C2) (h:∀ G,E6 H G->Q (.bool true) G):C1 P (n+41) "is_block" [v,.int (deep:Nat)] Q H:=by
 refine Af8 ?_
 cases b with
 | gap k =>
  rw [Ak3 hr]
  exact D5 (J6 (D3 (fun zz h=>h) I2) rfl) (I6 (D3 (fun zz h=>h) (Ao8 hb)) (h H .refl))
 | head k ts =>
  obtain ⟨a,rfl,hra⟩:=vQ hr
  exact C3 (J6 (D3 (fun zz h=>h) I2) rfl) (D5 (J6 (D3 (fun zz h=>h) I2) rfl) (nI (Φ:=E6 H) (V7 (fF (D3 (fun zz h=>h) (sP hb.1.1 hb.1.2))) fun G g=>by subst g;exact bR (X5 (fun zz h=>h) fun Q k=>fC (n:=n+10) hb.2 hra hh Q k)) h))
 | list is =>
  obtain ⟨a,rfl,hra⟩:=aK hr
  have hfl:=hf.2 _ (List.mem_cons_of_mem _ (.head _))
  cases is with
  | nil=>exact absurd rfl hb.1
  | cons i is =>
   refine C3 (J6 (D3 (fun zz h=>h) I2) rfl) (C3 (J6 (D3 (fun zz h=>h) I2) rfl) (D5 (J6 (D3 (fun zz h=>h) I2) rfl) (nI (Φ:=E6 H) (V7 (X5 (fun zz h=>h) fun Q k=>hZ 9 n (i::is) 0 a lo hi H Q hb.2.2 hb.2.1 hra hh k) fun G g=>bR (Bg0 (Bu1 (by exact fun zz h=>h) ?_ hfl (yG hb.2.1) (hra.grow g hh) (A3 hh g.len)) fun G1 g1=>g.trans g1)) h)))
   exact M4 (M9 (Nat.le_of_eq hd) (Nat.le_of_eq hd))
 | para rs =>
  obtain ⟨a,rfl,hra⟩:=aK hr
  have hfl:=hf.2 _ (List.mem_cons_of_mem _ (.head _))
  exact C3 (J6 (D3 (fun zz h=>h) I2) rfl) (C3 (J6 (D3 (fun zz h=>h) I2) rfl) (C3 (J6 (D3 (fun zz h=>h) I2) rfl) (D5 (J6 (D3 (fun zz h=>h) I2) rfl) (nI (Φ:=E6 H) (X5 (fun zz h=>h) fun Q k=>Cc9 (n:=n+9) (m:=2 * d+45) hb.1 hb.2 (by exact M4 (M9 (Nat.le_of_eq hd) (Nat.le_of_eq hd))) hfl hra hh Q k) h))))
 | quote bs =>
  obtain ⟨a,rfl,hra⟩:=aK hr
  have hfl:=hf.2 _ (List.mem_cons_of_mem _ (.head _))
  obtain ⟨d',rfl⟩:=mC hd hb.1
  exact C3 (J6 (D3 (fun zz h=>h) I2) rfl) (C3 (J6 (D3 (fun zz h=>h) I2) rfl) (C3 (J6 (D3 (fun zz h=>h) I2) rfl) (C3 (J6 (D3 (fun zz h=>h) I2) rfl) (D5 (J6 (D3 (fun zz h=>h) I2) rfl) (nI (Φ:=E6 H) (V7 (fF (J6 (C7 (fun zz h=>h) (fun zz h=>h) X3) (decide_eq_true (Int.ofNat_lt.mpr hb.1)))) fun G g=>by subst g;exact bR (X5 (fun zz h=>h) fun Q k=>ih d' rfl bs a lo hi G Q hb.2.1 hb.2.2 hfl hra hh k)) h)))))
theorem Ch8 {H:Heap}{b:Bk}{lo hi:Nat}{v:V}(h:J0 H (bkE b) lo hi v):∃ l,v=.tup (.str (fE b)::l):=by
 cases b<;>(obtain ⟨l,rfl,h⟩:=h;obtain ⟨r,_,rfl,q1,h⟩:=N6 h;exact ⟨r,rfl⟩)
structure BZ where
 last:List Nat
 e:Option V
theorem Az1 {n d deep:Nat}(hd:deep+d=9) (ih:∀ d',d=d'+1->ABs d' (deep+1) (n+40)):ABs d deep (n+42):=by
 intro bs a lo hi H Q hne hbo hf hr hh hQ
 cases bs with
 | nil=>exact absurd rfl hne
 | cons b0 bs =>
  refine rD (Q4 (rN (fF (v:=.bool false) (fun zz h=>h)) fun G g=>by subst g;exact xY (Ab9 (by exact fun zz h=>h) (by exact M4 (M9 (Nat.le_of_eq hd) (Nat.le_of_eq hd))) hf (yH hbo) hr hh)) fun G g=>?_)
  subst g
  obtain ⟨a',l,p,q,e,hb,ha,hrl⟩:=hr
  cases e
  have hq:q<=H.length:=A3 hb.qh hh
  refine C6 (fun zz h=>h) (I3 (V2 (σ:=BZ) (fun z=>[some (.ref a),some (.int (deep:Nat)),some (.str z.last),z.e]) (fun k z G=>E6 H G/\bA deep z.last ((b0::bs).drop k)) (l:=l) (fun k z G hI=>hI.1.get ha) (fun k z G v hv hI K hK=>?_) (fun z G hI=>hQ G hI.1) ⟨[],none⟩ (fun zz h=>h) ⟨.one,hbo⟩))
  obtain ⟨hg,hio⟩:=hI
  obtain ⟨b,hb1,hrb⟩:=Cj7 hrl hv
  have hfb:=hf.2 _ (Bv0 hb1)
  generalize hbs:b0::bs=all at hb1 hio hK
  have ed:all.drop k=b::all.drop (k+1):=by
   obtain ⟨h1,h2⟩:=List.getElem?_eq_some_iff.mp hb1
   rw [List.drop_eq_getElem_cons h1,h2]
  rw [ed] at hio
  obtain ⟨ho,hl,hrest⟩:=hio
  have hrb:=hrb.grow hg hq
  have hqG:q<=G.length:=A3 hq hg.len
  obtain ⟨vs,rfl⟩:=Ch8 hrb
  refine Q4 (Φ:=E6 G) (xZ (t:=true) (X5 (fun zz h=>h) fun Q k=>Af0 hd ih ho hfb hrb hqG Q k)) fun G1 g1=>?_
  have e0:∀ {C:Calls},Ev C [some (.ref a),some (.int (deep:Nat)),some (.str z.last),some (.tup (.str (fE b)::vs))] G1 (.idx (.var 3) (.int 0)) (.str (fE b)):=E4 (fun zz h=>h) (fun zz h=>h) aL
  refine C3 (J6 (E5 (b:=fE b==z.last) (b2:=!(z.last==[104,101,97,100,105,110,103])) (C7 e0 (fun zz h=>h) rfl) fun q=>G8 (C7 (fun zz h=>h) (fun zz h=>h) rfl)) ?_) (C6 e0 (hK ⟨fE b,_⟩ _ ⟨hg.trans g1,hrest⟩))
  rcases hl with hl | hl
  ·rw [beq_eq_false_iff_ne.mpr hl];rfl
  ·rw [hl];exact Bool.and_false _
theorem eF:∀ (d deep n:Nat),deep+d=9->ABs d deep (n+2 * d+42)
 | 0,deep,n,hd=>Az1 hd fun d' q=>nomatch q
 | d+1,deep,n,hd=>Az1 (n:=n+2 * d+2) hd fun d' q=>by cases q;exact eF d (deep+1) n (yD hd)
noncomputable def mk (c n:Nat) (r:List Nat):List Nat:=List.replicate n c++32::r
mutual
noncomputable def rwI:It->List (List Nat)
 | .it n ts sub=>mk 45 n (rowTs ts)::M3 sub
noncomputable def M3:List It->List (List Nat)
 | []=>[]
 | i::is=>rwI i++M3 is
end
theorem nV:∀ is js:List It,M3 (is++js)=M3 is++M3 js
 | [],js=>rfl
 | i::is,js=>by show rwI i++M3 (is++js)=(rwI i++M3 is)++M3 js;rw [nV is js,A7]
theorem Br4 (i:It):M3 [i]=rwI i:=List.append_nil _
mutual
noncomputable def rwB:Bk->List (List Nat)
 | .gap n=>List.replicate n []
 | .head n ts=>[mk 35 n (rowTs ts)]
 | .list is=>M3 is
 | .para rs=>rs.map rowTs
 | .quote bs=>(rwBs bs).map fun r=>62::32::r
noncomputable def rwBs:List Bk->List (List Nat)
 | []=>[]
 | b::bs=>rwB b++rwBs bs
end
noncomputable def nmK:Nat->List Nat
 | 0=>[103,97,112]
 | 1=>[113,117,111,116,101]
 | 2=>[104,101,97,100,105,110,103]
 | 3=>[108,105,115,116]
 | _=>[112,97,114,97]
theorem Cd8:∀ a<5,∀ b<5,nmK a=nmK b->a=b:=by decide
structure Up (m:Nat) (H G:Heap):Prop where
 len:H.length<=G.length
 eq:∀ b,b≠m->b<H.length->G[b]? = H[b]?
theorem Up.refl {m:Nat}{H:Heap}:Up m H H:=⟨A4 _,fun zz zz zz=>rfl⟩
theorem Up.trans {m:Nat}{A B C:Heap}(h:Up m A B) (k:Up m B C):Up m A C:=⟨A3 h.len k.len,fun b q1 q2=>(k.eq b q1 (A8 q2 h.len)).trans (h.eq b q1 q2)⟩
theorem Up.grow {m:Nat}{H G:Heap}(g:E6 H G):Up m H G:=⟨g.len,fun b zz q=>g.old b (B0 _) q⟩
theorem Up.set {m:Nat}{H:Heap}{l:List V}:Up m H (H.set m l):=⟨by rw [List.length_set];exact A4 _,fun b q zz=>List.getElem?_set_ne (Ne.symm q)⟩
theorem Up.get {m b:Nat}{H G:Heap}{l:List V}(u:Up m H G) (hb:b≠m) (h:H[b]? = some l):G[b]? = some l:=(u.eq b hb (H8 h)).trans h
theorem Up.eqv {m lo hi:Nat}{H G:Heap}(u:Up m H G) (h1:hi<=m) (h2:hi<=H.length):L0 H G lo hi:=fun x zz q=>u.eq x (Nat.ne_of_lt (A8 q h1)) (A8 q h2)
noncomputable def tY (H:Heap) (lo:Nat):List V->List (List Nat)->Prop
 | [],rs=>rs=[]
 | v::l,rs=>∃ b ps r rs',v=.ref b/\lo<=b/\H[b]? = some ps/\Pc ps r/\rs=r::rs'/\tY H lo l rs'
theorem tY.up {m lo lo':Nat}{H G:Heap}(u:Up m H G) (hm:m<lo) (hl:lo'<=lo):∀ {l:List V}{rs:List (List Nat)},tY H lo l rs->tY G lo' l rs
 | [],rs,h=>h
 | v::l,rs,h=>by
  obtain ⟨b,ps,r,rs',e1,h1,h2,h3,e2,h4⟩:=h
  exact ⟨b,ps,r,rs',e1,A3 hl h1,u.get (Nat.ne_of_gt (A8 hm h1)) h2,h3,e2,tY.up u hm hl h4⟩
theorem tY.app {lo:Nat}{H:Heap}{l':List V}{rs':List (List Nat)}(h':tY H lo l' rs'):∀ {l:List V}{rs:List (List Nat)},tY H lo l rs->tY H lo (l++l') (rs++rs')
 | [],rs,h=>by rw [show rs=[] from h];exact h'
 | v::l,rs,h=>by
  obtain ⟨b,ps,r,rs1,e1,h1,h2,h3,e2,h4⟩:=h
  rw [e2]
  exact ⟨b,ps,r,rs1++rs',e1,h1,h2,h3,rfl,tY.app h' h4⟩
theorem tY.len {lo:Nat}{H:Heap}:∀ {l:List V}{rs:List (List Nat)},tY H lo l rs->l.length=rs.length
 | [],rs,h=>by rw [show rs=[] from h];rfl
 | v::l,rs,h=>by
  obtain ⟨b,ps,r,rs1,e1,h1,h2,h3,e2,h4⟩:=h
  rw [e2]
  exact congrArg (· + 1) (tY.len h4)
theorem tY.at {lo:Nat}{H:Heap}:∀ {l:List V}{rs:List (List Nat)}{i:Nat}{v:V},tY H lo l rs->l[i]? = some v->∃ b ps r,v=.ref b/\lo<=b/\H[b]? = some ps/\Pc ps r/\rs[i]? = some r
 | v::l,rs,0,w,h,hv=>by
  obtain ⟨b,ps,r,rs1,e1,h1,h2,h3,e2,h4⟩:=h
  cases hv
  exact ⟨b,ps,r,e1,h1,h2,h3,by rw [e2];rfl⟩
 | v::l,rs,i+1,w,h,hv=>by
  obtain ⟨b,ps,r,rs1,e1,h1,h2,h3,e2,h4⟩:=h
  rw [e2]
  obtain ⟨b',ps',r',g⟩:=tY.at (l:=l) h4 hv
  exact ⟨b',ps',r',g⟩
structure RS (m:Nat) (H:Heap) (l0:List V) (rs:List (List Nat)) (G:Heap):Prop where
 up:Up m H G
 new:∃ l,G[m]? = some (l0++l)/\tY G H.length l rs
theorem RS.nil {m:Nat}{H:Heap}{l0:List V}(h:H[m]? = some l0):RS m H l0 [] H:=⟨.refl,[],by rw [List.append_nil];exact h,rfl⟩
theorem RS.trans {m:Nat}{H G G':Heap}{l0:List V}{rs rs':List (List Nat)}(hm:m<H.length) (h:RS m H l0 rs G) (k:∀ lG,G[m]? = some lG->RS m G lG rs' G'):RS m H l0 (rs++rs') G':=by
 obtain ⟨u,l,e,hl⟩:=h
 obtain ⟨u',l',e',hl'⟩:=k _ e
 exact ⟨u.trans u',l++l',by rw [<- A7];exact e',tY.app (hl'.up .refl (A8 hm u.len) u.len) (hl.up u' hm (A4 _))⟩
theorem RS.one {m b:Nat}{H G:Heap}{l0 ps:List V}{r:List Nat}(hm:H[m]? = some l0) (g:E6 H G) (hb:G[b]? = some ps) (hlb:H.length<=b) (hp:Pc ps r):RS m H l0 [r] (G.set m (l0++[.ref b])):=by
 have hmH:=H8 hm
 refine ⟨(Up.grow g).trans .set,[.ref b],List.getElem?_set_self (A8 hmH g.len),b,ps,r,[],rfl,hlb,?_,hp,rfl,rfl⟩
 rw [List.getElem?_set_ne (Nat.ne_of_lt (A8 hmH hlb))];exact hb
theorem RS.get {m:Nat}{H G:Heap}{l0:List V}{rs:List (List Nat)}(h:RS m H l0 rs G):∃ l,G[m]? = some l/\l.length=l0.length+rs.length:=by
 obtain ⟨u,l,e,hl⟩:=h
 exact ⟨_,e,by rw [A6,hl.len]⟩
theorem jF {C:Calls}{ρ:D7}{H:Heap}{R:E2}{ss:List S}{o e:E}{a:Nat}{v:V}{Φ:Heap->Prop}(ho:Ev C ρ H o (.ref a)) (he:T9 C ρ H e v Φ) (k:∀ G,Φ G->∃ l,G[a]? = some l/\l.length<I8/\C4 C ss ρ R (G.set a (l++[v]))):C4 C (.expr (.append o e)::ss) ρ R H:=ho _ (he _ fun G g=>by
 obtain ⟨l,h1,h2,h3⟩:=k G g
 exact K2 (Q:=fun zz H₁=>C4 C ss ρ R H₁) h1 h2 h3)
noncomputable def Ci4 (H:Heap) (b:Nat) (r:List Nat) (G:Heap):Prop:=E6 H G/\∃ ps,G[b]? = some ps/\Pc ps r
theorem Bk3 {n a lo hi:Nat}{ρ:D7}{H:Heap}{e1 e2:E}{w:List Nat}{ts:List T}(h1:Ev (C1 P (n+28)) ρ H e1 (.str w)) (hw:w≠[]) (h2:∀ l,Ev (C1 P (n+28)) ρ (H++[l]) e2 (.ref a)) (hg:X8 0 ts) (hr:J0 H (.lst (G9 ts)) lo hi (.ref a)) (hh:hi<=H.length) (hl:(w++rowTs ts).length<=1000000) :
  T9 (C1 P (n+28)) ρ H (.bin .add (.list [.tup [.str [109,97,114,107],e1]]) (.call "pieces_of" [e2])) (.ref (H.length+2)) (Ci4 H (H.length+2) (w++rowTs ts)):=fun Q k=>by
 have hlim:I8=16777216:=rfl
 have hl2:(rowTs ts).length<=1000000:=suf hl
 refine rP (aJ (I5 (v:=.tup [.str [109,97,114,107],.str w]) (fI (C9 (by exact fun zz h=>h) (C9 h1 K5))) (I1 (M6 (I5 (h2 _) (I1 (aY hg (hr.grow .one hh) (A3 hh E6.one.len) hl2 fun ps hp=>?_)))))))
 have hp':Pc ([.tup [.str [109,97,114,107],.str w]]++ps) (w++rowTs ts):=(Pc.one hw).app hp
 have hpl:=hp'.len
 rw [A6] at hpl
 have el:=yK (H:=H) (l:=[.tup [.str [109,97,114,107],.str w]]) (l':=ps)
 refine nC (l:=[.tup [.str [109,97,114,107],.str w]]) (r:=ps) (E6.one.get E0) E0 (A3 hpl (A3 hl xV)) ?_
 rw [el]
 refine k _ ⟨bF.trans .one,_,?_,hp'⟩
 rw [<- el];exact E0
mutual
noncomputable def GI1:It->Prop
 | .it n ts sub=>n<=9/\X8 0 ts/\GIs sub
noncomputable def GIs:List It->Prop
 | []=>True
 | i::is=>GI1 i/\GIs is
end
mutual
theorem Cn3:∀ {above most:Nat}{i:It},most<=9->IO1 above most i->GI1 i
 | above,most,.it n ts sub,hm,h=>⟨A3 h.1.2.1 hm,h.2.1.good,vZ (A4 _) h.2.2⟩
theorem vZ:∀ {above most:Nat}{is:List It},most<=9->dJ above most is->GIs is
 | _,_,[],_,_=>trivial
 | above,most,.it n ts sub::is,hm,h=>⟨Cn3 hm h.1,vZ (A3 h.1.1.2.1 hm) h.2⟩
end
theorem GIs.get:∀ {is:List It}{k:Nat}{i:It},GIs is->is[k]? = some i->GI1 i
 | j::is,0,i,h,e=>by cases e;exact h.1
 | j::is,k+1,i,h,e=>GIs.get (is:=is) h.2 e
theorem Aw7 {is:List It}{k:Nat}{i:It}(h:is[k]? = some i):M3 (is.take (k+1))=M3 (is.take k)++rwI i/\M3 is=M3 (is.take k)++(rwI i++M3 (is.drop (k+1))):=by
 have e:M3 (is.take (k+1))=M3 (is.take k)++rwI i:=by rw [List.take_add_one,h,nV];exact congrArg _ (Br4 i)
 refine ⟨e,?_⟩
 rw [<- A7,<- e,<- nV,List.take_append_drop]
theorem yI {c n:Nat}{r:List Nat}:(List.replicate n c++[32])++r=mk c n r:=A7 ..
theorem wC {C:Calls}{ρ:D7}{H:Heap}{e:E}{c n:Nat}(hn:n<=9) (he:Ev C ρ H e (.int (n:Nat))):Ev C ρ H (.bin .add (.bin .mul (.str [c]) e) (.str [32])) (.str (List.replicate n c++[32])):=by
 have hlim:I8=16777216:=rfl
 refine D6 (lT (D6 (fun zz h=>h) he (Aj6 ⟨?_,?_,?_⟩)) (congrArg V.str List.flatten_replicate_singleton)) (fun zz h=>h) (aI ?_)
 ·show 1 * n<=I8;rw [Nat.one_mul];exact A3 hn (by show 9<=16777216;decide)
 ·exact Int.lt_of_lt_of_le (by decide) (Int.natCast_nonneg n)
 ·exact Int.lt_of_le_of_lt (Int.ofNat_le.mpr hn) (by decide)
 ·rw [List.length_replicate];show n+1<=I8;exact A3 (B3 hn) (by show 10<=16777216;decide)
noncomputable def PIt (m n:Nat):Prop:=∀ (is:List It) (a lo hi mk:Nat) (H:Heap) (l0:List V) (Q:C2),dIs is<=m->GIs is->J0 H (.lst (aG is)) lo hi (.ref a)->hi<=mk->H[mk]? = some l0->l0.length+(M3 is).length<=1000000->(∀ r∈M3 is,r.length<=1000000)->(∀ G,RS mk H l0 (M3 is) G->Q .none G)->C1 P n "put_items" [.ref a,.ref mk] Q H
theorem cM {m n:Nat}(ih:∀ m',m=m'+1->PIt m' (n+28)):PIt m (n+29):=by
 intro is a lo hi mk' H l0 Q hd hg hr hh hm hl hrs hQ
 have hlim:I8=16777216:=rfl
 obtain ⟨a',l,p,q,e,hb,ha,hrl⟩:=hr
 cases e
 have hmH:=H8 hm
 have hqm:q<=mk':=A3 hb.qh hh
 have ham:a≠mk':=Nat.ne_of_lt (A8 hb.ah hh)
 refine wP (I3 (V2 (σ:=Option V) (fun z=>[some (.ref a),some (.ref mk'),z]) (fun k z G=>RS mk' H l0 (M3 (is.take k)) G) (l:=l) (fun k z G hI=>hI.up.get ham ha) (fun k z G v hv hI K hK=>?_) (fun z G hI=>?_) none (fun zz h=>h) (RS.nil hm)))
 ·obtain ⟨i,hi1,hri⟩:=Cj6 hrl hv
  have hdk:=A3 (mJ hi1) hd
  have hgi:=hg.get hi1
  obtain ⟨e1,e2⟩:=Aw7 hi1
  obtain ⟨c,ts,sub⟩:=i
  obtain ⟨m',rfl⟩:=nJ hdk
  have hqH:q<=H.length:=B5 (A9 hqm hmH)
  obtain ⟨a1,b1,rfl,hra,hrb⟩:=vP (hri.to (hI.up.eqv hqm hqH))
  have hqG:q<=G.length:=A3 hqH hI.up.len
  have e3:rwI (.it c ts sub)=mk 45 c (rowTs ts)::M3 sub:=rfl
  rw [e3] at e1 e2
  have hr0:(mk 45 c (rowTs ts)).length<=1000000:=hrs _ (by rw [e2];exact List.mem_append_right _ (.head _))
  have hlen:l0.length+((M3 (is.take k)).length+((M3 sub).length+1))<=1000000:=by
   rw [e2,A6,List.cons_append,List.length_cons,A6] at hl
   exact A3 (Nat.add_le_add_left (Nat.add_le_add_left (B3 (B4 _ _)) _) _) hl
  obtain ⟨lG,hlG,hlGl⟩:=hI.get
  refine jF (fun zz h=>h) (Bk3 (n:=n) (w:=List.replicate c 45++[32]) (ts:=ts) (a:=a1) (wC hgi.1 (by exact fun zz h=>h)) (by simp) (fun l=>by exact fun zz h=>h) hgi.2.1 hra hqG (by rw [yI];exact hr0)) fun G1 g1=>?_
  obtain ⟨gg,ps,hps,hp⟩:=g1
  rw [yI] at hp
  have hone:=RS.one hlG gg hps (B4 _ _) hp
  have hlg:lG.length+((M3 sub).length+1)<=1000000:=by rw [hlGl,Nat.add_assoc];exact hlen
  refine ⟨lG,gg.get hlG,xL (A3 (B4 _ _) hlg),K8 (fun zz h=>h) (ih m' rfl sub b1 p q mk' _ _ _ (Nat.le_of_succ_le_succ hdk) hgi.2.2 (hrb.to (hone.up.eqv hqm hqG)) hqm (List.getElem?_set_self (A8 (H8 hlG) gg.len)) ?_ (fun r hr=>hrs r ?_) fun G2 g2=>?_)⟩
  ·rw [A6];show lG.length+1+_<=_;rw [Nat.add_assoc,Nat.add_comm 1];exact hlg
  ·rw [e2];exact List.mem_append_right _ (.tail _ (List.mem_append_left _ hr))
  ·refine hK _ _ ?_
   rw [e1]
   refine hI.trans hmH fun lG' hlG'=>?_
   cases hlG.symm.trans hlG'
   refine RS.trans (rs:=[mk 45 c (rowTs ts)]) (H8 hlG) hone fun l2 hl2=>?_
   rw [List.getElem?_set_self (A8 (H8 hlG) gg.len)] at hl2
   cases hl2
   exact g2
 ·have:=hrl.len
  rw [Z8] at this
  rw [this,List.take_length] at hI
  exact hQ G hI
theorem gW:∀ (m n:Nat),PIt m (n+m+29)
 | 0,n=>cM fun m' q=>nomatch q
 | m+1,n=>cM (n:=n+m+1) fun m' q=>by cases q;exact gW m n
mutual
noncomputable def GB1:Nat->Bk->Prop
 | _,.gap n=>True
 | _,.head n ts=>n<=9/\X8 0 ts
 | _,.list is=>GIs is/\dIs is<=9
 | _,.para rs=>∀ ts∈rs,X8 0 ts
 | d,.quote bs=>∃ d',d=d'+1/\GBs d' bs
noncomputable def GBs:Nat->List Bk->Prop
 | _,[]=>True
 | d,b::bs=>GB1 d b/\GBs d bs
end
mutual
theorem Cn4:∀ {d deep:Nat}{b:Bk},deep+d=9->BO1 deep b->GB1 d b
 | _,_,.gap n,_,_=>trivial
 | _,_,.head n ts,_,h=>⟨A3 h.1.2 (by decide),h.2.good⟩
 | _,_,.list is,_,h=>⟨vZ (A4 _) h.2.1,h.2.2⟩
 | _,_,.para rs,_,h=>fun ts ht=>(h.2 ts ht).1.good
 | d,deep,.quote bs,hd,h=>by
  obtain ⟨d',rfl⟩:=mC hd h.1
  exact ⟨d',rfl,mG (deep:=deep+1) (yD hd) h.2.2⟩
theorem mG:∀ {d deep:Nat}{last:List Nat}{bs:List Bk},deep+d=9->bA deep last bs->GBs d bs
 | _,_,_,[],_,_=>trivial
 | d,deep,last,b::bs,hd,h=>⟨Cn4 hd h.1,mG hd h.2.2⟩
end
theorem GBs.get {d:Nat}:∀ {bs:List Bk}{k:Nat}{b:Bk},GBs d bs->bs[k]? = some b->GB1 d b
 | j::is,0,i,h,e=>by cases e;exact h.1
 | j::is,k+1,i,h,e=>GBs.get (bs:=is) h.2 e
theorem nW:∀ is js:List Bk,rwBs (is++js)=rwBs is++rwBs js
 | [],js=>rfl
 | i::is,js=>by show rwB i++rwBs (is++js)=(rwB i++rwBs is)++rwBs js;rw [nW is js,A7]
theorem Br5 (i:Bk):rwBs [i]=rwB i:=List.append_nil _
theorem Aw8 {is:List Bk}{k:Nat}{i:Bk}(h:is[k]? = some i):rwBs (is.take (k+1))=rwBs (is.take k)++rwB i/\rwBs is=rwBs (is.take k)++(rwB i++rwBs (is.drop (k+1))):=by
 have e:rwBs (is.take (k+1))=rwBs (is.take k)++rwB i:=by rw [List.take_add_one,h,nW];exact congrArg _ (Br5 i)
 refine ⟨e,?_⟩
 rw [<- A7,<- e,<- nW,List.take_append_drop]
noncomputable def RBs (d n:Nat):Prop:=∀ (bs:List Bk) (a lo hi:Nat) (H:Heap) (Q:C2),GBs d bs->J0 H (.lst (L9 bs)) lo hi (.ref a)->hi<=H.length->(rwBs bs).length<=1000000->(∀ r∈rwBs bs,r.length<=1000000)->(∀ G l,E6 H G->G[H.length]? = some l->tY G (H.length+1) l (rwBs bs)->Q (.ref H.length) G)->C1 P n "rows_of" [.ref a] Q H
structure RZ where
 e2:Option V
 e3:Option V
 e4:Option V
 e5:Option V
section
variable {n a m:Nat}{l0:List V}{H:Heap}{C:Calls}{R:E2}
theorem Bu0 {k:Nat}{e0:V}{x3 x4 x5:Option V}(hm:H[m]? = some l0) (hl:l0.length+k<=1000000) (h:∀ x3 G,RS m H l0 (List.replicate k []) G->R .next [some (.ref a),some (.ref m),some (.tup [e0,.int (k:Nat)]),x3,x4,x5] G) :
  C4 C [.forR 3 (.idx (.var 2) (.int 1)) [.expr (.append (.var 1) (.list []))]] [some (.ref a),some (.ref m),some (.tup [e0,.int (k:Nat)]),x3,x4,x5] R H:=by
 have hlim:I8=16777216:=rfl
 have he:Ev C [some (.ref a),some (.ref m),some (.tup [e0,.int (k:Nat)]),x3,x4,x5] H (.idx (.var 2) (.int 1)) (.int (k:Nat)):=fun zz h=>h
 refine I3 (uJ (Q:=K6 C [] R) (σ:=Option V) (fun z=>[some (.ref a),some (.ref m),some (.tup [e0,.int (k:Nat)]),z,x4,x5]) (fun i z G=>RS m H l0 (List.replicate i []) G) (n:=k) (by exact M4 hl) (fun i z G hi hI K hK=>?_) (fun z G hI=>h z G hI) x3 he (RS.nil hm))
 obtain ⟨lG,hlG,hlGl⟩:=hI.get
 rw [List.length_replicate] at hlGl
 refine I0 (H1:=G++[[]]) (v:=.ref G.length) (fun zz h=>h) (fun zz h=>h) (E6.one.get hlG) (by exact M4 (M9 (Nat.le_of_eq hlGl) (M9 hl (M9 hi (Nat.le_of_eq hlim.symm))))) (hK _ _ ?_)
 rw [show List.replicate (i+1) ([]:List Nat)=List.replicate i []++[[]] from List.replicate_succ']
 refine hI.trans (H8 hm) fun lG' hlG'=>?_
 cases hlG.symm.trans hlG'
 exact RS.one hlG .one E0 (A4 _) .nil
end
theorem Bk2 {rs:List (List T)}{k:Nat}{ts:List T}(h:rs[k]? = some ts):(rs.take (k+1)).map rowTs=(rs.take k).map rowTs++[rowTs ts]:=by
 rw [List.take_add_one,h,List.map_append];rfl
theorem Bd3 {n a m b lo hi:Nat}{l0:List V}{H:Heap}{R:E2}{rs:List (List T)}{e0:V}{x3 x4 x5:Option V}(hm:H[m]? = some l0) (hr:J0 H (.lst (xK rs)) lo hi (.ref b)) (hh:hi<=m) (hg:∀ ts∈rs,X8 0 ts) (hl:l0.length+rs.length<=1000000) (hrs:∀ r∈rs.map rowTs,r.length<=1000000) (h:∀ x4 G,RS m H l0 (rs.map rowTs) G->R .next [some (.ref a),some (.ref m),some (.tup [e0,.ref b]),x3,x4,x5] G) :
  C4 (C1 P (n+28)) [.forIn 4 (.idx (.var 2) (.int 1)) [.expr (.append (.var 1) (.call "pieces_of" [.var 4]))]] [some (.ref a),some (.ref m),some (.tup [e0,.ref b]),x3,x4,x5] R H:=by
 have hlim:I8=16777216:=rfl
 obtain ⟨a',l,p,q,e,hb,ha,hrl⟩:=hr
 cases e
 have hmH:=H8 hm
 have hqm:q<=m:=A3 hb.qh hh
 have hqH:q<=H.length:=B5 (A9 hqm hmH)
 refine I3 (V2 (σ:=Option V) (fun z=>[some (.ref a),some (.ref m),some (.tup [e0,.ref b]),x3,z,x5]) (fun k z G=>RS m H l0 ((rs.take k).map rowTs) G) (l:=l) (fun k z G hI=>hI.up.get (Nat.ne_of_lt (A8 hb.ah hh)) ha) (fun k z G v hv hI K hK=>?_) (fun z G hI=>?_) x4 (fun zz h=>h) (RS.nil hm))
 ·obtain ⟨ts,c,hts,rfl,hrc⟩:=Cj5 hrl hv
  have hmem:=B9 hts
  have hkl:=(List.getElem?_eq_some_iff.mp hts).1
  obtain ⟨lG,hlG,hlGl⟩:=hI.get
  rw [B6,List.length_take] at hlGl
  refine cA (fun zz h=>h) (fun zz h=>h) (aY (n:=n) (hg ts hmem) (hrc.to (hI.up.eqv hqm hqH)) (A3 hqH hI.up.len) (hrs _ (List.mem_map.mpr ⟨ts,hmem,rfl⟩)) fun ps hp=>K2 (E6.one.get hlG) (xL (A3 (Nat.le_of_eq hlGl) (A3 (Nat.add_le_add_left (Nat.min_le_right _ _) _) hl))) (hK _ _ ?_))
  rw [Bk2 hts]
  refine hI.trans hmH fun lG' hlG'=>?_
  cases hlG.symm.trans hlG'
  exact RS.one hlG .one E0 (A4 _) hp
 ·have:=hrl.len
  rw [mD] at this
  rw [this,List.take_length] at hI
  exact h z G hI
theorem Ao5 {n d a m b lo hi:Nat}{l0:List V}{H:Heap}{R:E2}{bs:List Bk}{e0:V}{x3 x4 x5:Option V}(ih:RBs d n) (hm:H[m]? = some l0) (hr:J0 H (.lst (L9 bs)) lo hi (.ref b)) (hh:hi<=m) (hg:GBs d bs) (hl:l0.length+(rwBs bs).length<=1000000) (hrs:∀ r∈rwBs bs,(62::32::r).length<=1000000) (h:∀ x5 G,RS m H l0 ((rwBs bs).map fun r=>62::32::r) G->R .next [some (.ref a),some (.ref m),some (.tup [e0,.ref b]),x3,x4,x5] G) :
  C4 (C1 P n) [.forIn 5 (.call "rows_of" [.idx (.var 2) (.int 1)]) [.expr (.append (.var 1) (.bin .add (.list [.tup [.str [109,97,114,107],.str [62,32]]]) (.var 5)))]] [some (.ref a),some (.ref m),some (.tup [e0,.ref b]),x3,x4,x5] R H:=by
 have hlim:I8=16777216:=rfl
 have hmH:=H8 hm
 refine I3 (Cl6 (M6 (I5 (v:=.ref b) (by exact fun zz h=>h) (I1 (ih bs b lo hi H _ hg hr (B5 (A9 hh hmH)) (A3 (Nat.le_add_left _ _) hl) (fun r hr=>Nat.le_of_succ_le (Nat.le_of_succ_le (hrs r hr))) fun G1 l g1 hl1 hw=>?_)))))
 have hlen:=hw.len
 have hm1:=g1.get hm
 refine Bj7 (σ:=Option V) (fun z=>[some (.ref a),some (.ref m),some (.tup [e0,.ref b]),x3,x4,z]) (fun k z G=>RS m G1 l0 (((rwBs bs).take k).map fun r=>62::32::r) G) (l:=l) (fun k z G hI=>hI.up.get (Nat.ne_of_gt hmH) hl1) (fun k z G v hv hI K hK=>?_) (fun z G hI=>?_) x5 (RS.nil hm1)
 ·obtain ⟨c,ps,r,rfl,hc,hps,hp,hrk⟩:=hw.at hv
  have hkl:=(List.getElem?_eq_some_iff.mp hrk).1
  have hr2:=hrs r (B9 hrk)
  obtain ⟨lG,hlG,hlGl⟩:=hI.get
  rw [B6,List.length_take] at hlGl
  have hps1:=hI.up.get (Nat.ne_of_gt (A8 (Nat.lt_succ_of_lt hmH) hc)) hps
  have hp':Pc ([.tup [.str [109,97,114,107],.str [62,32]]]++ps) ([62,32]++r):=(Pc.one (List.cons_ne_nil _ _)).app hp
  have hpl:=hp'.len
  rw [A6] at hpl
  have hr2':([62,32]++r).length<=1000000:=hr2
  have el:=L7 (H:=G) (x:=[.tup [.str [109,97,114,107],.str [62,32]]])
  have ev:T9 (C1 P n) [some (.ref a),some (.ref m),some (.tup [e0,.ref b]),x3,x4,some (.ref c)] G (.bin .add (.list [.tup [.str [109,97,114,107],.str [62,32]]]) (.var 5)) (.ref (G.length+1)) (Ci4 G (G.length+1) ([62,32]++r)):=fun Q k=>by
   refine rP (aJ (I5 (v:=.tup [.str [109,97,114,107],.str [62,32]]) (by exact fun zz h=>h) (I1 (Y4 rfl (nC (l:=[.tup [.str [109,97,114,107],.str [62,32]]]) (r:=ps) E0 (E6.one.get hps1) (by exact M4 (M9 hpl (M9 hr2' (Nat.le_of_eq hlim.symm)))) ?_)))))
   rw [el]
   refine k _ ⟨bF,_,?_,hp'⟩
   rw [<- el];exact E0
  refine jF (fun zz h=>h) ev fun G2 g2=>?_
  obtain ⟨gg,ps2,hps2,hp2⟩:=g2
  refine ⟨lG,gg.get hlG,xL (A3 (Nat.le_of_eq hlGl) (A3 (Nat.add_le_add_left (Nat.min_le_right _ _) _) hl)),hK _ _ ?_⟩
  rw [List.take_add_one,hrk,List.map_append]
  refine hI.trans (H8 hm1) fun lG' hlG'=>?_
  cases hlG.symm.trans hlG'
  exact RS.one hlG gg hps2 (B8 _) hp2
 ·rw [hlen,List.take_length] at hI
  refine h z G ⟨(Up.grow g1).trans hI.up,?_⟩
  obtain ⟨l',h1,h2⟩:=hI.new
  exact ⟨l',h1,h2.up .refl (A8 hmH g1.len) g1.len⟩
theorem sN {n d:Nat}(ih:∀ d',d=d'+1->RBs d' (n+38)):RBs d (n+39):=by
 intro bs a lo hi H Q hg hr hh hl hrs hQ
 have hlim:I8=16777216:=rfl
 obtain ⟨a',l,p,q,e,hb,ha,hrl⟩:=hr
 cases e
 have hq:q<=H.length:=A3 hb.qh hh
 have ea:H.length<(H++[[]]).length:=by rw [L7];exact B1 _
 have haH:a<H.length:=A8 hb.ah hh
 refine Ap5 (J9 (H1:=H++[[]]) (v:=.ref H.length) (fun zz h=>h) (I3 (V2 (σ:=RZ) (fun z=>[some (.ref a),some (.ref H.length),z.e2,z.e3,z.e4,z.e5]) (fun k z G=>RS H.length (H++[[]]) [] (rwBs (bs.take k)) G) (l:=l) (fun k z G hI=>hI.up.get (Nat.ne_of_lt haH) (E6.one.get ha)) (fun k z G v hv hI K hK=>?_) (fun z G hI=>?_) ⟨none,none,none,none⟩ (fun zz h=>h) (RS.nil E0))))
 ·obtain ⟨b,hb1,hrb⟩:=Cj7 hrl hv
  have hgb:=hg.get hb1
  obtain ⟨e1,e2⟩:=Aw8 hb1
  rw [e1] at hK
  have hrb:=hrb.to ((E6.one.old.sub (B0 _) hq).trans (hI.up.eqv hq (A3 hq (B5 ea))))
  obtain ⟨lG,hlG,hlGl⟩:=hI.get
  have fin:∀ {G':Heap}{R:E2}{z':RZ},(∀ ρ G,K ρ G->R .next ρ G)->RS H.length G lG (rwB b) G'->R .next [some (.ref a),some (.ref H.length),z'.e2,z'.e3,z'.e4,z'.e5] G':=fun {G' R z'} hR hs=>hR _ _ (hK z' _ (hI.trans ea fun lG' hlG'=>by cases hlG.symm.trans hlG';exact hs))
  have hlen:lG.length+(rwB b).length<=1000000:=by
   rw [e2,A6,A6] at hl
   rw [hlGl];show 0+_+_<=_;rw [Nat.zero_add]
   exact A3 (Nat.add_le_add_left (B4 _ _) _) hl
  have hrb':∀ r∈rwB b,r.length<=1000000:=fun r hr=>hrs r (by rw [e2];exact List.mem_append_right _ (List.mem_append_left _ hr))
  have hqG:q<=G.length:=A3 (A3 hq (B5 ea)) hI.up.len
  cases b with
  | gap k =>
   rw [Ak3 hrb]
   rw [show rwB (.gap k)=List.replicate k [] from rfl,List.length_replicate] at hlen
   exact D5 (fun zz h=>h) (Bu0 hlG hlen fun x3 G' hs=>fin (z':=⟨_,x3,_,_⟩) (fun zz zz h=>h) hs)
  | head k ts =>
   obtain ⟨b,rfl,hrc⟩:=vQ hrb
   rw [show rwB (.head k ts)=[mk 35 k (rowTs ts)] from rfl] at hlen hrb'
   refine D4 (fun zz h=>h) (D5 (fun zz h=>h) (jF (fun zz h=>h) (Bk3 (n:=n+10) (w:=List.replicate k 35++[32]) (ts:=ts) (a:=b) (wC hgb.1 (by exact fun zz h=>h)) (by simp) (fun l=>by exact fun zz h=>h) hgb.2 hrc hqG (by rw [yI];exact hrb' _ (.head _))) fun G1 g1=>?_))
   obtain ⟨gg,ps,hps,hp⟩:=g1
   rw [yI] at hp
   exact ⟨lG,gg.get hlG,xL (A3 (B4 _ _) hlen),fin (z':=⟨_,_,_,_⟩) (fun zz zz h=>h) (RS.one hlG gg hps (B4 _ _) hp)⟩
  | list is =>
   obtain ⟨b,rfl,hrc⟩:=aK hrb
   exact D4 (fun zz h=>h) (D4 (fun zz h=>h) (D5 (fun zz h=>h) (K8 (fun zz h=>h) (gW 9 n is b p q H.length G lG _ hgb.2 hgb.1 hrc hq hlG hlen hrb' fun G' hs=>fin (z':=⟨_,_,_,_⟩) (fun zz zz h=>h) hs))))
  | para rs =>
   obtain ⟨b,rfl,hrc⟩:=aK hrb
   rw [show rwB (.para rs)=rs.map rowTs from rfl] at hlen hrb'
   rw [B6] at hlen
   exact D4 (fun zz h=>h) (D4 (fun zz h=>h) (D4 (fun zz h=>h) (D5 (fun zz h=>h) (Bd3 (n:=n+10) hlG hrc hq hgb hlen hrb' fun x4 G' hs=>fin (z':=⟨_,_,x4,_⟩) (fun zz zz h=>h) hs))))
  | quote bs' =>
   obtain ⟨b,rfl,hrc⟩:=aK hrb
   obtain ⟨d',rfl,hgb⟩:=hgb
   rw [show rwB (.quote bs')=(rwBs bs').map fun r=>62::32::r from rfl] at hlen hrb'
   rw [B6] at hlen
   exact D4 (fun zz h=>h) (D4 (fun zz h=>h) (D4 (fun zz h=>h) (D4 (fun zz h=>h) (Ao5 (ih d' rfl) hlG hrc hq hgb hlen (fun r hr=>hrb' _ (List.mem_map.mpr ⟨r,hr,rfl⟩)) fun x5 G' hs=>fin (z':=⟨_,_,_,x5⟩) (fun zz zz h=>h) hs))))
 ·have:=hrl.len
  rw [aA] at this
  rw [this,List.take_length] at hI
  obtain ⟨l',h1,h2⟩:=hI.new
  refine hQ G l' ⟨A3 (B5 ea) hI.up.len,fun x h0 hx=>?_⟩ h1 (by rw [L7] at h2;exact h2)
  exact (hI.up.eq x (Nat.ne_of_lt hx) (Nat.lt_trans hx ea)).trans (E6.one.old x h0 hx)
theorem pE:∀ (d n:Nat),RBs d (n+d+39)
 | 0,n=>sN fun d' q=>nomatch q
 | d+1,n=>sN (n:=n+d+1) fun d' q=>by cases q;exact pE d n
theorem Bl7 {H:Heap}{a:Nat}{l:List V}(h:H[a]? = some l) (i:Nat):(It.lst a).at H i=l[i]?:=by
 show (match H[a]? with | some l=>l[i]? | none=>none)=_
 rw [h]
theorem Ab7 {C:Calls}{x y:Nat}{b:List S}{Q:E2}{σ:Type}(env:σ->D7) (I:Nat->σ->Heap->Prop) {a:Nat}{l:List V}(hl:∀ i s H,I i s H->H[a]? = some l)
  (step:∀ i s H v,l[i]? = some v->I i s H->∀ K:D7->Heap->Prop,(∀ s' H',I (i+1) s' H'->K (env s') H')->C4 C b (((env s).set x (some (.int (i:Int)))).set y (some v)) (dO Q K) H)
  (fin:∀ s H,I l.length s H->Q .next (env s) H):∀ (m i:Nat) (s:σ) (H:Heap),l.length<m+i->i<=l.length->I i s H->fK (C4 C b) x y (.lst a) m i (env s) Q H
 | 0,i,s,H,h,hi,_=>absurd h (Nat.not_lt_of_le (by rw [Nat.zero_add];exact hi))
 | m+1,i,s,H,h,hi,hI=>by
  show (match (It.lst a).at H i with | none=>_ | some v=>_)
  rw [Bl7 (hl i s H hI)]
  by_cases hlt:i<l.length
  ·rw [List.getElem?_eq_getElem hlt]
   exact step i s H _ (List.getElem?_eq_getElem hlt) hI (fun ρ' H₂=>fK (C4 C b) x y (.lst a) m (i+1) ρ' Q H₂) fun s' H' hI'=>Ab7 env I hl step fin m (i+1) s' H' (by rw [Nat.add_right_comm] at h;exact h) hlt hI'
  ·have e:i=l.length:=Nat.le_antisymm hi (Nat.le_of_not_lt hlt)
   subst e
   rw [List.getElem?_eq_none (A4 _)]
   exact fin s H hI
theorem Ce4 {C:Calls}{x y:Nat}{e:E}{b:List S}{Q:E2}{ρ:D7}{H:Heap}(h:D9 C e ρ (fun v H₁=>match v with | .ref a=>∃ n,fK (C4 C b) x y (.lst a) n 0 ρ Q H₁ | _=>False) H):iA C (.forEnum x y e b) ρ Q H:=h
theorem Aa0 {C:Calls}{ρ:D7}{H:Heap}{R:E2}{ss:List S}{o e:E}{a b:Nat}{l r:List V}(ho:Ev C ρ H o (.ref a)) (he:Ev C ρ H e (.ref b)) (ha:H[a]? = some l) (hb:H[b]? = some r) (hn:a≠b) (hl:l.length+r.length<=I8) (k:C4 C ss ρ R (H.set a (l++r))):C4 C (.expr (.extend o e)::ss) ρ R H:=ho _ (he _ (by
 show hea ((H[a]?).bind fun l=>(H[b]?).bind fun r=>if a≠b/\l.length+r.length<=I8 then some (H.set a (l++r)) else none) _
 rw [ha,hb]
 show hea (if a≠b/\l.length+r.length<=I8 then some (H.set a (l++r)) else none) _
 rw [if_pos ⟨hn,hl⟩];exact k))
theorem sU {s x:List Nat}:∀ {l:List (List Nat)},l≠[]->joinWith s (l++[x])=joinWith s l++s++x
 | [w],_=>rfl
 | w::y::l,_=>by
  show w++s++joinWith s ((y::l)++[x])=w++s++joinWith s (y::l)++s++x
  rw [sU (List.cons_ne_nil y l)]
  simp only [A7]
theorem sV {s:List Nat}{r:List (List Nat)}:∀ {l:List (List Nat)},(joinWith s l).length<=(joinWith s (l++r)).length
 | []=>B0 _
 | [w]=>by
  cases r with
  | nil=>exact A4 _
  | cons x r =>
   show w.length<=(w++s++joinWith s (x::r)).length
   rw [A6,A6];exact fkz
 | w::y::l=>by
  have:=sV (s:=s) (r:=r) (l:=y::l)
  show (w++s++joinWith s (y::l)).length<=(w++s++joinWith s ((y::l)++r)).length
  rw [A6,A6 (bs:=joinWith s ((y::l)++r))];exact M4 this
section
variable {n a lo hi:Nat}{bs:List Bk}{H:Heap}
theorem sQ (hne:bs≠[]) (hb:bA 0 [] bs) (hf:M1 W 65 (.lst (L9 bs))) (hr:J0 H (.lst (L9 bs)) lo hi (.ref a)) (hh:hi<=H.length) (Q:C2) (h:∀ G,E6 H G->Q (.bool true) G):C1 P (n+61) "normal" [.ref a] Q H :=
 Be0 (At0 (fun zz h=>h) (eF 9 0 n rfl bs a lo hi H _ hne hb hf hr hh h))
theorem Cd9 {Q:C2}(hne:bs≠[]) (hb:bA 0 [] bs) (hf:M1 W 65 (.lst (L9 bs))) (hr:J0 H (.lst (L9 bs)) lo hi (.ref a)) (hh:hi<=H.length) (h:∀ G,E6 H G->Q .none G):C1 P (n+62) "need_normal" [.ref a] Q H :=
 qM (Q4 (Φ:=E6 H) (xZ (t:=true) (X5 (fun zz h=>h) fun Q k=>sQ hne hb hf hr hh Q k)) h)
structure EZ where
 e2:Option V
 e3:Option V
theorem Bd2 {Q:C2}(hne:bs≠[]) (hb:bA 0 [] bs) (hf:M1 W 65 (.lst (L9 bs))) (hr:J0 H (.lst (L9 bs)) lo hi (.ref a)) (hh:hi<=H.length) (hl:(rwBs bs).length<=1000000) (hrs:∀ r∈rwBs bs,r.length<=1000000) (ht:(joinWith [10] (rwBs bs)).length<=1000000) (h:∀ G b ps,E6 H G->G[b]? = some ps->Pc ps (joinWith [10] (rwBs bs))->Q (.ref b) G):C1 P (n+63) "pieces" [.ref a] Q H:=by
 have hlim:I8=16777216:=rfl
 refine Bd9 (K8 (fun zz h=>h) (Cd9 hne hb hf hr hh fun G0 g0=>J9 (H1:=G0++[[]]) (v:=.ref G0.length) (fun zz h=>h) (I3 (Ce4 (M6 (I5 (v:=.ref a) (by exact fun zz h=>h) (I1 (pE 9 (n+14) bs a lo hi (G0++[[]]) _ (mG rfl hb) (hr.grow (g0.trans .one) hh) (A3 hh (g0.trans .one).len) hl hrs fun G1 l g1 hl1 hw=>⟨l.length+1,?_⟩))))))))
 have hm1:G1[G0.length]? = some []:=g1.get E0
 have ea:G0.length<(G0++[[]]).length:=by rw [L7];exact B1 _
 refine Ab7 (σ:=EZ) (fun z=>[some (.ref a),some (.ref G0.length),z.e2,z.e3]) (fun k z G=>Up G0.length G1 G/\∃ ps,G[G0.length]? = some ps/\Pc ps (joinWith [10] ((rwBs bs).take k))) (l:=l) (fun k z G hI=>hI.1.get (Nat.ne_of_gt ea) hl1) (fun k z G v hv hI K hK=>?_) (fun z G hI=>?_) (l.length+1) 0 ⟨none,none⟩ G1 (B1 _) (B0 _) ⟨.refl,[],hm1,.nil⟩
 ·obtain ⟨hu,ps,hps,hp⟩:=hI
  obtain ⟨c,qs,r,rfl,hc,hqs,hq,hrk⟩:=hw.at hv
  have hqs':=hu.get (Nat.ne_of_gt (A8 (Nat.lt_succ_of_lt ea) hc)) hqs
  have hcm:G0.length≠c:=Nat.ne_of_lt (A8 (Nat.lt_succ_of_lt ea) hc)
  have hrl:=hq.len
  have hpl:=hp.len
  have hr1:=hrs r (B9 hrk)
  have hp1:(joinWith [10] ((rwBs bs).take k)).length<=1000000:=by
   refine A3 ?_ ht
   have:=sV (s:=[10]) (l:=(rwBs bs).take k) (r:=(rwBs bs).drop k)
   rw [List.take_append_drop] at this
   exact this
  have hsum0:ps.length+qs.length<=2000000:=Nat.add_le_add (A3 hpl hp1) (A3 hrl hr1)
  have hsum:ps.length+qs.length<=I8:=A3 hsum0 (by show 2000000<=16777216;decide)
  have hsum1:ps.length+qs.length+1<=I8:=A3 (B3 hsum0) (by show 2000001<=16777216;decide)
  have hGm:=H8 hps
  have et:(rwBs bs).take (k+1)=(rwBs bs).take k++[r]:=by rw [List.take_add_one,hrk];rfl
  cases k with
  | zero =>
   refine C3 (fun zz h=>h) (Aa0 (by exact fun zz h=>h) (by exact fun zz h=>h) hps hqs' hcm hsum (hK ⟨_,_⟩ _ ⟨hu.trans .set,_,List.getElem?_set_self hGm,?_⟩))
   rw [et]
   exact hp.app hq
  | succ k =>
   refine D5 (J6 (C7 (fun zz h=>h) (fun zz h=>h) T0) (decide_eq_true (Int.ofNat_lt.mpr (Nat.succ_pos _)))) (I0 (v:=.tup [.str [101,110,100],.str [10]]) (H1:=G) (fun zz h=>h) (fun zz h=>h) hps (xL (A3 hpl hp1)) (Aa0 (by exact fun zz h=>h) (by exact fun zz h=>h) (List.getElem?_set_self hGm) (Up.set.get (Ne.symm hcm) hqs') hcm (by rw [A6];show ps.length+1+_<=I8;rw [Nat.add_right_comm];exact hsum1) (hK ⟨_,_⟩ _ ⟨(hu.trans .set).trans .set,_,List.getElem?_set_self (by rw [List.length_set];exact hGm),?_⟩)))
   have hne':(rwBs bs).take (k+1)≠[]:=fun q=>by
    have:=congrArg List.length q
    rw [List.length_take] at this
    have h2:=(List.getElem?_eq_some_iff.mp hrk).1
    have:min (k+1) (rwBs bs).length=0:=this
    lia
   rw [et,sU hne']
   exact (hp.app (.one (List.cons_ne_nil _ _))).app hq
 ·obtain ⟨hu,ps,hps,hp⟩:=hI
  rw [hw.len,List.take_length] at hp
  refine h G G0.length ps (g0.trans ⟨A3 (A3 (B5 ea) g1.len) hu.len,fun x h0 hx=>?_⟩) hps hp
  exact (hu.eq x (Nat.ne_of_lt hx) (A8 (Nat.lt_trans hx ea) g1.len)).trans (((E6.one (x:=[])).trans g1).old x h0 hx)
theorem Br3 {Q:C2}(hne:bs≠[]) (hb:bA 0 [] bs) (hf:M1 W 65 (.lst (L9 bs))) (hr:J0 H (.lst (L9 bs)) lo hi (.ref a)) (hh:hi<=H.length) (hl:(rwBs bs).length<=1000000) (hrs:∀ r∈rwBs bs,r.length<=1000000) (ht:(joinWith [10] (rwBs bs)).length<=1000000) (h:∀ G,E6 H G->Q (.str (joinWith [10] (rwBs bs))) G):C1 P (n+64) "shown" [.ref a] Q H :=
 Bt5 (U1 (Ak1 (As8 ⟨_,rfl,Bk1 (T6 _ _) (fun v=>match v with | .tup [_,w]=>w | _=>.none) (M6 (I5 (v:=.ref a) (fun zz h=>h) (I1 (Bd2 hne hb hf hr hh hl hrs ht fun G b ps g hps hp=>Ab0 (by show 1<2;decide) hp ht hps fun l=>h _ (g.trans .one)))))⟩) (T6 _ _)))
end
inductive Kd where
 | top | sp | lb
noncomputable def bJ:L6->Kd
 | []=>.top
 | (some _,_)::_=>.sp
 | (none,_)::_=>.lb
structure Q5 (deep:Nat) (kd:Kd) (s:List Nat):Prop where
 ne:s≠[]
 all:∀ c∈s,c≠92/\c≠96/\(kd=.sp->c≠41)/\(kd=.lb->c≠93)/\(deep<12->c≠91)
 pair:deep<12->∀ a b c,s=a++c::40::b->[42,95,126].contains c=false
noncomputable def fP (ts:List T):Prop:=∀ us s,ts≠us++[.txt s]
noncomputable def bT (ts:List T):Prop:=∃ us vs,ts=us++[.link vs none true]
inductive L8:Nat->Kd->List T->Prop
 | nil {deep:Nat}{kd:Kd}:L8 deep kd []
 | txt {deep:Nat}{kd:Kd}{ts:List T}{s:List Nat}:L8 deep kd ts->fP ts->Q5 deep kd s->(bT ts->s.take 1≠[40])->L8 deep kd (ts++[.txt s])
 | kept {deep:Nat}{kd:Kd}{ts:List T}{c:Nat}:L8 deep kd ts->L8 deep kd (ts++[.kept [c]])
 | code {deep:Nat}{kd:Kd}{ts:List T}{s:List Nat}:L8 deep kd ts->(∀ c∈s,c≠96)->L8 deep kd (ts++[.code s true])
 | span {deep c:Nat}{kd:Kd}{ts us:List T}:L8 deep kd ts->deep<12->[42,95,126].contains c=true->L8 (deep+1) .sp us->L8 deep kd (ts++[.span c us true])
 | link {deep:Nat}{kd:Kd}{ts us:List T}{g:Option (List Nat)}:L8 deep kd ts->deep<12->(∀ s,g=some s->∀ c∈s,c≠41)->L8 (deep+1) .lb us->L8 deep kd (ts++[.link us g true])
theorem Q9 (u:List Nat) (x:Nat) (v:List Nat):(u++x::v)[u.length]? = some x:=by
 rw [List.getElem?_append_right (A4 _),Nat.sub_self];rfl
theorem wD (u:List Nat) (x:Nat) (v:List Nat):(u++x::v).drop (u.length+1)=v:=by
 rw [List.drop_append];simp
theorem jT (u:List Nat) (x:Nat) (v:List Nat):nx (u++x::v) u.length=v.take 1:=by
 unfold nx;rw [wD]
theorem oD {c:Nat}:∀ {t v:List Nat},(∀ x∈t,x≠c)->idx? c (t++c::v)=some t.length
 | [],v,_=>if_pos rfl
 | x::t,v,h=>by
  have h1:¬ x=c:=h x (by simp)
  show (if x=c then some 0 else (idx? c (t++c::v)).map (· + 1))=_
  rw [if_neg h1,oD fun y hy=>h y (List.mem_cons_of_mem _ hy)];rfl
theorem jE {c:Nat}:∀ {t:List Nat},(∀ x∈t,x≠c)->idx? c t=none
 | [],_=>rfl
 | x::t,h=>by
  have h1:¬ x=c:=h x (by simp)
  show (if x=c then some 0 else (idx? c t).map (· + 1))=_
  rw [if_neg h1,jE fun y hy=>h y (List.mem_cons_of_mem _ hy)];rfl
noncomputable def part (ts:List T) (s:List Nat):List T:=if s=[] then ts else ts++[.txt s]
theorem Br8 {ts:List T}{s:List Nat}{c:Nat}(hd:fP ts):O0 (part ts s) c=part ts (s++[c]):=by
 unfold part
 rw [if_neg (by simp:¬ s++[c]=[])]
 by_cases h:s=[]
 ·rw [if_pos h,h]
  unfold O0
  rcases List.eq_nil_or_concat ts with rfl | ⟨us,t,rfl⟩
  ·rfl
  ·rw [List.concat_eq_append] at hd ⊢
   rw [List.getLast?_append]
   simp only [List.getLast?_singleton,Option.some_or]
   cases t with
   | txt s'=>exact absurd rfl (hd us s')
   | kept _=>rfl
   | code _ _=>rfl
   | span _ _ _=>rfl
   | link _ _ _=>rfl
 ·rw [if_neg h]
  unfold O0
  rw [List.getLast?_append]
  simp only [List.getLast?_singleton,Option.some_or,List.dropLast_concat]
theorem Ce5 {ctx:L6}{kd:Kd}(h:bJ ctx=kd):iN ctx=true->kd=.sp:=by
 intro q
 subst h
 match ctx,q with
 | (some _,_)::_,_=>rfl
theorem Bt1 {ctx:L6}{kd:Kd}(h:bJ ctx=kd):cZ ctx=true->kd=.lb:=by
 intro q
 subst h
 match ctx,q with
 | (none,_)::_,_=>rfl
theorem pF {row:List Nat}{ts r:List T}{ctx:L6}{kd:Kd}{s:List Nat}(hk:bJ ctx=kd) (hn:fP ts) (hp:Q5 ctx.length kd s):∀ (b a u v:List Nat),s=a++b->row=u++a++b++v->(b.getLast? = none∨v.take 1≠[40]∨∃ c,b.getLast? = some c/\[42,95,126].contains c=false) ->
  K4 row (u.length+a.length+b.length) (part ts (a++b)) ctx r->K4 row (u.length+a.length) (part ts a) ctx r
 | [],a,u,v,_,_,_,h=>by simpa using h
 | c::b,a,u,v,es,e,hv,h=>by
  have hc:=hp.all c (by rw [es];simp)
  have e1:row=(u++a)++c::(b++v):=by rw [e];simp
  have hg:row[u.length+a.length]? = some c:=by
   rw [e1,<- A6];exact Q9 _ _ _
  have hnx:nx row (u.length+a.length)=(b++v).take 1:=by
   rw [e1,<- A6];exact jT _ _ _
  refine .plain hg hc.1 hc.2.1 (fun h12=>?_) (fun q=>?_) (fun q=>?_) ?_
  ·unfold qQ
   have h91:(c==91)=false:=by simpa using hc.2.2.2.2 h12
   rw [h91,Bool.false_or,hnx]
   cases hcc:[42,95,126].contains c with
   | false=>rfl
   | true =>
    rw [Bool.true_and]
    cases b with
    | nil =>
     rcases hv with q | q | ⟨x,q,qx⟩
     ·simp at q
     ·simpa using q
     ·have:x=c:=by simpa using q.symm
      subst this
      rw [hcc] at qx;cases qx
    | cons y b =>
     by_cases hy:y=40
     ·subst hy
      have:=hp.pair h12 a b c es
      rw [hcc] at this;cases this
     ·simpa using hy
  ·cases hs:iN ctx with
   | false=>rfl
   | true=>exact absurd q (hc.2.2.1 (Ce5 hk hs))
  ·cases hs:cZ ctx with
   | false=>rfl
   | true=>exact absurd q (hc.2.2.2.1 (Bt1 hk hs))
  ·rw [Br8 hn]
   have ih:=pF (row:=row) (r:=r) (ctx:=ctx) (s:=s) hk hn hp b (a++[c]) u v (by rw [es];simp) (by rw [e];simp) ?_
   ·have e2:u.length+(a++[c]).length=u.length+a.length+1:=by simp;exact Nat.le_antisymm (fkz) (fkz)
    rw [e2] at ih
    refine ih ?_
    have e3:u.length+a.length+1+b.length=u.length+a.length+(c::b).length:=by simp;exact Nat.le_antisymm (fkz) (fkz)
    have e4:a++[c]++b=a++c::b:=by simp
    rw [e3,e4];exact h
   ·cases b with
    | nil=>exact Or.inl rfl
    | cons y b =>
     rcases hv with q | q | q
     ·simp at q
     ·exact Or.inr (Or.inl q)
     ·refine Or.inr (Or.inr ?_)
      simpa using q
noncomputable def Cx3 (ts:List T) (v:List Nat):Prop:=(bT ts∨∃ us s,ts=us++[.txt s])->v.take 1≠[40]
theorem xC {u t v:List Nat}(h:∀ x∈t,x≠96):R8 (u++96::(t++96::v)) u.length=(.code t true,u.length+(t.length+2)):=by
 unfold R8
 rw [wD,oD h]
 simp only [List.take_left']
 have:u.length+1+t.length+1=u.length+(t.length+2):=by rw [Nat.add_right_comm u.length 1];rfl
 rw [this]
theorem Aq6 {u t:List Nat}(h:∀ x∈t,x≠96):R8 (u++96::t) u.length=(.code t false,(u++96::t).length):=by
 unfold R8
 rw [wD,jE h]
theorem Ap2 {u v:List Nat}{ts:List T}(h:v.take 1≠[40]):O3 (u++93::v) u.length ts=(.link ts none true,u.length+1):=by
 unfold O3
 rw [jT,if_neg h]
theorem Ac0 (u v:List Nat) (x y:Nat):(u++x::y::v).drop (u.length+2)=v:=by
 rw [List.drop_append];simp
theorem Bs9 {u g v:List Nat}{ts:List T}(h:∀ x∈g,x≠41):O3 (u++93::40::(g++41::v)) u.length ts=(.link ts (some g) true,u.length+(g.length+3)):=by
 unfold O3
 rw [jT,if_pos (show List.take 1 (40::(g++41::v))=[40] from rfl),Ac0,oD h]
 simp only [List.take_left']
 have:u.length+2+g.length+1=u.length+(g.length+3):=by rw [Nat.add_right_comm u.length 2];rfl
 rw [this]
theorem Ap0 {u g:List Nat}{ts:List T}(h:∀ x∈g,x≠41):O3 (u++93::40::g) u.length ts=(.link ts (some g) false,(u++93::40::g).length):=by
 unfold O3
 rw [jT,if_pos (show List.take 1 (40::g)=[40] from rfl),Ac0,jE h]
theorem Ag1 {ts us:List T}{t:T}(h:bT (ts++[t])):∃ vs,t=.link vs none true:=by
 obtain ⟨a,b,e⟩:=h
 obtain ⟨_,e2⟩:=List.append_inj' e rfl
 exact ⟨b,by simpa using e2⟩
theorem Ao9 {ts:List T}{t:T}{us:List T}{s:List Nat}(h:ts++[t]=us++[.txt s]):t=.txt s:=by
 obtain ⟨_,e2⟩:=List.append_inj' h rfl
 simpa using e2
theorem yJ {u w x:List Nat}:u.length+(w++x).length=(u++w).length+x.length:=by rw [A6,A6,Nat.add_assoc]
theorem Ci0 {A p w q:List Nat}:A.length+(p++w++q).length=(A++p++w).length+q.length:=by simp only [A6,Nat.add_assoc]
theorem Cs4 {A w g:List Nat}:A.length+([91]++w++[93,40]++g++[41]).length=(A++[91]++w).length+(g.length+3):=by
 simp only [A6,Nat.add_assoc]
 rw [Nat.add_comm [93,40].length];rfl
theorem rk {s:List Nat}:rowT (.kept s)=92::s:=rfl
theorem rc {s:List Nat}{b:Bool}:rowT (.code s b)=96::(s++if b then [96] else []):=rfl
theorem rs {c:Nat}{us:List T}{b:Bool}:rowT (.span c us b)=c::40::(rowTs us++if b then [41] else []):=rfl
theorem rn {us:List T}{b:Bool}:rowT (.link us none b)=91::(rowTs us++if b then [93] else []):=rfl
theorem rl {us:List T}{g:List Nat}{b:Bool}:rowT (.link us (some g) b)=[91]++rowTs us++[93,40]++g++if b then [41] else []:=rfl
theorem L8.read {deep:Nat}{kd:Kd}{ts:List T}(h:L8 deep kd ts):∀ (u v:List Nat) (ctx:L6) (r:List T),ctx.length=deep->bJ ctx=kd->Cx3 ts v ->
  K4 (u++rowTs ts++v) (u.length+(rowTs ts).length) ts ctx r->K4 (u++rowTs ts++v) u.length [] ctx r:=by
 induction h with
 | nil=>intro u v ctx r _ _ _ h;exact h
 | @txt deep kd ts s hg hn hp hbar ih =>
  intro u v ctx r hc hk hsafe h
  rw [I4,H7] at h ⊢
  have e:u++(rowTs ts++s)++v=u++rowTs ts++(s++v):=by simp
  have e':u++(rowTs ts++rowT (.txt s))++v=u++rowTs ts++(s++v):=e
  rw [e'] at h ⊢
  have hs1:(s++v).take 1=s.take 1:=by
   cases s with
   | nil=>exact absurd rfl hp.ne
   | cons x s=>rfl
  refine ih u (s++v) ctx r hc hk (fun q=>?_) ?_
  ·rw [hs1]
   rcases q with q | ⟨us,s',q⟩
   ·exact hbar q
   ·exact absurd q (hn us s')
  ·have hv:v.take 1≠[40]:=hsafe (Or.inr ⟨ts,s,rfl⟩)
   have hpl:Q5 ctx.length kd s:=by rw [hc];exact hp
   have:=pF (row:=u++rowTs ts++(s++v)) (ts:=ts) (r:=r) hk hn hpl s [] (u++rowTs ts) v rfl (by simp) (Or.inr (Or.inl hv))
   simp only [List.length_nil,Nat.add_zero,List.nil_append,A6] at this
   have e1:part ts s=ts++[.txt s]:=by unfold part;rw [if_neg hp.ne]
   have e2:part ts []=ts:=by unfold part;rw [if_pos rfl]
   rw [e1,e2] at this
   refine this ?_
   have e3:u.length+(rowTs ts++rowT (.txt s)).length=u.length+(rowTs ts).length+s.length:=by
    show u.length+(rowTs ts++s).length=_
    rw [A6];exact (Nat.add_assoc ..).symm
   rw [e3] at h;exact h
 | @kept deep kd ts c hg ih =>
  intro u v ctx r hc hk hsafe h
  rw [I4,H7] at h ⊢
  have e:u++(rowTs ts++rowT (.kept [c]))++v=u++rowTs ts++(92::c::v):=by simp [rk]
  rw [e] at h ⊢
  refine ih u _ ctx r hc hk (fun zz=>by simp) ?_
  rw [<- A6]
  refine .kept (Q9 _ _ _) ?_
  rw [jT]
  have e2:u.length+(rowTs ts++rowT (.kept [c])).length=(u++rowTs ts).length+2:=yJ
  rw [e2] at h
  exact h
 | @code deep kd ts s hg hs ih =>
  intro u v ctx r hc hk hsafe h
  rw [I4,H7] at h ⊢
  have e:u++(rowTs ts++rowT (.code s true))++v=u++rowTs ts++(96::(s++96::v)):=by simp [rc]
  rw [e] at h ⊢
  refine ih u _ ctx r hc hk (fun zz=>by simp) ?_
  rw [<- A6]
  refine .code (Q9 _ _ _) ?_
  rw [xC hs]
  have e2:u.length+(rowTs ts++rowT (.code s true)).length=(u++rowTs ts).length+(s.length+2):=yJ.trans (congrArg (fun k=>(u++rowTs ts).length+(k+1)) (A6 (as:=s) (bs:=[96])))
  rw [e2] at h
  exact h
 | @span deep c kd ts us hg hd hcc hus ih ihu =>
  intro u v ctx r hc hk hsafe h
  rw [I4,H7] at h ⊢
  have e:u++(rowTs ts++rowT (.span c us true))++v=u++rowTs ts++(c::40::(rowTs us++41::v)):=by simp [rs]
  rw [e] at h ⊢
  have hc40:c≠40:=by rintro rfl;simp at hcc
  refine ih u _ ctx r hc hk (fun zz=>by simpa using hc40) ?_
  rw [<- A6]
  refine .span (c:=c) (Q9 _ _ _) hcc (by rw [jT];rfl) (hc▸hd) ?_
  have eu:u++rowTs ts++(c::40::(rowTs us++41::v))=(u++rowTs ts++[c,40])++rowTs us++41::v:=by simp
  have el:(u++rowTs ts).length+2=(u++rowTs ts++[c,40]).length:=(A6 (as:=u++rowTs ts) (bs:=[c,40])).symm
  rw [eu] at h ⊢
  rw [el]
  refine ihu (u++rowTs ts++[c,40]) (41::v) ((some c,ts)::ctx) r (by simp [hc]) rfl (fun zz=>by simp) ?_
  rw [<- A6]
  refine .shutS (Q9 _ _ _) ?_
  have e2:u.length+(rowTs ts++rowT (.span c us true)).length=(u++rowTs ts++[c,40]++rowTs us).length+1:=yJ.trans (Ci0 (p:=[c,40]) (q:=[41]))
  rw [e2] at h
  exact h
 | @link deep kd ts us g hg hd hgg hus ih ihu =>
  intro u v ctx r hc hk hsafe h
  rw [I4,H7] at h ⊢
  cases g with
  | none =>
   have hv:v.take 1≠[40]:=hsafe (Or.inl ⟨ts,us,rfl⟩)
   have e:u++(rowTs ts++rowT (.link us none true))++v=u++rowTs ts++(91::(rowTs us++93::v)):=by simp [rn]
   rw [e] at h ⊢
   refine ih u _ ctx r hc hk (fun zz=>by simp) ?_
   rw [<- A6]
   refine .label (Q9 _ _ _) (hc▸hd) ?_
   have eu:u++rowTs ts++(91::(rowTs us++93::v))=(u++rowTs ts++[91])++rowTs us++93::v:=by simp
   have el:(u++rowTs ts).length+1=(u++rowTs ts++[91]).length:=(A6 (as:=u++rowTs ts) (bs:=[91])).symm
   rw [eu] at h ⊢
   rw [el]
   refine ihu (u++rowTs ts++[91]) (93::v) ((none,ts)::ctx) r (by simp [hc]) rfl (fun zz=>by simp) ?_
   rw [<- A6]
   refine .shutL (Q9 _ _ _) ?_
   rw [Ap2 hv]
   have e2:u.length+(rowTs ts++rowT (.link us none true)).length=(u++rowTs ts++[91]++rowTs us).length+1:=yJ.trans (Ci0 (p:=[91]) (q:=[93]))
   rw [e2] at h
   exact h
  | some g =>
   have e:u++(rowTs ts++rowT (.link us (some g) true))++v=u++rowTs ts++(91::(rowTs us++93::40::(g++41::v))):=by simp [rl]
   rw [e] at h ⊢
   refine ih u _ ctx r hc hk (fun zz=>by simp) ?_
   rw [<- A6]
   refine .label (Q9 _ _ _) (hc▸hd) ?_
   have eu:u++rowTs ts++(91::(rowTs us++93::40::(g++41::v)))=(u++rowTs ts++[91])++rowTs us++93::40::(g++41::v):=by simp
   have el:(u++rowTs ts).length+1=(u++rowTs ts++[91]).length:=(A6 (as:=u++rowTs ts) (bs:=[91])).symm
   rw [eu] at h ⊢
   rw [el]
   refine ihu (u++rowTs ts++[91]) (93::40::(g++41::v)) ((none,ts)::ctx) r (by simp [hc]) rfl (fun zz=>by simp) ?_
   rw [<- A6]
   refine .shutL (Q9 _ _ _) ?_
   rw [Bs9 (hgg g rfl)]
   have e2:u.length+(rowTs ts++rowT (.link us (some g) true)).length=(u++rowTs ts++[91]++rowTs us).length+(g.length+3):=yJ.trans Cs4
   rw [e2] at h
   exact h
inductive qP:Nat->Kd->List T->Prop
 | good {deep:Nat}{kd:Kd}{ts:List T}:L8 deep kd ts->qP deep kd ts
 | kept {deep:Nat}{kd:Kd}{ts:List T}:L8 deep kd ts->qP deep kd (ts++[.kept []])
 | code {deep:Nat}{kd:Kd}{ts:List T}{s:List Nat}:L8 deep kd ts->(∀ c∈s,c≠96)->qP deep kd (ts++[.code s false])
 | span {deep c:Nat}{kd:Kd}{ts us:List T}:L8 deep kd ts->deep<12->[42,95,126].contains c=true->qP (deep+1) .sp us->qP deep kd (ts++[.span c us false])
 | bare {deep:Nat}{kd:Kd}{ts us:List T}:L8 deep kd ts->deep<12->qP (deep+1) .lb us->qP deep kd (ts++[.link us none false])
 | link {deep:Nat}{kd:Kd}{ts us:List T}{g:List Nat}:L8 deep kd ts->deep<12->(∀ c∈g,c≠41)->L8 (deep+1) .lb us->qP deep kd (ts++[.link us (some g) false])
theorem qP.read {deep:Nat}{kd:Kd}{ts:List T}(h:qP deep kd ts):∀ (u:List Nat) (ctx:L6),ctx.length=deep->bJ ctx=kd->K4 (u++rowTs ts) u.length [] ctx (J2 ts ctx):=by
 induction h with
 | @good deep kd ts hg =>
  intro u ctx hc hk
  have:=hg.read u [] ctx (J2 ts ctx) hc hk (fun zz=>by simp) (.done (by simp<;>lia))
  simpa using this
 | @kept deep kd ts hg =>
  intro u ctx hc hk
  rw [I4,H7]
  have:=hg.read u [92] ctx (J2 (ts++[.kept []]) ctx) hc hk (fun zz=>by simp) (by
   rw [<- A6]
   refine .kept (Q9 _ _ _) ?_
   rw [jT]
   exact .done (by simp<;>exact fkz))
  rw [<- A7];exact this
 | @code deep kd ts s hg hs =>
  intro u ctx hc hk
  rw [I4,H7]
  have e:rowT (.code s false)=96::s:=by simp [rc]
  rw [e]
  have:=hg.read u (96::s) ctx (J2 (ts++[.code s false]) ctx) hc hk (fun zz=>by simp) (by
   rw [<- A6]
   refine .code (Q9 _ _ _) ?_
   rw [Aq6 hs]
   exact .done (A4 _))
  rw [<- A7];exact this
 | @span deep c kd ts us hg hd hcc hus ihu =>
  intro u ctx hc hk
  rw [I4,H7]
  have e:rowT (.span c us false)=c::40::rowTs us:=by simp [rs]
  rw [e]
  have hc40:c≠40:=by rintro rfl;simp at hcc
  have:=hg.read u (c::40::rowTs us) ctx (J2 (ts++[.span c us false]) ctx) hc hk (fun zz=>by simpa using hc40) (by
   rw [<- A6]
   refine .span (c:=c) (Q9 _ _ _) hcc (by rw [jT];rfl) (hc▸hd) ?_
   have eu:u++rowTs ts++(c::40::rowTs us)=(u++rowTs ts++[c,40])++rowTs us:=by simp
   have el:(u++rowTs ts).length+2=(u++rowTs ts++[c,40]).length:=(A6 (as:=u++rowTs ts) (bs:=[c,40])).symm
   rw [eu,el]
   exact ihu (u++rowTs ts++[c,40]) ((some c,ts)::ctx) (by simp [hc]) rfl)
  rw [<- A7];exact this
 | @bare deep kd ts us hg hd hus ihu =>
  intro u ctx hc hk
  rw [I4,H7]
  have e:rowT (.link us none false)=91::rowTs us:=by simp [rn]
  rw [e]
  have:=hg.read u (91::rowTs us) ctx (J2 (ts++[.link us none false]) ctx) hc hk (fun zz=>by simp) (by
   rw [<- A6]
   refine .label (Q9 _ _ _) (hc▸hd) ?_
   have eu:u++rowTs ts++(91::rowTs us)=(u++rowTs ts++[91])++rowTs us:=by simp
   have el:(u++rowTs ts).length+1=(u++rowTs ts++[91]).length:=(A6 (as:=u++rowTs ts) (bs:=[91])).symm
   rw [eu,el]
   exact ihu (u++rowTs ts++[91]) ((none,ts)::ctx) (by simp [hc]) rfl)
  rw [<- A7];exact this
 | @link deep kd ts us g hg hd hgg hus =>
  intro u ctx hc hk
  rw [I4,H7]
  have e:rowT (.link us (some g) false)=91::(rowTs us++93::40::g):=by simp [rl]
  rw [e]
  have:=hg.read u (91::(rowTs us++93::40::g)) ctx (J2 (ts++[.link us (some g) false]) ctx) hc hk (fun zz=>by simp) (by
   rw [<- A6]
   refine .label (Q9 _ _ _) (hc▸hd) ?_
   have eu:u++rowTs ts++(91::(rowTs us++93::40::g))=(u++rowTs ts++[91])++rowTs us++93::40::g:=by simp
   have el:(u++rowTs ts).length+1=(u++rowTs ts++[91]).length:=(A6 (as:=u++rowTs ts) (bs:=[91])).symm
   rw [eu,el]
   refine hus.read (u++rowTs ts++[91]) (93::40::g) ((none,ts)::ctx) _ (by simp [hc]) rfl (fun zz=>by simp) ?_
   rw [<- A6]
   refine .shutL (Q9 _ _ _) ?_
   rw [Ap0 hgg]
   exact .done (A4 _))
  rw [<- A7];exact this
theorem qP.back {ts:List T}(h:qP 0 .top ts):K4 (rowTs ts) 0 [] [] ts:=h.read [] [] rfl rfl
noncomputable def mkV:Option Nat->List Nat
 | some c=>[c,40]
 | none=>[91]
noncomputable def ent (mk:List Nat) (a:Nat):V:=.tup [.str mk,.ref a]
noncomputable def S4 (A0:Nat):List Nat->L6->List V
 | a::as,(kd,_)::ctx=>S4 A0 as ctx++[ent (mkV kd) a]
 | _,_=>[ent [] A0]
noncomputable def xN (H:Heap) (cur:List T) (a lo hi:Nat):Prop:=∃ l,H[a]? = some l/\E8 H (G9 cur) lo hi l
noncomputable def BL (H:Heap) (A0:Nat):Nat->List Nat->List T->L6->Prop
 | hi,as,cur,[]=>as=[]/\xN H cur A0 (A0+2) hi
 | hi,as,cur,(kd,p)::ctx=>∃ a as',as=a::as'/\A0+2<=a/\xN H cur a (a+1) hi/\BL H A0 a as' p ctx
theorem xN.le {H:Heap}{cur:List T}{a lo hi:Nat}(h:xN H cur a lo hi):lo<=hi:=by
 obtain ⟨_,_,h⟩:=h;exact h.le
theorem xN.to {H G:Heap}{cur:List T}{a lo hi:Nat}(h:xN H cur a lo hi) (e:G[a]? = H[a]?) (k:L0 H G lo hi):xN G cur a lo hi:=by
 obtain ⟨l,h1,h2⟩:=h;exact ⟨l,e.trans h1,h2.to k⟩
theorem xN.up {H:Heap}{cur:List T}{a lo hi hi':Nat}(h:xN H cur a lo hi) (k:hi<=hi'):xN H cur a lo hi':=by
 obtain ⟨l,h1,h2⟩:=h;exact ⟨l,h1,h2.wide (A4 _) k⟩
theorem BL.to {H G:Heap}{A0:Nat}:∀ {ctx:L6}{hi:Nat}{as:List Nat}{cur:List T},BL H A0 hi as cur ctx->G[A0]? = H[A0]?->L0 H G (A0+2) hi->BL G A0 hi as cur ctx
 | [],hi,as,cur,h,e,k=>⟨h.1,h.2.to e k⟩
 | (kd,p)::ctx,hi,as,cur,h,e,k=>by
  obtain ⟨a,as',h1,h2,h4,h5⟩:=h
  have hle:=h4.le
  exact ⟨a,as',h1,h2,h4.to (k _ h2 hle) (k.sub (Nat.le_succ_of_le h2) (A4 _)),h5.to e (k.sub (A4 _) (B5 hle))⟩
theorem BL.up {H:Heap}{A0:Nat}{ctx:L6}{hi hi':Nat}{as:List Nat}{cur:List T}(h:BL H A0 hi as cur ctx) (k:hi<=hi'):BL H A0 hi' as cur ctx:=by
 cases ctx with
 | nil=>exact ⟨h.1,h.2.up k⟩
 | cons x ctx =>
  obtain ⟨a,as',h1,h2,h4,h5⟩:=h
  exact ⟨a,as',h1,h2,h4.up k,h5⟩
noncomputable def At4 (A0:Nat):List Nat->Nat
 | []=>A0+2
 | a::_=>a+1
theorem BL.head {H:Heap}{A0:Nat}{ctx:L6}{hi:Nat}{as:List Nat}{cur:List T}(h:BL H A0 hi as cur ctx):xN H cur (here A0 as) (At4 A0 as) hi/\(here A0 as=A0∨A0+2<=here A0 as)/\here A0 as<At4 A0 as:=by
 cases ctx with
 | nil=>obtain ⟨rfl,h1⟩:=h;exact ⟨h1,Or.inl rfl,Nat.lt_add_of_pos_right (by decide)⟩
 | cons x ctx =>
  obtain ⟨a,as',rfl,h2,h4,h5⟩:=h
  exact ⟨h4,Or.inr h2,B1 _⟩
theorem BL.lens {H:Heap}{A0:Nat}:∀ {ctx:L6}{hi:Nat}{as:List Nat}{cur:List T},BL H A0 hi as cur ctx->as.length=ctx.length
 | [],hi,as,cur,h=>by rw [h.1];rfl
 | (kd,p)::ctx,hi,as,cur,h=>by
  obtain ⟨a,as',rfl,h2,h4,h5⟩:=h
  exact congrArg (· + 1) h5.lens
theorem cC {A0:Nat}:∀ {as:List Nat}{ctx:L6},as.length=ctx.length->(S4 A0 as ctx).length=ctx.length+1
 | [],[],_=>rfl
 | a::as,(kd,p)::ctx,h=>by
  show (S4 A0 as ctx++[ent (mkV kd) a]).length=ctx.length+1+1
  rw [A6,cC (Nat.succ.inj h)];rfl
structure jL (H0:Heap) (as:List Nat) (cur:List T) (ctx:L6) (H:Heap):Prop where
 len:H0.length+2<=H.length
 old:L0 H0 H 0 H0.length
 pile:H[H0.length+1]? = some (S4 H0.length as ctx)
 lv:BL H H0.length H.length as cur ctx
theorem jL.upd {H0 as cur ctx H}{cur':List T}{l':List V}(h:jL H0 as cur ctx H) (hl:E8 H (G9 cur') (At4 H0.length as) H.length l'):jL H0 as cur' ctx (H.set (here H0.length as) l'):=by
 have hh:=h.lv.head
 have hle:=hl.le
 have hA:H0.length<=here H0.length as:=by rcases hh.2.1 with q | q<;>lia
 have hlt:=A8 hh.2.2 hle
 have hat:xN (H.set (here H0.length as) l') cur' (here H0.length as) (At4 H0.length as) H.length:=⟨l',List.getElem?_set_self hlt,hl.to (L0.set (Or.inl hh.2.2))⟩
 refine ⟨by rw [List.length_set];exact h.len,h.old.trans (L0.set (Or.inr hA)),?_,?_⟩
 ·rw [List.getElem?_set_ne (by rcases hh.2.1 with q | q<;>lia)];exact h.pile
 ·rw [List.length_set]
  have hlv:=h.lv
  cases ctx with
  | nil=>obtain ⟨rfl,_⟩:=hlv;exact ⟨rfl,hat⟩
  | cons x ctx =>
   obtain ⟨a,as',rfl,h2,h4,h5⟩:=hlv
   exact ⟨a,as',rfl,h2,hat,h5.to (List.getElem?_set_ne (by show a≠H0.length;lia)) (L0.set (Or.inr (A4 _)))⟩
theorem jL.grow {H0 as cur ctx H G}(h:jL H0 as cur ctx H) (g:E6 H G):jL H0 as cur ctx G :=
 ⟨A3 h.len g.len,h.old.trans (g.old.sub (A4 _) (A3 (B4 _ _) h.len)),g.get h.pile,(h.lv.to (g.old _ (B0 _) (by have:=h.len;exact M4 this)) (g.old.sub (B0 _) (A4 _))).up g.len⟩
theorem jL.push {H0 as cur ctx H}{kd:Option Nat}(h:jL H0 as cur ctx H):jL H0 (H.length::as) [] ((kd,cur)::ctx) ((H++[[]]).set (H0.length+1) (S4 H0.length as ctx++[ent (mkV kd) H.length])):=by
 have hlen:=h.len
 have e1:L0 H (H++[[]]) 0 H.length:=L0.one (A4 _)
 refine ⟨by rw [List.length_set,L7];exact M4 hlen,(h.old.trans (e1.sub (A4 _) (by exact M4 hlen))).trans (L0.set (Or.inr (B8 _))),List.getElem?_set_self (by rw [L7];exact M4 hlen),?_⟩
 rw [List.length_set,L7]
 refine ⟨H.length,as,rfl,hlen,⟨[],?_,.nil (A4 _)⟩,h.lv.to ?_ ((e1.sub (B0 _) (A4 _)).trans (L0.set (Or.inl (B1 _))))⟩
 ·rw [List.getElem?_set_ne (by lia)];exact E0
 ·rw [List.getElem?_set_ne (by lia)];exact e1 _ (B0 _) (by exact M4 hlen)
theorem jL.pop {H0 a as cur kd p ctx H}(h:jL H0 (a::as) cur ((kd,p)::ctx) H) :
  jL H0 as p ctx (H.set (H0.length+1) (S4 H0.length as ctx))/\BL (H.set (H0.length+1) (S4 H0.length as ctx)) H0.length a as p ctx/\xN (H.set (H0.length+1) (S4 H0.length as ctx)) cur a (a+1) (H.set (H0.length+1) (S4 H0.length as ctx)).length:=by
 obtain ⟨_,_,e,h2,h4,h5⟩:=h.lv
 cases e
 have hle:=h4.le
 have ev:∀ {hi:Nat},L0 H (H.set (H0.length+1) (S4 H0.length as ctx)) (H0.length+2) hi:=L0.set (Or.inl (B1 _))
 have hlv:=h5.to (List.getElem?_set_ne (Nat.ne_of_gt (B1 _))) ev
 refine ⟨⟨by rw [List.length_set];exact h.len,h.old.trans (L0.set (Or.inr (B8 _))),List.getElem?_set_self h.len,by rw [List.length_set];exact hlv.up (B5 hle)⟩,hlv,?_⟩
 rw [List.length_set];exact h4.to (List.getElem?_set_ne (by lia)) (ev.sub (by exact M4 h2) (A4 _))
theorem jL.shut {H0 a as cur kd p ctx H}(h:jL H0 (a::as) cur ((kd,p)::ctx) H) {t:T}{v:V}
  (ht:∀ G,xN G cur a (a+1) G.length->J0 G (enc t) a G.length v):∃ l,(H.set (H0.length+1) (S4 H0.length as ctx))[here H0.length as]? = some l/\l.length=p.length/\jL H0 as (p++[t]) ctx ((H.set (H0.length+1) (S4 H0.length as ctx)).set (here H0.length as) (l++[v])):=by
 obtain ⟨h1,h2,h3⟩:=h.pop
 obtain ⟨l,g1,g2⟩:=h2.head.1
 exact ⟨l,g1,by rw [g2.len,S1],h1.upd (g2.addT (B5 h3.le) (ht _ h3))⟩
noncomputable def mV:List Nat:=[32,33,34,35,36,38,39,40,41,42,43,44,45,46,47,48,49,50,51,52,53,54,55,56,57,58,59,60,61,62,63,64,65,66,67,68,69,70,71,72,73,74,75,76,77,78,79,80,81,82,83,84,85,86,87,88,89,90,91,92,93,94,95,96,97,98,99,100,101,102,103,104,105,106,107,108,109,110,111,112,113,114,115,116,117,118,119,120,121,122,123,124,125,126]
theorem Br2:∀ c∈mV,mL c=true:=by decide
theorem zY {n:Nat}{H:Heap}(Q:C2) (h:Q (.str mV) H):C1 P (n+1) "_law_signs" [] Q H:=wT (C6 (fun zz h=>h) (I6 (D6 (fun zz h=>h) (fun zz h=>h) (aI (by decide))) h))
noncomputable def sg (i:Int):Nat:=(mV[i.toNat]?).getD 32
theorem Bh0 (i:Int):mL (sg i)=true:=by
 unfold sg
 cases h:mV[i.toNat]? with
 | none=>rfl
 | some c=>exact Br2 c (B9 h)
theorem Cq0 (x:Int):0<=x % 94/\x % 94<94:=⟨Int.emod_nonneg _ (by decide),Int.emod_lt_of_pos _ (by decide)⟩
theorem Cq1 {i:Int}(h:0<=i/\i<94) {H:Heap}:X9 (.str mV) (.int i) H=some (.str [sg i]):=by
 have e:i=(i.toNat:Int):=(Int.toNat_of_nonneg h.1).symm
 have hl:i.toNat<mV.length:=(Int.toNat_lt h.1).mpr h.2
 have hg:mV[i.toNat]? = some (sg i):=by unfold sg;rw [List.getElem?_eq_getElem hl];rfl
 have:=As7 (H:=H) hg
 rw [<- e] at this
 exact this
noncomputable def N8 (n:Int):Int:=if n % 3=1 then n / 3 % 49 else n / 3 % 7
theorem uS {y:Int}(h:1<=y):y=(y.toNat:Int)/\1<=y.toNat:=by
 obtain ⟨n,rfl⟩:=Int.eq_ofNat_of_zero_le (Int.le_trans (by decide) h)
 exact ⟨rfl,Int.ofNat_le.mp h⟩
theorem O5 (n:Int):0<=N8 n/\N8 n<49:=by
 unfold N8;split
 ·exact ⟨Int.emod_nonneg _ (by decide),Int.emod_lt_of_pos _ (by decide)⟩
 ·exact ⟨Int.emod_nonneg _ (by decide),Int.lt_trans (Int.emod_lt_of_pos _ (by decide)) (by decide)⟩
theorem lZ {n:Nat}{k:Int}{H:Heap}(Q:C2) (h:Q (.int (N8 k)) H):C1 P (n+1) "_law_size" [.int k] Q H:=by
 refine Af3 ?_
 unfold N8 at h
 by_cases hk:k % 3=1
 ·rw [if_pos hk] at h
  exact D5 (J6 (C7 (D6 (fun zz h=>h) (fun zz h=>h) (N1 (by decide))) (fun zz h=>h) rfl) (by rw [hk];rfl)) (I6 (D6 (D6 (fun zz h=>h) (fun zz h=>h) (M0 (by decide))) (fun zz h=>h) (N1 (by decide))) h)
 ·rw [if_neg hk] at h
  exact C3 (J6 (C7 (D6 (fun zz h=>h) (fun zz h=>h) (N1 (by decide))) (fun zz h=>h) rfl) (beq_eq_false_iff_ne.mpr hk)) (I6 (D6 (D6 (fun zz h=>h) (fun zz h=>h) (M0 (by decide))) (fun zz h=>h) (N1 (by decide))) h)
theorem Ax2 {n:Nat}{ρ:D7}{H:Heap}{o x:E}{z i m:Int}(hm:0<m) (hi:0<=i/\i<1000) (ho:Ev (C1 P (n+1)) ρ H o (.int z)) (hx:Ev (C1 P (n+1)) ρ H x (.int i)) :
  Ev (C1 P (n+1)) ρ H (.idx (.call "_law_signs" []) (.bin .mod (.bin .add o (.bin .mul x (.bin .add (.int 1) (.bin .mod (.bin .fdiv o (.int 94)) (.int m))))) (.int 94))) (.str [sg ((z+i * (1+z / 94 % m)) % 94)]) :=
 E4 (D3 (fun zz h=>h) zY) (D6 (D6 ho (D6 hx (D6 C8 (D6 (D6 ho C8 (M0 (by decide))) C8 (N1 hm)) Q8) (iH (Or.inl (by lia)))) Q8) C8 (N1 (by decide))) (Cq1 (Cq0 _))
structure WZ where
 w:List Nat
 e:Option V
theorem Sg.app {a b:List Nat}(h:Sg a) (k:Sg b):Sg (a++b):=fun c hc=>by
 rcases List.mem_append.mp hc with q | q
 ·exact h c q
 ·exact k c q
theorem Sg.one {c:Nat}(h:mL c=true):Sg [c]:=fun d hd=>by rw [List.mem_singleton.mp hd];exact h
noncomputable def wordsF (k m:Int) (x:Nat):List Nat:=T5 ((List.range m.toNat).map fun i:Nat=>sg ((k+(i:Int) * (1+k / 94 % 5)) % 94)) x 120
theorem dF {k m:Int}{x:Nat}(hx:x≠120) (hm:0<=m/\m<49):Sg (wordsF k m x)/\(∀ c∈wordsF k m x,c≠x)/\(wordsF k m x).length<=50:=by
 unfold wordsF T5
 refine ⟨fun c q=>?_,fun c q=>?_,by rw [B6,B6,List.length_range];exact A3 (Int.toNat_le.mpr (Int.le_of_lt hm.2)) (by decide)⟩
 ·obtain ⟨y,hy,rfl⟩:=List.mem_map.mp q
  by_cases hyx:y=x
  ·rw [if_pos hyx];rfl
  ·rw [if_neg hyx]
   obtain ⟨i,_,rfl⟩:=List.mem_map.mp hy
   exact Bh0 _
 ·obtain ⟨y,hy,rfl⟩:=List.mem_map.mp q
  by_cases hyx:y=x
  ·rw [if_pos hyx];exact Ne.symm hx
  ·rw [if_neg hyx];exact hyx
theorem gJ {n x:Nat}{k m:Int}{H:Heap}(hx:x≠120) (hm:0<=m/\m<49) (Q:C2) (h:Q (.str (wordsF k m x)) H):C1 P (n+2) "_law_words" [.int k,.int m,.str [x]] Q H:=by
 have hlim:I8=16777216:=rfl
 obtain ⟨sz,rfl⟩:=Int.eq_ofNat_of_zero_le hm.1
 have hsz:sz<=49:=B5 (Int.ofNat_lt.mp hm.2)
 refine wR (C6 (fun zz h=>h) (I3 (uJ (σ:=WZ) (fun z=>[some (.int k),some (.int (sz:Int)),some (.str [x]),some (.str z.w),z.e]) (fun i z G=>G=H/\z.w=(List.range i).map fun i:Nat=>sg ((k+(i:Int) * (1+k / 94 % 5)) % 94)) (n:=sz) (A9 hsz (by decide)) (fun i z G hi hI K hK=>?_) (fun z G hI=>?_) ⟨[],none⟩ (fun zz h=>h) ⟨rfl,rfl⟩)))
 ·obtain ⟨rfl,hw⟩:=hI
  have hwl:z.w.length=i:=by rw [hw,B6,List.length_range]
  refine C6 (D6 (fun zz h=>h) (Ax2 (i:=(i:Int)) (by decide) ⟨Int.natCast_nonneg _,Int.ofNat_lt.mpr (A8 hi (A3 hsz (by decide)))⟩ (by exact fun zz h=>h) (by exact fun zz h=>h)) (aI ?_)) (hK ⟨_,_⟩ _ ⟨rfl,?_⟩)
  ·rw [hwl];exact A3 hi (A3 hsz (by show 49<=16777216;decide))
  ·rw [List.range_succ,List.map_append,hw];rfl
 ·obtain ⟨rfl,hw⟩:=hI
  have hwl:z.w.length=sz:=by rw [hw,B6,List.length_range]
  refine U1 (Bc6 (Y4 rfl ⟨z.w,rfl,Y4 rfl (As8 ⟨hx,by rw [hwl];exact A3 hsz (by decide),?_⟩)⟩) (T6 _ _))
  rw [hw]
  exact h
noncomputable def Z7 (row:List Nat):Bool:=match row.getLast? with
 | some c=>[42,95,126].contains c
 | none=>false
theorem Ao4 (row:List Nat):slice row (some (-1)) none=row.drop (row.length - 1):=by
 unfold slice xR Ai5 mU
 simp only
 rw [if_pos (by decide),List.take_length]
 congr 1;rw [Int.add_comm];exact Int.toNat_sub row.length 1
theorem Bt4 {H:Heap}{s:List Nat}(hs:Sg s):Q6 .isin (.str s) (.tup [.str [42],.str [95],.str [126]]) H=some ([[42],[95],[126]].contains s):=by
 have e1:rd H K7 (.str s)=some (.str s):=if_pos (List.all_eq_true.mpr fun c hc=>decide_eq_true (rR hs c hc))
 show memV _ _ H=_
 unfold memV
 rw [e1]
 show some ([D.str [42],D.str [95],D.str [126]].any fun y=>xI y (.str s))=_
 have q:∀ a:List Nat,xI (.str a) (.str s)=(s==a):=fun a=>by
  show (a==s)=(s==a)
  rw [Bool.eq_iff_iff,beq_iff_eq,beq_iff_eq]
  exact ⟨Eq.symm,Eq.symm⟩
 simp only [List.any_cons,List.any_nil,q,List.contains_cons,List.contains_nil]
theorem Cs9 (row:List Nat):[[42],[95],[126]].contains (row.drop (row.length - 1))=Z7 row:=by
 unfold Z7
 rcases List.eq_nil_or_concat row with rfl | ⟨r,c,rfl⟩
 ·rfl
 ·have:(r++[c]).drop ((r++[c]).length - 1)=[c]:=by simp
  rw [List.concat_eq_append,this]
  simp
structure PB (deep:Nat) (mk:List Nat) (bar:Bool) (s:List Nat):Prop where
 sg:Sg s
 all:∀ c∈s,c≠92/\c≠96/\(mk.length=2->c≠41)/\(mk=[91]->c≠93)/\(deep<12->c≠91)
 pair:deep<12->∀ a b c,s=a++c::40::b->[42,95,126].contains c=false
 bar:bar=true->s.take 1≠[40]
theorem PB.nil {deep mk bar}:PB deep mk bar []:=⟨fun c h=>(nomatch h),fun c h=>(nomatch h),fun zz a b c h=>absurd h (by simp),fun zz=>by simp⟩
theorem PB.add {deep mk bar}{s:List Nat}{c:Nat}(h:PB deep mk bar s) (h0:mL c=true) (h1:c≠92/\c≠96/\(mk.length=2->c≠41)/\(mk=[91]->c≠93)/\(deep<12->c≠91)) (h2:deep<12->c=40->Z7 s=false) (h3:bar=true->s=[]->c≠40):PB deep mk bar (s++[c]):=by
 refine ⟨h.sg.app (.one h0),fun x hx=>?_,fun hd a b x e=>?_,fun hb=>?_⟩
 ·rcases List.mem_append.mp hx with q | q
  ·exact h.all x q
  ·rw [List.mem_singleton.mp q];exact h1
 ·rcases List.eq_nil_or_concat b with rfl | ⟨b',y,rfl⟩
  ·have e':s++[c]=(a++[x])++[40]:=by rw [e];simp
   obtain ⟨e1,e2⟩:=List.append_inj' e' rfl
   have:=h2 hd (List.cons.inj e2).1
   subst e1
   unfold Z7 at this
   simpa using this
  ·have e':s++[c]=(a++x::40::b')++[y]:=by rw [e];simp
   obtain ⟨e1,_⟩:=List.append_inj' e' rfl
   exact h.pair hd a b' x e1
 ·cases s with
  | nil=>simpa using h3 hb rfl
  | cons y s=>exact h.bar hb
theorem Ak6 {C:Calls}{ρ:D7}{H:Heap}{R:E2}{ss:List S}{e:E}{x c d:Nat}{b:Bool}(he:Ev C ρ H e (.bool b)) (hx:ρ.set x (some (.str [c]))=ρ) (k:C4 C ss (ρ.set x (some (.str [bif b then d else c]))) R H):C4 C (.ite e [.assign x (.str [d])] []::ss) ρ R H:=by
 cases b with
 | true=>exact D5 he (C6 (fun zz h=>h) k)
 | false=>rw [show (bif false then d else c)=c from rfl,hx] at k;exact C3 he k
structure QZ where
 w:List Nat
 e6:Option V
 e7:Option V
noncomputable def lR (mk:List Nat) (c:Nat):Bool:=[92,96].contains c||((mk==[91]&&[c]==[93])||((mk.length:Int)==2&&[c]==[41]))
noncomputable def xW (deep:Nat) (w:List Nat) (c:Nat):Bool:=decide ((deep:Int)<12)&&([c]==[91]||([c]==[40]&&Z7 w))
noncomputable def Bx1 (bar:Bool) (i c:Nat):Bool:=bar&&((i:Int)==0&&[c]==[40])
noncomputable def turn (deep:Nat) (mk:List Nat) (bar:Bool) (w:List Nat) (i c:Nat):Nat :=
 let c1:=bif lR mk c then 109 else c
 let c2:=bif xW deep w c1 then 110 else c1
 bif Bx1 bar i c2 then 111 else c2
theorem Cc2 {deep:Nat}{mk:List Nat}{bar:Bool}{w:List Nat}{c:Nat}(h:PB deep mk bar w) (hc:mL c=true):PB deep mk bar (w++[turn deep mk bar w w.length c]):=by
 have a1:∀ c1:Nat,c1=(bif lR mk c then 109 else c)->mL c1=true/\c1≠92/\c1≠96/\(mk.length=2->c1≠41)/\(mk=[91]->c1≠93):=fun c1 e=>by
  cases hb:lR mk c with
  | true=>rw [hb] at e;replace e:c1=109:=e;subst e;exact ⟨rfl,by decide,by decide,fun zz=>by decide,fun zz=>by decide⟩
  | false =>
   rw [hb] at e;subst e
   unfold lR at hb
   simp only [Bool.or_eq_false_iff] at hb
   refine ⟨hc,?_,?_,fun hm q=>?_,fun hm q=>?_⟩
   ·intro q;subst q;simp at hb
   ·intro q;subst q;simp at hb
   ·subst q
    have:=hb.2.2
    rw [hm] at this
    simp at this
   ·subst q
    have:=hb.2.1
    rw [hm] at this
    simp at this
 have a2:∀ c1 c2:Nat,(mL c1=true/\c1≠92/\c1≠96/\(mk.length=2->c1≠41)/\(mk=[91]->c1≠93))->c2=(bif xW deep w c1 then 110 else c1)->(mL c2=true/\c2≠92/\c2≠96/\(mk.length=2->c2≠41)/\(mk=[91]->c2≠93)/\(deep<12->c2≠91))/\(deep<12->c2=40->Z7 w=false):=fun c1 c2 h1 e=>by
  cases hb:xW deep w c1 with
  | true=>rw [hb] at e;replace e:c2=110:=e;subst e;exact ⟨⟨rfl,by decide,by decide,fun zz=>by decide,fun zz=>by decide,fun zz=>by decide⟩,fun zz q=>by cases q⟩
  | false =>
   rw [hb] at e;subst e
   unfold xW at hb
   refine ⟨⟨h1.1,h1.2.1,h1.2.2.1,h1.2.2.2.1,h1.2.2.2.2,fun hd q=>?_⟩,fun hd q=>?_⟩
   ·subst q
    rw [decide_eq_true (show (deep:Int)<12 from Int.ofNat_lt.mpr hd)] at hb
    simp at hb
   ·subst q
    rw [decide_eq_true (show (deep:Int)<12 from Int.ofNat_lt.mpr hd)] at hb
    simpa using hb
 unfold turn
 generalize e1:(bif lR mk c then 109 else c)=c1
 dsimp only
 generalize e2:(bif xW deep w c1 then 110 else c1)=c2
 obtain ⟨h2,h3⟩:=a2 c1 c2 (a1 c1 e1.symm) e2.symm
 cases hb:Bx1 bar w.length c2 with
 | true=>show PB deep mk bar (w++[111]);exact h.add rfl ⟨by decide,by decide,fun zz=>by decide,fun zz=>by decide,fun zz=>by decide⟩ (fun zz q=>by cases q) fun zz zz=>by decide
 | false =>
  refine h.add h2.1 h2.2 h3 fun hbar hw q=>?_
  unfold Bx1 at hb
  subst q
  subst hw
  rw [hbar] at hb
  simp at hb
noncomputable def iK (k:Int) (deep:Nat) (mk:List Nat) (bar:Bool):Nat->List Nat
 | 0=>[]
 | i+1=>iK k deep mk bar i++[turn deep mk bar (iK k deep mk bar i) i (sg ((k+(i:Int) * (1+k / 94 % 7)) % 94))]
noncomputable def uQ (k:Int) (sz deep:Nat) (mk:List Nat) (bar:Bool):List Nat:=bif (deep:Int)==12&&k % 2==0 then iK k deep mk bar sz++[42,40,91,95,40,126,40] else iK k deep mk bar sz
theorem Ao6 {n:Nat}{k:Int}{sz deep:Nat}{mk:List Nat}{bar:Bool}{H:Heap}(hsz:1<=sz/\sz<=50) (hd:deep<=12) (Q:C2) (h:∀ t,t=uQ k sz deep mk bar->PB deep mk bar t->t≠[]->t.length<=60->Q (.str t) H) :
  C1 P (n+2) "_law_plain" [.int k,.int (sz:Int),.str mk,.int (deep:Nat),.bool bar] Q H:=by
 have hlim:I8=16777216:=rfl
 refine wV (C6 (fun zz h=>h) (I3 (uJ (σ:=QZ) (fun z=>[some (.int k),some (.int (sz:Int)),some (.str mk),some (.int (deep:Nat)),some (.bool bar),some (.str z.w),z.e6,z.e7]) (fun i z G=>G=H/\z.w.length=i/\PB deep mk bar z.w/\z.w=iK k deep mk bar i) (n:=sz) (A9 hsz.2 (by decide)) (fun i z G hi hI K hK=>?_) (fun z G hI=>?_) ⟨[],none,none⟩ (fun zz h=>h) ⟨rfl,rfl,.nil,rfl⟩)))
 ·obtain ⟨rfl,hw,hpb,hz⟩:=hI
  refine C6 (Ax2 (i:=(i:Int)) (by decide) ⟨Int.natCast_nonneg _,Int.ofNat_lt.mpr (A8 hi (A3 hsz.2 (by decide)))⟩ (by exact fun zz h=>h) (by exact fun zz h=>h)) ?_
  have hc:=Bh0 ((k+(i:Int) * (1+k / 94 % 7)) % 94)
  have hpp:iK k deep mk bar (i+1)=z.w++[turn deep mk bar z.w i (sg ((k+(i:Int) * (1+k / 94 % 7)) % 94))]:=by rw [hz];rfl
  generalize sg ((k+(i:Int) * (1+k / 94 % 7)) % 94)=c at hc hpp
  have hwl:Sg (z.w.drop (z.w.length - 1)):=hpb.sg.drop
  have ht:=Cc2 hpb hc
  rw [hw] at ht
  refine Ak6 (c:=c) (b:=lR mk c) (R1 (C7 (fun zz h=>h) (fun zz h=>h) Cg9) fun zz=>R1 (E5 (C7 (fun zz h=>h) (fun zz h=>h) V1) fun zz=>G8 (C7 (fun zz h=>h) (fun zz h=>h) V1)) fun zz=>Y3 (E5 (C7 (fun zz h=>h) (fun zz h=>h) U2) fun zz=>G8 (C7 (fun zz h=>h) (fun zz h=>h) V1))) rfl ?_
  refine Ak6 (c:=bif lR mk c then 109 else c) (b:=xW deep z.w (bif lR mk c then 109 else c)) (E5 (C7 (fun zz h=>h) (fun zz h=>h) X3) fun zz=>G8 (R1 (C7 (fun zz h=>h) (fun zz h=>h) V1) fun zz=>Y3 (E5 (C7 (fun zz h=>h) (fun zz h=>h) V1) fun zz=>G8 (J6 (C7 (lT (fun zz h=>h) (congrArg V.str (Ao4 z.w))) (fun zz h=>h) (Bt4 hwl)) (Cs9 z.w))))) rfl ?_
  refine Ak6 (c:=bif xW deep z.w (bif lR mk c then 109 else c) then 110 else (bif lR mk c then 109 else c)) (b:=Bx1 bar i (bif xW deep z.w (bif lR mk c then 109 else c) then 110 else (bif lR mk c then 109 else c))) (E5 (fun zz h=>h) fun zz=>E5 (C7 (fun zz h=>h) (fun zz h=>h) U2) fun zz=>G8 (C7 (fun zz h=>h) (fun zz h=>h) V1)) rfl ?_
  refine C6 (D6 (fun zz h=>h) (fun zz h=>h) (aI ?_)) (hK ⟨_,_,_⟩ _ ⟨rfl,?_,ht,hpp.symm⟩)
  ·rw [hw];exact A3 hi (A3 hsz.2 (by show 50<=16777216;decide))
  ·rw [A6,hw];rfl
 ·obtain ⟨rfl,hw,hpb,hz⟩:=hI
  have hne:z.w≠[]:=fun q=>by rw [q] at hw;exact absurd hw (Nat.ne_of_lt hsz.1)
  have ev:∀ {C:Calls},Ev C [some (.int k),some (.int (sz:Int)),some (.str mk),some (.int (deep:Nat)),some (.bool bar),some (.str z.w),z.e6,z.e7] G (.and [.cmp .eq (.var 3) (.int 12),.cmp .eq (.bin .mod (.var 0) (.int 2)) (.int 0)]) (.bool ((deep:Int)==12&&k % 2==0)):=E5 (C7 (fun zz h=>h) (fun zz h=>h) U2) fun zz=>G8 (C7 (D6 (fun zz h=>h) (fun zz h=>h) (N1 (by decide))) (fun zz h=>h) U2)
  cases hb:((deep:Int)==12&&k % 2==0) with
  | false=>rw [hb] at ev;exact C3 ev (I6 (fun zz h=>h) (h _ (by unfold uQ;rw [hb,hz];rfl) hpb hne (by rw [hw];exact A3 hsz.2 (by decide))))
  | true =>
   rw [hb] at ev
   have h12:¬ deep<12:=fun q=>by
    have:=Int.ofNat.inj (beq_iff_eq.mp (Bool.and_eq_true_iff.mp hb).1)
    exact Nat.lt_irrefl _ (this▸q)
   refine D5 ev (C6 (D6 (fun zz h=>h) (fun zz h=>h) (aI (by rw [hw];exact A3 (Nat.add_le_add_right hsz.2 7) (by show 50+7<=16777216;decide)))) (I6 (ss:=[]) (fun zz h=>h) (h _ (by unfold uQ;rw [hb,hz];rfl) ⟨hpb.sg.app (by unfold Sg;decide),fun c q=>?_,fun hd=>absurd hd h12,fun q=>?_⟩ (fun q=>?_) (by rw [A6,hw];exact A3 (Nat.add_le_add_right hsz.2 7) (by decide)))))
   ·rcases List.mem_append.mp q with q | q
    ·exact hpb.all c q
    ·have:∀ c∈[42,40,91,95,40,126,40],c≠92/\c≠96/\c≠41/\c≠93:=by decide
     have:=this c q
     exact ⟨this.1,this.2.1,fun zz=>this.2.2.1,fun zz=>this.2.2.2,fun hd=>absurd hd h12⟩
   ·have:=hpb.bar q
    cases hy:z.w with
    | nil=>exact absurd hy hne
    | cons y r=>rw [hy] at this;exact this
   ·exact hne (List.append_eq_nil_iff.mp q).1
noncomputable def kdO:Option Nat->Kd
 | some _=>.sp
 | none=>.lb
noncomputable def GX:List T->L6->Prop
 | cur,[]=>L8 0 .top cur
 | cur,(kd,p)::ctx=>(L8 (ctx.length+1) (kdO kd) cur/\ctx.length<12/\∀ c,kd=some c->[42,95,126].contains c=true)/\GX p ctx
theorem GX.good {cur:List T}:∀ {ctx:L6},GX cur ctx->L8 ctx.length (bJ ctx) cur
 | [],h=>h
 | (some _,p)::ctx,h=>h.1.1
 | (none,p)::ctx,h=>h.1.1
theorem GX.set {cur cur':List T}:∀ {ctx:L6},GX cur ctx->L8 ctx.length (bJ ctx) cur'->GX cur' ctx
 | [],_,h=>h
 | (some _,p)::ctx,h,k=>⟨⟨k,h.1.2⟩,h.2⟩
 | (none,p)::ctx,h,k=>⟨⟨k,h.1.2⟩,h.2⟩
theorem GX.deep {cur:List T}:∀ {ctx:L6},GX cur ctx->ctx.length<=12
 | [],_=>B0 _
 | x::ctx,h=>h.1.2.1
theorem L8.len {deep:Nat}{kd:Kd}{ts:List T}(h:L8 deep kd ts):ts.length<=(rowTs ts).length:=by
 have add:∀ {ts:List T}{t:T},ts.length<=(rowTs ts).length->1<=(rowT t).length->(ts++[t]).length<=(rowTs (ts++[t])).length:=fun {ts t} h1 h2=>by
  rw [I4,H7,A6,A6]
  exact Nat.add_le_add h1 h2
 induction h with
 | nil=>exact A4 _
 | txt _ _ hp _ ih=>exact add ih (List.length_pos_iff.mpr hp.ne)
 | kept _ ih=>exact add ih (B3 (B0 _))
 | code _ _ ih=>exact add ih (B3 (B0 _))
 | span _ _ _ _ ih _=>exact add ih (B3 (B0 _))
 | @link _ _ _ _ g _ _ _ _ ih _=>exact add ih (by cases g<;>exact B3 (B0 _))
noncomputable def Ai7 (kd:Option Nat) (ts:List T) (k:Int) (b:Bool):T:=match kd with
 | some c=>.span c ts b
 | none=>bif b&&decide (0<k % 3) then .link ts (some (wordsF (k / 3) (N8 (k / 300)) 41)) true else .link ts none b
structure Az6 (kd:Option Nat) (ts:List T) (k:Int) (b:Bool) (t:T) (tail:List Nat):Prop where
 eq:t=Ai7 kd ts k b
 row:rowT t=Y5 kd++rowTs ts++tail
 sg:Sg tail
 len:tail.length<=54
 form:(∃ c,kd=some c/\t=.span c ts b)∨(kd=none/\(t=.link ts none b∨(b=true/\∃ g,(∀ c∈g,c≠41)/\t=.link ts (some g) true)))
noncomputable def mkC:L6->List Nat
 | []=>[]
 | (kd,_)::_=>mkV kd
theorem dG {A0:Nat}:∀ {as:List Nat}{ctx:L6},as.length=ctx.length->∃ r,S4 A0 as ctx=r++[ent (mkC ctx) (here A0 as)]
 | [],[],_=>⟨[],rfl⟩
 | a::as,(kd,p)::ctx,h=>⟨S4 A0 as ctx,rfl⟩
theorem Bv1 {G:Heap}{cur:List T}{a c:Nat}{b:Bool}(h:xN G cur a (a+1) G.length):J0 G (enc (.span c cur b)) a G.length (jR c a b):=by
 have hle:=h.le
 obtain ⟨l,h1,h2⟩:=h
 exact Aa3 ⟨A4 _,hle,B8 _,A4 _⟩ h1 h2
theorem Ac9 {G:Heap}{cur:List T}{a:Nat}{g:Option (List Nat)}{b:Bool}(h:xN G cur a (a+1) G.length):J0 G (enc (.link cur g b)) a G.length (W8 a g b):=by
 have hle:=h.le
 obtain ⟨l,h1,h2⟩:=h
 exact nY ⟨A4 _,hle,B8 _,A4 _⟩ h1 h2
theorem N4 {C:Calls}{ρ:D7}{H:Heap}{R:E2}{ss:List S}{o e:E}{a:Nat}(ho:Ev C ρ H o (.ref a)) (k:D9 C e ρ (fun v H₁=>hea (X1 (.ref a) v H₁) (fun zz H₂=>C4 C ss ρ R H₂)) H):C4 C (.expr (.append o e)::ss) ρ R H:=ho _ k
theorem Bl3 {n a:Nat}{as:List Nat}{kd:Option Nat}{cur p:List T}{ctx:L6}{k:Int}{b:Bool}{Q:C2}{H0 H:Heap}(h:jL H0 (a::as) cur ((kd,p)::ctx) H) (hl:p.length<=1000000)
  (hQ:∀ t tail G,Az6 kd cur k b t tail->jL H0 as (p++[t]) ctx G->Q .none G):C1 P (n+3) "_law_end" [.ref (H0.length+1),.int k,.bool b] Q H:=by
 have hlim:I8=16777216:=rfl
 obtain ⟨h1,h2,h3⟩:=h.pop
 obtain ⟨r,hr⟩:=dG (A0:=H0.length) h1.lv.lens
 have hp1:=h1.pile.trans (congrArg some hr)
 refine Ap9 (Bg4 (fun zz h=>h) h.pile (C6 (E4 (E4 (fun zz h=>h) (fun zz h=>h) (J8 hp1)) (fun zz h=>h) (c:=.ref (here H0.length as)) rfl) ?_))
 have fin:∀ {t:T}{v:V}{tail:List Nat}{R:E2}{ρ:D7},(∀ G,Q .none G->R .next ρ G)->Az6 kd cur k b t tail->(∀ G,xN G cur a (a+1) G.length->J0 G (enc t) a G.length v)->∃ l,(H.set (H0.length+1) (S4 H0.length as ctx))[here H0.length as]? = some l/\l.length<I8/\R .next ρ ((H.set (H0.length+1) (S4 H0.length as ctx)).set (here H0.length as) (l++[v])):=fun {t v tail R ρ} hR ht hv=>by
  obtain ⟨l,g1,g2,g3⟩:=h.shut hv
  exact ⟨l,g1,by exact M4 (M9 (Nat.le_of_eq g2) (M9 hl (Nat.le_of_eq hlim.symm))),hR _ (hQ t tail _ ht g3)⟩
 cases kd with
 | some c =>
  obtain ⟨l,g1,g2,g3⟩:=fin (tail:=if b then [41] else []) (R:=K6 (C1 P (n+2)) [] (D8 Q)) (ρ:=[some (.ref (H0.length+1)),some (.int k),some (.bool b),some (ent [c,40] a),some (.ref (here H0.length as))]) (fun G q=>q) (t:=.span c cur b) (v:=jR c a b) ⟨rfl,rfl,by cases b<;>(unfold Sg;decide),by cases b<;>decide,Or.inl ⟨c,rfl,rfl⟩⟩ fun G h=>Bv1 h
  exact D5 (J6 (C7 (fun zz h=>h) (fun zz h=>h) mQ) (by show (![c,40]==[91])=true;simp)) (I0 (fun zz h=>h) (fun zz h=>h) g1 g2 g3)
 | none =>
  refine D4 (fun zz h=>h) ?_
  have ev:∀ {C:Calls}{x4:Option V}{G:Heap},Ev C [some (.ref (H0.length+1)),some (.int k),some (.bool b),some (ent [91] a),x4] G (.and [.var 2,.cmp .gt (.bin .mod (.var 1) (.int 3)) (.int 0)]) (.bool (b&&decide (0<k % 3))):=E5 (fun zz h=>h) fun zz=>G8 (C7 (D6 (fun zz h=>h) (fun zz h=>h) (N1 (by decide))) (fun zz h=>h) T0)
  cases hb:(b&&decide (0<k % 3)) with
  | true =>
   rw [hb] at ev
   have hbt:b=true:=(Bool.and_eq_true_iff.mp hb).1
   subst hbt
   refine D5 ev (N4 (a:=here H0.length as) (fun zz h=>h) (T2 (I5 (v:=.str [108,105,110,107]) (by exact fun zz h=>h) (I5 (v:=.ref a) (by exact fun zz h=>h) (P0 (C9 (D6 (fun zz h=>h) (fun zz h=>h) (M0 (by decide))) (C9 (D3 (C9 (D6 (fun zz h=>h) (fun zz h=>h) (M0 (by decide))) K5) lZ) (C9 (by exact fun zz h=>h) K5))) (gJ (n:=n) (by decide) (O5 _) _ (I5 (v:=.bool true) (by exact fun zz h=>h) (I1 ?_))))))))
   obtain ⟨hg1,hg2,hg3⟩:=dF (k:=k / 3) (m:=N8 (k / 300)) (x:=41) (by decide) (O5 _)
   have heq:T.link cur (some (wordsF (k / 3) (N8 (k / 300)) 41)) true=Ai7 none cur k true:=by unfold Ai7;dsimp only;rw [hb];rfl
   generalize wordsF (k / 3) (N8 (k / 300)) 41=g at hg1 hg2 hg3 heq
   obtain ⟨l,g1,g2,g3⟩:=fin (tail:=[93,40]++g++[41]) (R:=K6 (C1 P (n+2)) [] (K6 (C1 P (n+2)) [] (D8 Q))) (ρ:=[some (.ref (H0.length+1)),some (.int k),some (.bool true),some (ent [91] a),some (.ref (here H0.length as))]) (fun G q=>q) (t:=.link cur (some g) true) (v:=W8 a (some g) true) ⟨heq,by show [91]++rowTs cur++[93,40]++g++[41]=[91]++rowTs cur++([93,40]++g++[41]);simp only [A7],(Sg.app (Sg.app (by unfold Sg;decide) hg1) (by unfold Sg;decide)),by rw [A6,A6];show 2+g.length+1<=54;exact M4 hg3,Or.inr ⟨rfl,Or.inr ⟨rfl,g,hg2,rfl⟩⟩⟩ fun G h=>Ac9 h
   exact K2 g1 g2 g3
  | false =>
   rw [hb] at ev
   obtain ⟨l,g1,g2,g3⟩:=fin (tail:=if b then [93] else []) (R:=K6 (C1 P (n+2)) [] (K6 (C1 P (n+2)) [] (D8 Q))) (ρ:=[some (.ref (H0.length+1)),some (.int k),some (.bool b),some (ent [91] a),some (.ref (here H0.length as))]) (fun G q=>q) (t:=.link cur none b) (v:=W8 a none b) ⟨by unfold Ai7;dsimp only;rw [hb];rfl,rfl,by cases b<;>(unfold Sg;decide),by cases b<;>decide,Or.inr ⟨rfl,Or.inl rfl⟩⟩ fun G h=>Ac9 h
   exact D4 ev (I0 (fun zz h=>h) (fun zz h=>h) g1 g2 g3)
noncomputable def Cq4:T->Bool
 | .link _ g _=>g.isNone
 | _=>false
noncomputable def Ai8 (ts:List T):Bool:=match ts.getLast? with
 | some t=>Cq4 t
 | none=>false
theorem tL {us:List T}{t:T}:Ai8 (us++[t])=Cq4 t:=by
 unfold Ai8;rw [List.getLast?_append];rfl
theorem Ay3 {ts:List T}(h:bT ts):Ai8 ts=true:=by
 obtain ⟨us,vs,rfl⟩:=h;exact tL
noncomputable def txT:T->Bool
 | .txt _=>true
 | _=>false
noncomputable def isTx (ts:List T):Bool:=match ts.getLast? with
 | some t=>txT t
 | none=>false
theorem sW {us:List T}{t:T}:isTx (us++[t])=txT t:=by
 unfold isTx;rw [List.getLast?_append];rfl
theorem Cp9 {ts:List T}(h:isTx ts=false):fP ts:=by
 rintro us s rfl
 rw [sW] at h
 cases h
theorem P1 {α:Type}(l:List α):l=[]∨∃ r x,l=r++[x]:=by
 rcases List.eq_nil_or_concat l with h | ⟨r,x,h⟩
 ·exact Or.inl h
 ·exact Or.inr ⟨r,x,by rw [h,List.concat_eq_append]⟩
theorem Aa8 {H:Heap}{us:List T}{t:T}{lo hi:Nat}{l:List V}(h:E8 H (G9 (us++[t])) lo hi l):∃ r v p,l=r++[v]/\E8 H (G9 us) lo p r/\p<=hi/\J0 H (enc t) p hi v:=by
 rw [oE] at h
 obtain ⟨r,b,m,rfl,h1,h2⟩:=h.cut
 obtain ⟨v,b',m',rfl,h3,h4,h5,rfl⟩:=h2
 exact ⟨r,v,m,rfl,h1,A3 h3 h5,h4.wide (A4 _) h5⟩
theorem gt0 {C:Calls}{ρ:D7}{H:Heap}{e:E}{a:Nat}{r:List V}{v:V}(he:Ev C ρ H e (.ref a)) (ha:H[a]? = some (r++[v])):Ev C ρ H (.cmp .gt (.len e) (.int 0)) (.bool true) :=
 J6 (C7 (K0 he (J4 ha)) C8 T0) (decide_eq_true (by rw [A6];show (0:Int)<((r.length+1:Nat):Int);exact Int.ofNat_lt.mpr (fkz)))
theorem Cq2 {C:Calls}{ρ:D7}{H:Heap}{e:E}{a:Nat}(he:Ev C ρ H e (.ref a)) (ha:H[a]? = some []):Ev C ρ H (.cmp .gt (.len e) (.int 0)) (.bool false) :=
 C7 (K0 he (J4 ha)) C8 T0
theorem bS {C:Calls}{ρ:D7}{H:Heap}{e f:E}{es:List E}(h1:Ev C ρ H e (.bool false)):Ev C ρ H (.and (e::f::es)) (.bool false):=E5 (b2:=true) h1 fun q=>nomatch q
theorem iI {C:Calls}{ρ:D7}{H:Heap}{e f:E}{es:List E}{b:Bool}(h1:Ev C ρ H e (.bool true)) (h2:Ev C ρ H (.and (f::es)) (.bool b)):Ev C ρ H (.and (e::f::es)) (.bool b):=E5 h1 fun zz=>h2
theorem Be2 {n a lo hi:Nat}{ts:List T}{l:List V}{H:Heap}(ha:H[a]? = some l) (hr:E8 H (G9 ts) lo hi l) (hn:fP ts) (Q:C2) (h:Q (.bool (Ai8 ts)) H):C1 P (n+1) "_law_barred" [.ref a] Q H:=by
 refine rB ?_
 rcases P1 ts with rfl | ⟨us,t,rfl⟩
 ·obtain ⟨_,rfl⟩:=hr
  exact I6 (bS (Cq2 (fun zz h=>h) ha)) h
 ·obtain ⟨r,v,p,rfl,h1,h2,h3⟩:=Aa8 hr
  rw [tL] at h
  have hl:∀ {C:Calls},Ev C [some (.ref a)] H (.idx (.var 0) (.neg 1)) v:=E4 (fun zz h=>h) (fun zz h=>h) (J8 ha)
  have no:∀ {s:List Nat}{w:List V},v=.tup (.str s::w)->(s==[108,105,110,107])=false->Ev (C1 P n) [some (.ref a)] H (.and [.cmp .gt (.len (.var 0)) (.int 0),.cmp .eq (.idx (.idx (.var 0) (.neg 1)) (.int 0)) (.str [108,105,110,107]),.is (.idx (.idx (.var 0) (.neg 1)) (.int 2)) .none]) (.bool false):=fun hv hs =>
   iI (gt0 (fun zz h=>h) ha) (bS (J6 (C7 (E4 (lT hl hv) C8 aL) N0 V1) hs))
  cases t with
  | txt s=>exact absurd rfl (hn us s)
  | kept s=>exact I6 (no (cX h3) rfl) h
  | code s b=>exact I6 (no (cY h3) rfl) h
  | span c vs b=>obtain ⟨b',e,_⟩:=cU h3;exact I6 (no e rfl) h
  | link vs g b =>
   obtain ⟨b',e,_⟩:=cW h3
   subst e
   have h2':X9 (W8 b' g b) (.int 2) H=some (aV (gA g)):=by rfl
   refine I6 (iI (gt0 (fun zz h=>h) ha) (iI (C7 (E4 hl C8 aL) N0 V1) (G8 (J6 (Cw4 (E4 hl C8 h2')) ?_)))) h
   cases g<;>rfl
theorem Cr7 {C:Calls}{a lo hi:Nat}{ts:List T}{l:List V}{H:Heap}{ρ:D7}{e:E}(he:Ev C ρ H e (.ref a)) (ha:H[a]? = some l) (hr:E8 H (G9 ts) lo hi l) :
  Ev C ρ H (.and [.cmp .gt (.len e) (.int 0),.isinst (.idx e (.neg 1)) .str]) (.bool (isTx ts)):=by
 rcases P1 ts with rfl | ⟨us,t,rfl⟩
 ·obtain ⟨_,rfl⟩:=hr
  exact bS (Cq2 he ha)
 ·obtain ⟨r,v,p,rfl,h1,h2,h3⟩:=Aa8 hr
  rw [sW]
  refine iI (gt0 he ha) (G8 (J6 (nA (E4 he V0 (J8 ha))) ?_))
  cases t with
  | txt s=>obtain rfl:v=.str s:=h3;rfl
  | kept s=>rw [cX h3];rfl
  | code s b=>rw [cY h3];rfl
  | span c vs b=>obtain ⟨b',e,_⟩:=cU h3;rw [e];rfl
  | link vs g b=>obtain ⟨b',e,_⟩:=cW h3;rw [e];rfl
structure BG (H0:Heap) (as:List Nat) (cur:List T) (ctx:L6) (H:Heap) (N:Nat):Prop where
 st:jL H0 as cur ctx H
 gx:GX cur ctx
 sg:Sg (rowC ctx cur)
 len:(rowC ctx cur).length<=N
theorem vT:∀ (ctx:L6) (cur:List T),(rowTs cur).length<=(rowC ctx cur).length
 | [],cur=>A4 _
 | (kd,p)::ctx,cur=>by
  show _<=(rowC ctx p++Y5 kd++rowTs cur).length
  rw [A6];exact Nat.le_add_left _ _
theorem BG.many {H0 as cur ctx H N}(h:BG H0 as cur ctx H N):cur.length<=N:=A3 h.gx.good.len (A3 (vT _ _) h.len)
theorem BG.add {H0 as cur ctx H N}{t:T}{G:Heap}(h:BG H0 as cur ctx H N) (hs:jL H0 as (cur++[t]) ctx G) (hg:L8 ctx.length (bJ ctx) (cur++[t])) (h1:Sg (rowT t)) (h2:(rowT t).length<=70):BG H0 as (cur++[t]) ctx G (N+80):=by
 refine ⟨hs,h.gx.set hg,?_,?_⟩
 ·rw [Z3,H7];exact h.sg.app h1
 ·rw [Z3,H7,A6];exact Nat.add_le_add h.len (A3 h2 (by decide))
theorem Bs3 {kd:Option Nat}(h:∀ c,kd=some c->[42,95,126].contains c=true):Sg (Y5 kd)/\(Y5 kd).length<=2:=by
 cases kd with
 | none=>exact ⟨by unfold Sg;decide,by decide⟩
 | some c =>
  have hc:=h c rfl
  refine ⟨fun d hd=>?_,A4 _⟩
  have q:∀ c:Nat,[42,95,126].contains c=true->mL c=true:=fun c hc=>by
   have:∀ c∈[42,95,126],mL c=true:=by decide
   exact this c (List.contains_iff_mem.mp hc)
  rcases List.mem_cons.mp hd with rfl | hd
  ·exact q _ hc
  ·rw [List.mem_singleton.mp hd];rfl
theorem BG.open {H0 as cur ctx H N}{kd:Option Nat}{G:Heap}(h:BG H0 as cur ctx H N) (hs:jL H0 (H.length::as) [] ((kd,cur)::ctx) G) (hd:ctx.length<12) (hk:∀ c,kd=some c->[42,95,126].contains c=true):BG H0 (H.length::as) [] ((kd,cur)::ctx) G (N+80):=by
 have ho:=Bs3 hk
 refine ⟨hs,⟨⟨.nil,hd,hk⟩,h.gx⟩,?_,?_⟩
 ·show Sg (rowC ctx cur++Y5 kd++[])
  rw [List.append_nil];exact h.sg.app ho.1
 ·show (rowC ctx cur++Y5 kd++[]).length<=_
  rw [List.append_nil,A6];have:=h.len;exact M4 (M9 ho.2 this)
theorem Ab8 {deep:Nat}{k:Kd}{kd:Option Nat}{ts us:List T}{t:T}{tail:List Nat}{z:Int}(h:Az6 kd us z true t tail) (hd:deep<12) (hk:∀ c,kd=some c->[42,95,126].contains c=true) (hg:L8 deep k ts) (hu:L8 (deep+1) (kdO kd) us):L8 deep k (ts++[t]):=by
 rcases h.form with ⟨c,rfl,rfl⟩ | ⟨rfl,rfl | ⟨_,g,hg',rfl⟩⟩
 ·exact .span hg hd (hk c rfl) hu
 ·exact .link hg hd (fun s q=>nomatch q) hu
 ·exact .link hg hd (fun s q=>by cases q;exact hg') hu
theorem BG.shut {H0 a as cur kd p ctx H N}{t:T}{tail:List Nat}{z:Int}{G:Heap}(h:BG H0 (a::as) cur ((kd,p)::ctx) H N) (he:Az6 kd cur z true t tail) (hs:jL H0 as (p++[t]) ctx G):BG H0 as (p++[t]) ctx G (N+80):=by
 obtain ⟨h1,h2⟩:=h.gx
 have e:rowC ctx (p++[t])=rowC ((kd,p)::ctx) cur++tail:=by
  rw [Z3,H7,he.row]
  show _=rowC ctx p++Y5 kd++rowTs cur++tail
  simp only [A7]
 refine ⟨hs,h2.set (Ab8 he h1.2.1 h1.2.2 h2.good h1.1),?_,?_⟩
 ·rw [e];exact h.sg.app he.sg
 ·rw [e,A6];have:=h.len;have:=he.len;lia
theorem Bs2 {ctx:L6}{t:List Nat}{b:Bool}(h:PB ctx.length (mkC ctx) b t) (hne:t≠[]):Q5 ctx.length (bJ ctx) t:=by
 have k1:(bJ ctx=.sp->(mkC ctx).length=2)/\(bJ ctx=.lb->mkC ctx=[91]):=by
  cases ctx with
  | nil=>exact ⟨fun q=>(nomatch q),fun q=>(nomatch q)⟩
  | cons x ctx =>
   obtain ⟨kd,p⟩:=x
   cases kd with
   | none=>exact ⟨fun q=>(nomatch q),fun zz=>rfl⟩
   | some c=>exact ⟨fun zz=>rfl,fun q=>(nomatch q)⟩
 exact ⟨hne,fun c hc=>⟨(h.all c hc).1,(h.all c hc).2.1,fun q=>(h.all c hc).2.2.1 (k1.1 q),fun q=>(h.all c hc).2.2.2.1 (k1.2 q),(h.all c hc).2.2.2.2⟩,h.pair⟩
theorem Cm7 (z:Int):∃ c,slice (slice [42,40,95,40,126,40] (some (z % 3 * 2)) none) none (some 2)=[c,40]/\[42,95,126].contains c=true:=by
 have h:z % 3=0∨z % 3=1∨z % 3=2:=by lia
 rcases h with h | h | h<;>rw [h]
 ·exact ⟨42,by decide,rfl⟩
 ·exact ⟨95,by decide,rfl⟩
 ·exact ⟨126,by decide,rfl⟩
noncomputable def Bh3 (k:Int):Nat:=((slice (slice [42,40,95,40,126,40] (some (k % 3 * 2)) none) none (some 2)).head?).getD 42
noncomputable def xT (cur:List T) (ctx:L6) (m9 k:Int):List T×L6 :=
 bif decide (m9<3)&&!isTx cur then (cur++[.txt (uQ k (1+N8 (k / 700)).toNat ctx.length (mkC ctx) (Ai8 cur))],ctx)
 else bif m9==4 then (cur++[.code (wordsF k (N8 (k / 500)) 96) true],ctx)
 else bif m9==5&&decide ((ctx.length:Int)<12) then ([],(some (Bh3 k),cur)::ctx)
 else bif (m9==6||m9==7)&&decide ((ctx.length:Int)<12) then ([],(none,cur)::ctx)
 else bif m9==8&&decide (0<(ctx.length:Int)) then (match ctx with
  | (kd,p)::ctx'=>(p++[Ai7 kd cur k true],ctx')
  | []=>(cur,[]))
 else (cur++[.kept [sg (k % 94)]],ctx)
noncomputable def xU (s:List T×L6) (c:Int):List T×L6:=xT s.1 s.2 (c * 48271 % 2147483647 % 9) (c * 48271 % 2147483647 / 9)
theorem Ce2 {n N:Nat}{as:List Nat}{cur:List T}{ctx:L6}{c:Int}{Q:C2}{H0 H:Heap}(h:BG H0 as cur ctx H N) (hN:N<=100000)
  (hQ:∀ as' cur' ctx' G,xU (cur,ctx) c=(cur',ctx')->BG H0 as' cur' ctx' G (N+80)->Q .none G):C1 P (n+4) "_law_put" [.ref (H0.length+1),.int c] Q H:=by
 have h1l:(100000:Nat)<I8:=by show 100000<16777216;decide
 obtain ⟨r,hr⟩:=dG (A0:=H0.length) h.st.lv.lens
 have hp:=h.st.pile.trans (congrArg some hr)
 have hel:(r++[ent (mkC ctx) (here H0.length as)]).length=ctx.length+1:=hr▸cC h.st.lv.lens
 obtain ⟨⟨l,g1,g2⟩,_,_⟩:=h.st.lv.head
 have hll:l.length<I8:=by rw [g2.len,S1];exact A9 (A3 h.many hN) h1l
 have hd12:=h.gx.deep
 have hpf:xU (cur,ctx) c=xT cur ctx (c * 48271 % 2147483647 % 9) (c * 48271 % 2147483647 / 9):=rfl
 have cat:∀ {t:T}{v:V},xU (cur,ctx) c=(cur++[t],ctx)->J0 H (enc t) H.length H.length v->L8 ctx.length (bJ ctx) (cur++[t])->Sg (rowT t)->(rowT t).length<=70->Q .none (H.set (here H0.length as) (l++[v])):=fun he hv hg h1 h2 =>
  hQ _ _ _ _ he (h.add (h.st.upd (g2.addT (A4 _) hv)) hg h1 h2)
 have hgd:=h.gx.good
 refine Ap8 (C6 (D6 (D6 (fun zz h=>h) C8 (iH (Or.inr (by decide)))) C8 (N1 (by decide))) ?_)
 generalize c * 48271 % 2147483647=m at hpf
 refine C6 (D6 (fun zz h=>h) C8 (N1 (by decide))) (C6 (D6 (fun zz h=>h) C8 (M0 (by decide))) (C6 (lT (D6 (K0 (fun zz h=>h) (J4 hp)) C8 nH) (v':=.int (ctx.length:Nat)) (congrArg V.int (by rw [hel];exact Int.add_sub_cancel (ctx.length:Int) 1))) (C6 (E4 (E4 (fun zz h=>h) (fun zz h=>h) (J8 hp)) (fun zz h=>h) (c:=.ref (here H0.length as)) rfl) ?_)))
 generalize m % 9=m9 at hpf
 generalize m / 9=k at hpf
 refine T1 (b:=decide (m9<3)&&!isTx cur) (E5 (C7 (fun zz h=>h) C8 X3) fun zz=>G8 (jM (Cr7 (fun zz h=>h) g1 g2))) (fun ht=>?_) (fun f1=>?_)
 ·have hn:fP cur:=Cp9 (by have:=(Bool.and_eq_true_iff.mp ht).2;revert this;cases isTx cur<;>decide)
  obtain ⟨sz,hsz,hsz3⟩:∃ sz:Nat,(1+N8 (k / 700)=(sz:Int)/\1<=sz/\sz<=50)/\(1+N8 (k / 700)).toNat=sz:=⟨_,⟨(uS (Int.le_add_of_nonneg_right (O5 _).1)).1,(uS (Int.le_add_of_nonneg_right (O5 _).1)).2,Int.toNat_le.mpr (Int.add_le_add_left (Int.le_of_lt_add_one (b:=49) (Int.lt_trans (O5 _).2 (by decide))) 1)⟩,rfl⟩
  refine C6 (lT (D6 C8 (D3 (C9 (D6 (fun zz h=>h) C8 (M0 (by decide))) K5) lZ) Q8) (congrArg V.int hsz.1)) (cA (a:=here H0.length as) (by exact fun zz h=>h) (C9 (by exact fun zz h=>h) (C9 (by exact fun zz h=>h) (C9 (v:=.str (mkC ctx)) (E4 (E4 (by exact fun zz h=>h) (by exact fun zz h=>h) (J8 hp)) C8 aL) (C9 (by exact fun zz h=>h) (C9 (D3 (C9 (by exact fun zz h=>h) K5) (Be2 g1 g2 hn)) K5))))) (Ao6 (n:=n+1) hsz.2 hd12 _ fun t het hpb hne hlen=>K2 g1 hll (cat (t:=.txt t) (by rw [hpf];unfold xT;rw [ht,hsz3,<- het];rfl) rfl (.txt hgd hn (Bs2 hpb hne) fun hb=>hpb.bar (Ay3 hb)) hpb.sg (A3 hlen (by decide)))))
 refine T1 (b:=m9==4) (C7 (fun zz h=>h) C8 U2) (fun t2=>?_) (fun f2=>?_)
 ·refine N4 (a:=here H0.length as) (by exact fun zz h=>h) (T2 (I5 (v:=.str [99,111,100,101]) (by exact fun zz h=>h) (P0 (C9 (by exact fun zz h=>h) (C9 (D3 (C9 (D6 (fun zz h=>h) C8 (M0 (by decide))) K5) lZ) (C9 (by exact fun zz h=>h) K5))) (gJ (n:=n+1) (by decide) (O5 _) _ (I5 (v:=.bool true) (by exact fun zz h=>h) (I1 ?_))))))
  obtain ⟨hg1,hg2,hg3⟩:=dF (k:=k) (m:=N8 (k / 500)) (x:=96) (by decide) (O5 _)
  have heq:xU (cur,ctx) c=(cur++[.code (wordsF k (N8 (k / 500)) 96) true],ctx):=by rw [hpf];unfold xT;rw [f1,t2];rfl
  generalize wordsF k (N8 (k / 500)) 96=g at hg1 hg2 hg3 heq
  refine K2 g1 hll (cat (t:=.code g true) heq (gN (A4 _)) (.code hgd hg2) (Sg.app (Sg.app (a:=[96]) (by unfold Sg;decide) hg1) (by unfold Sg;decide)) ?_)
  show ([96]++g++[96]).length<=70
  rw [A6,A6];exact A3 (B3 (Nat.add_le_add_left hg3 1)) (by decide)
 have deep:∀ {b:Bool},(b&&decide ((ctx.length:Int)<12))=true->ctx.length<12:=fun q=>by
  exact Int.ofNat_lt.mp (of_decide_eq_true (Bool.and_eq_true_iff.mp q).2)
 have hp2:∀ x,(H++[x])[H0.length+1]? = some (S4 H0.length as ctx):=fun x=>by
  rw [List.getElem?_append_left h.st.len];exact h.st.pile
 have hpl:(S4 H0.length as ctx).length<I8:=by rw [cC h.st.lv.lens];exact A9 (A3 (B3 hd12) (by decide)) h1l
 refine T1 (b:=m9==5&&decide ((ctx.length:Int)<12)) (E5 (C7 (fun zz h=>h) C8 U2) fun zz=>G8 (C7 (fun zz h=>h) C8 X3)) (fun ht=>?_) (fun f3=>?_)
 ·obtain ⟨c',hc1,hc2⟩:=Cm7 k
  have hmk:Bh3 k=c':=by unfold Bh3;rw [hc1];rfl
  exact N4 (a:=H0.length+1) (by exact fun zz h=>h) (T2 (I5 (v:=.str [c',40]) (Bi0 (Bh9 N0 (D6 (D6 (by exact fun zz h=>h) C8 (N1 (by decide))) C8 (iH (Or.inr (by decide)))) uF) C8 (congrArg (fun x=>some (V.str x,H)) hc1)) (Z2 (K2 (hp2 _) hpl (hQ _ _ _ _ (by rw [hpf];unfold xT;rw [f1,f2,ht,hmk];rfl) (h.open (kd:=some c') h.st.push (deep ht) fun c q=>Option.some.inj q▸hc2))))))
 refine T1 (b:=(m9==6||m9==7)&&decide ((ctx.length:Int)<12)) (E5 (R1 (C7 (fun zz h=>h) C8 U2) fun zz=>Y3 (C7 (fun zz h=>h) C8 U2)) fun zz=>G8 (C7 (fun zz h=>h) C8 X3)) (fun ht=>?_) (fun f4=>?_)
 ·exact N4 (a:=H0.length+1) (by exact fun zz h=>h) (T2 (I5 (v:=.str [91]) N0 (Z2 (K2 (hp2 _) hpl (hQ _ _ _ _ (by rw [hpf];unfold xT;rw [f1,f2,f3,ht];rfl) (h.open (kd:=none) h.st.push (deep ht) fun c q=>nomatch q))))))
 refine T1 (b:=m9==8&&decide (0<(ctx.length:Int))) (E5 (C7 (fun zz h=>h) C8 U2) fun zz=>G8 (C7 (fun zz h=>h) C8 T0)) (fun ht=>?_) (fun f5=>?_)
 ·have h0:0<ctx.length:=by
   exact Int.ofNat_lt.mp (of_decide_eq_true (Bool.and_eq_true_iff.mp ht).2)
  clear deep hp2 hpl cat
  obtain ⟨⟨kd,p⟩,ctx',rfl⟩:∃ x ctx',ctx=x::ctx':=by
   cases ctx with
   | nil=>exact absurd h0 (Nat.lt_irrefl _)
   | cons x ctx'=>exact ⟨x,ctx',rfl⟩
  obtain ⟨a,as',rfl,_⟩:=h.st.lv
  have hpl:p.length<=1000000:=by
   have h1:=h.gx.2.good.len
   have h2:=vT ctx' p
   have h3:=h.len
   replace h3:(rowC ctx' p++Y5 kd++rowTs cur).length<=N:=h3
   rw [A6,A6] at h3
   exact A3 (A3 h1 (A3 h2 (A3 (B4 _ _) (A3 (B4 _ _) h3)))) (A3 hN (by decide))
  exact K8 (C9 (by exact fun zz h=>h) (C9 (by exact fun zz h=>h) (C9 (by exact fun zz h=>h) K5))) (Bl3 (n:=n) h.st hpl fun t tail G he hs=>hQ _ _ _ _ (by rw [hpf,he.eq];unfold xT;rw [f1,f2,f3,f4,ht];rfl) (h.shut he hs))
 ·exact I0 (v:=yL [sg (k % 94)]) (by exact fun zz h=>h) (fI (C9 (by exact fun zz h=>h) (C9 (E4 (D3 (fun zz h=>h) zY) (D6 (fun zz h=>h) C8 (N1 (by decide))) (Cq1 (Cq0 _))) K5))) g1 hll (cat (t:=.kept [sg (k % 94)]) (by rw [hpf];unfold xT;rw [f1,f2,f3,f4,f5];rfl) (nZ (A4 _)) (.kept hgd) (Sg.app (a:=[92]) (by unfold Sg;decide) (.one (Bh0 _))) (by show 2<=70;decide))
noncomputable def exA:A->E
 | .n=>.none
 | .b t=>.bool t
 | .i z=>.int z
 | .s w=>.str w
mutual
noncomputable def exX:X->E
 | .at a=>exA a
 | .tup xs=>.tup (Bg1 xs)
 | .lst xs=>.list (Bg1 xs)
noncomputable def Bg1:List X->List E
 | []=>[]
 | x::xs=>exX x::Bg1 xs
end
theorem Co0 {C:Calls}{ρ:D7}{a:A}{H:Heap}:Ev C ρ H (exA a) (aV a):=by cases a<;>exact fun zz h=>h
mutual
theorem nM {C:Calls}{ρ:D7}:∀ (x:X) (Q:C2) (H:Heap),(∀ v G,E6 H G->J0 G x H.length G.length v->Q v G)->D9 C (exX x) ρ Q H
 | .at a,Q,H,h=>Co0 _ (h _ _ .refl .atom)
 | .tup xs,Q,H,h=>T2 (mI xs _ _ fun l G g r=>h _ _ g ⟨l,rfl,r⟩)
 | .lst xs,Q,H,h=>aJ (mI xs _ _ fun l G g r=>h _ _ (g.trans .one) (N9 ⟨g.len,by rw [L7];exact B1 _,A4 _,by rw [L7];exact B8 _⟩ E0 (r.to (L0.one (A4 _)))))
theorem mI {C:Calls}{ρ:D7}:∀ (xs:List X) (Q:List V->Heap->Prop) (H:Heap),(∀ l G,E6 H G->E8 G xs H.length G.length l->Q l G)->R7 C (Bg1 xs) ρ Q H
 | [],Q,H,h=>I1 (h _ _ .refl (.nil (A4 _)))
 | x::xs,Q,H,h=>M5 (nM x _ _ fun v G g r=>mI xs _ _ fun l G' g' r'=>h _ _ (g.trans g') (.cons g.len (r.to (g'.old.sub (B0 _) (A4 _))) r'))
end
theorem oB {C:Calls}{ρ:D7}{H:Heap}{e:E}{a lo:Nat}{l:List V}{xs:List X}(ys:List X) {Q:C2}(he:Ev C ρ H e (.ref a)) (ha:H[a]? = some l) (hr:E8 H xs lo H.length l) (hn:xs.length+ys.length<=100)
  (k:∀ a' l' G,E6 H G->G[a']? = some l'->E8 G (xs++ys) lo G.length l'->Q (.ref a') G):D9 C (.bin .add e (.list (Bg1 ys))) ρ Q H:=by
 have hlim:I8=16777216:=rfl
 refine rP (he _ (aJ (mI ys _ _ fun m G g r=>?_)))
 refine nC (J5 ((g.old a (B0 _) (List.getElem?_eq_some_iff.mp ha).1).trans ha)) E0 (by rw [hr.len,r.len];exact A3 hn (by show 100<=16777216;decide)) ?_
 refine k _ _ _ (g.trans bF) E0 ?_
 have e2:=yK (H:=G) (l:=m) (l':=l++m)
 have ge:L0 G (G++[m]++[l++m]) 0 G.length:=bF.old
 exact E8.app ((r.to (ge.sub (B0 _) (A4 _))).wide (A4 _) (by rw [e2];exact B4 _ _)) (hr.to ((g.old.sub (B0 _) (A4 _)).trans (ge.sub (B0 _) g.len)))
noncomputable def uR:List Nat->Bool
 | c::d::r=>!([42,95,126].contains c&&d==40)&&uR (d::r)
 | _=>true
theorem sR:∀ {s:List Nat},uR s=true->∀ a b c,s=a++c::40::b->[42,95,126].contains c=false
 | [],_,a,b,c,e=>absurd e (by simp)
 | [x],_,a,b,c,e=>absurd e (by intro q;have:=congrArg List.length q;simp at this;exact fkf (Nat.le_of_eq this.symm))
 | x::y::r,h,a,b,c,e=>by
  replace h:(!([42,95,126].contains x&&y==40)&&uR (y::r))=true:=h
  obtain ⟨h1,h2⟩:=Bool.and_eq_true_iff.mp h
  cases a with
  | nil =>
   have e1:x=c:=(List.cons.inj e).1
   have e2:y=40:=(List.cons.inj (List.cons.inj e).2).1
   subst e1;subst e2
   simpa using h1
  | cons z a=>exact sR h2 a b c (List.cons.inj e).2
noncomputable def pc (s:List Nat):Bool:=s != []&&s.all (fun c=>c != 92&&c != 96&&c != 41&&c != 93&&c != 91)&&uR s
theorem plainC {deep:Nat}{kd:Kd}{s:List Nat}(h:pc s=true):Q5 deep kd s:=by
 obtain ⟨h,h3⟩:=Bool.and_eq_true_iff.mp h
 obtain ⟨h1,h2⟩:=Bool.and_eq_true_iff.mp h
 refine ⟨by simpa using h1,fun c hc=>?_,fun zz=>sR h3⟩
 have:=List.all_eq_true.mp h2 c hc
 simp at this
 exact ⟨this.1.1.1.1,this.1.1.1.2,fun zz=>this.1.1.2,fun zz=>this.1.2,fun zz=>this.2⟩
theorem Bk4 {ts:List T}(h:Ai8 ts=false):¬ bT ts:=fun q=>by rw [Ay3 q] at h;cases h
theorem yM {deep:Nat}{kd:Kd}{ts:List T}{s:List Nat}(hg:L8 deep kd ts) (h:pc s=true) (h1:isTx ts=false) (h2:Ai8 ts=false):L8 deep kd (ts++[.txt s]) :=
 .txt hg (Cp9 h1) (plainC h) fun q=>absurd q (Bk4 h2)
theorem fN {deep:Nat}{kd:Kd}{s:List Nat}(h:pc s=true):L8 deep kd [.txt s]:=yM (ts:=[]) .nil h rfl rfl
noncomputable def iM:List (List T):=[[.txt [108,97,98,101,108]],[],[.txt [97],.kept [93],.txt [98,42]],[.span 95 [.txt [99],.code [93] true] true],
 [.txt [115,101,101,32],.link [.txt [100]] (some [101]) true,.txt [40,102]],[.link [.span 42 [.txt [103]] true] none true],
 [.kept [120],.span 126 [.link [.txt [104]] (some [105]) true] true,.txt [106]],[.link [.link [.txt [107]] (some [108]) true,.txt [109]] (some [110]) true]]
noncomputable def lbX (us:List T):X:=.lst (G9 us)
theorem Ae9 {d:Nat}(hd:d<=8):∀ us∈iM,L8 d .lb us:=by
 have no:∀ x y:Nat,y≠x->∀ s,some [y]=some s->∀ c∈s,c≠x:=fun x y h s q c hc=>by cases q;rw [List.mem_singleton.mp hc];exact h
 have l1:d<12:=A9 hd (by decide)
 have l2:d+1<12:=A9 (B3 hd) (by decide)
 intro us hu
 simp only [iM,List.mem_cons,List.not_mem_nil,_root_.or_false] at hu
 rcases hu with rfl | rfl | rfl | rfl | rfl | rfl | rfl | rfl
 ·exact fN rfl
 ·exact .nil
 ·exact yM (ts:=[.txt [97],.kept [93]]) (.kept (ts:=[.txt [97]]) (fN rfl)) rfl rfl rfl
 ·exact .span (ts:=[]) .nil l1 rfl (.code (ts:=[.txt [99]]) (fN rfl) (by decide))
 ·exact yM (ts:=[.txt [115,101,101,32],.link [.txt [100]] (some [101]) true]) (.link (ts:=[.txt [115,101,101,32]]) (fN rfl) l1 (no 41 101 (by decide)) (fN rfl)) rfl rfl rfl
 ·exact .link (ts:=[]) .nil l1 (fun s q=>nomatch q) (.span (ts:=[]) .nil l2 rfl (fN rfl))
 ·exact yM (ts:=[.kept [120],.span 126 [.link [.txt [104]] (some [105]) true] true]) (.span (ts:=[.kept [120]]) (.kept (ts:=[]) .nil) l1 rfl (.link (ts:=[]) .nil l2 (no 41 105 (by decide)) (fN rfl))) rfl rfl rfl
 ·exact .link (ts:=[]) .nil l1 (no 41 110 (by decide)) (yM (ts:=[.link [.txt [107]] (some [108]) true]) (.link (ts:=[]) .nil l2 (no 41 108 (by decide)) (fN rfl)) rfl rfl rfl)
noncomputable def Ch6 (s:List Nat):Bool:=s.all mL&&decide (s.length<=60)
theorem gM {s:List Nat}(h:Ch6 s=true):Sg s/\s.length<=60:=⟨fun c hc=>List.all_eq_true.mp (Bool.and_eq_true_iff.mp h).1 c hc,of_decide_eq_true (Bool.and_eq_true_iff.mp h).2⟩
theorem pK:(iM.all fun us=>Ch6 (rowTs us))=true:=by rfl
structure LbT (d:Nat) (us:List T):Prop where
 good:L8 d .lb us
 sg:Sg (rowTs us)
 len:(rowTs us).length<=60
theorem Bd5 {d:Nat}(hd:d<=8) {us:List T}(h:us∈iM):LbT d us :=
 ⟨Ae9 hd us h,(gM (List.all_eq_true.mp pK us h)).1,(gM (List.all_eq_true.mp pK us h)).2⟩
noncomputable def uV (k:Int) (d:Nat):List T:=bif decide (8<(d:Int)) then [.txt [108,97,98,101,108]] else (iM[(k % 8).toNat]?).getD []
theorem Bt0 {n:Nat}{k:Int}{d:Nat}{Q:C2}{H:Heap}(h:∀ us v G,us=uV k d->LbT d us->E6 H G->J0 G (.lst (G9 us)) H.length G.length v->Q v G):C1 P (n+1) "_law_label" [.int k,.int (d:Nat)] Q H:=by
 refine wX (T1 (C7 (by exact fun zz h=>h) C8 T0) (fun hd=>?_) (fun hd=>?_))
 ·exact U1 (nM (lbX [.txt [108,97,98,101,108]]) _ _ fun v G g r=>h _ v G (by unfold uV;rw [hd];rfl) ⟨fN rfl,(gM rfl).1,(gM rfl).2⟩ g r)
 have hd8:d<=8:=by
  have:=of_decide_eq_false hd
  exact Int.ofNat_le.mp (Int.not_lt.mp this)
 refine nB (fW (P2 (nM (.lst [lbX [.txt [108,97,98,101,108]],lbX [],lbX [.txt [97],.kept [93],.txt [98,42]],lbX [.span 95 [.txt [99],.code [93] true] true]]) _ _ fun v G g r=>?_)))
 obtain ⟨a,l,p,q,rfl,hb,ha,hr⟩:=r
 refine P2 (oB [lbX [.txt [115,101,101,32],.link [.txt [100]] (some [101]) true,.txt [40,102]],lbX [.link [.span 42 [.txt [103]] true] none true]] (by exact fun zz h=>h) ha (hr.wide hb.lp hb.qh) (by decide) fun a1 l1 G1 g1 ha1 hr1=>?_)
 refine P2 (oB [lbX [.kept [120],.span 126 [.link [.txt [104]] (some [105]) true] true,.txt [106]]] (by exact fun zz h=>h) ha1 hr1 (by decide) fun a2 l2 G2 g2 ha2 hr2=>?_)
 refine U1 (yC (oB [lbX [.link [.link [.txt [107]] (some [108]) true,.txt [109]] (some [110]) true]] (by exact fun zz h=>h) ha2 hr2 (by decide) fun a3 l3 G3 g3 ha3 hr3=>?_))
 have hl3:l3.length=8:=hr3.len
 obtain ⟨j,hj⟩:=Int.eq_ofNat_of_zero_le (Int.emod_nonneg k (by decide:(8:Int)≠0))
 have hj8:j<l3.length:=by rw [hl3];exact Int.ofNat_lt.mp (hj▸Int.emod_lt_of_pos _ (by decide))
 have hv:l3[j]? = some l3[j]:=List.getElem?_eq_getElem hj8
 refine lT (D6 (by exact fun zz h=>h) C8 (N1 (by decide))) (congrArg V.int hj) _ ?_
 obtain ⟨x,hx,hrx⟩:=Ai6 hr3 hv
 have hx':(iM.map lbX)[j]? = some x:=hx
 rw [C0] at hx'
 obtain ⟨us,hu,rfl⟩:=Option.map_eq_some_iff.mp hx'
 refine Bi1 ha3 hv ?_
 exact h us _ G3 (by unfold uV;rw [hd,hj,Int.toNat_natCast,hu];rfl) (Bd5 hd8 (B9 hu)) (((g.trans g1).trans g2).trans g3) hrx
noncomputable def UX:L6->Prop
 | []=>True
 | (kd,p)::ctx=>ctx.length<12/\(∀ c,kd=some c->[42,95,126].contains c=true)/\GX p ctx
theorem GX.ux {cur:List T}:∀ {ctx:L6},GX cur ctx->UX ctx
 | [],_=>trivial
 | (kd,p)::ctx,h=>⟨h.1.2.1,h.1.2.2,h.2⟩
theorem Ax6 {kd:Option Nat}{p:List T}{ctx:L6}:bJ ((kd,p)::ctx)=kdO kd:=by cases kd<;>rfl
structure BO (H0:Heap) (as:List Nat) (cur:List T) (ctx:L6) (clo:Bool) (N:Nat) (H:Heap):Prop where
 st:jL H0 as cur ctx H
 op:qP ctx.length (bJ ctx) cur
 gd:clo=true->L8 ctx.length (bJ ctx) cur
 up:UX ctx
 sg:Sg (rowC ctx cur)
 len:(rowC ctx cur).length<=N
theorem BG.last {H0 as cur ctx H N}{t:T}{G:Heap}(h:BG H0 as cur ctx H N) (hs:jL H0 as (cur++[t]) ctx G) (hg:qP ctx.length (bJ ctx) (cur++[t])) (h1:Sg (rowT t)) (h2:(rowT t).length<=130):BO H0 as (cur++[t]) ctx false (N+130) G:=by
 refine ⟨hs,hg,(fun q=>nomatch q),h.gx.ux,?_,?_⟩
 ·rw [Z3,H7];exact h.sg.app h1
 ·rw [Z3,H7,A6];exact Nat.add_le_add h.len h2
theorem Bu7 {deep:Nat}{k:Kd}{kd:Option Nat}{ts us:List T}{t:T}{tail:List Nat}{z:Int}(h:Az6 kd us z false t tail) (hd:deep<12) (hk:∀ c,kd=some c->[42,95,126].contains c=true) (hg:L8 deep k ts) (hu:qP (deep+1) (kdO kd) us):qP deep k (ts++[t]):=by
 rcases h.form with ⟨c,rfl,rfl⟩ | ⟨rfl,rfl | ⟨q,_⟩⟩
 ·exact .span hg hd (hk c rfl) hu
 ·exact .bare hg hd hu
 ·cases q
theorem BO.shut {H0 a as cur kd p ctx clo clo' N H}{t:T}{tail:List Nat}{z:Int}{G:Heap}(h:BO H0 (a::as) cur ((kd,p)::ctx) clo N H) (hc:clo'=true->clo=true) (he:Az6 kd cur z clo' t tail) (hs:jL H0 as (p++[t]) ctx G):BO H0 as (p++[t]) ctx clo' (N+54) G:=by
 obtain ⟨h1,h2,h3⟩:=h.up
 have e:rowC ctx (p++[t])=rowC ((kd,p)::ctx) cur++tail:=by
  rw [Z3,H7,he.row]
  show _=rowC ctx p++Y5 kd++rowTs cur++tail
  simp only [A7]
 have hop:=h.op
 rw [Ax6] at hop
 have hgd:=h.gd
 rw [Ax6] at hgd
 have gd:clo'=true->L8 ctx.length (bJ ctx) (p++[t]):=fun q=>by
  subst q
  exact Ab8 he h1 h2 h3.good (hgd (hc rfl))
 refine ⟨hs,?_,gd,h3.ux,?_,?_⟩
 ·cases clo' with
  | true=>exact .good (gd rfl)
  | false=>exact Bu7 he h1 h2 h3.good hop
 ·rw [e];exact h.sg.app he.sg
 ·rw [e,A6];have:=h.len;have:=he.len;lia
structure PD (H0:Heap) (ts:List T) (G:Heap):Prop where
 op:qP 0 .top ts
 sg:Sg (rowTs ts)
 len:(rowTs ts).length<=6000
 gr:E6 H0 G
 rep:J0 G (.lst (G9 ts)) H0.length G.length (.ref H0.length)
theorem BO.done {H0 as cur clo N H}(h:BO H0 as cur [] clo N H) (hN:N<=6000):PD H0 cur H:=by
 obtain ⟨l,h1,h2⟩:=h.st.lv.2
 have hle:=h2.le
 exact ⟨h.op,h.sg,A3 h.len hN,⟨A3 (B4 _ _) hle,h.st.old⟩,N9 ⟨A4 _,A8 (Nat.lt_add_of_pos_right (by decide)) hle,B4 _ _,A4 _⟩ h1 h2⟩
noncomputable def closeF (k:Int) (clo:Bool) (cur:List T):L6->List T
 | []=>cur
 | (kd,p)::ctx=>closeF (k / 4) (bif k % 4==0 then false else clo) (p++[Ai7 kd cur (k / 4) (bif k % 4==0 then false else clo)]) ctx
noncomputable def bE (last:Int) (cur:List T) (ctx:L6):List T :=
 bif last % 7==0 then cur++[.kept []]
 else bif last % 7==1 then cur++[.code (wordsF (last / 7) (N8 (last / 7)) 96) false]
 else bif last % 7==2&&decide (((ctx.length+1:Nat):Int)<13) then cur++[.link (uV (last / 21) (ctx.length+1)) (some (wordsF (last / 7) (N8 (last / 7)) 41)) false]
 else cur
noncomputable def Ak8 (cells:List Int) (last:Int):List T :=
 closeF (last / 7) (decide (2<last % 7)) (bE last (cells.foldl xU ([],[])).1 (cells.foldl xU ([],[])).2) (cells.foldl xU ([],[])).2
structure CZ where
 k:Int
 clo:Bool
 as:List Nat
 cur:List T
 ctx:L6
theorem Aq7 {n N:Nat}{x0 x3 x5 x6 x7:Option V}{k:Int}{clo:Bool}{as:List Nat}{cur:List T}{ctx:L6}{Q:C2}{H0 H:Heap}(h:BO H0 as cur ctx clo N H) (hN:N+54 * ctx.length<=6000) (hQ:∀ G,PD H0 (closeF k clo cur ctx) G->Q (.ref H0.length) G) :
  C4 (C1 P (n+4)) (O8.drop 9) [x0,some (.int k),some (.ref (H0.length+1)),x3,some (.bool clo),x5,x6,x7] (D8 Q) H:=by
 refine I3 (mR (σ:=CZ) (fun z=>[x0,some (.int z.k),some (.ref (H0.length+1)),x3,some (.bool z.clo),x5,x6,x7]) (fun z G=>∃ N,BO H0 z.as z.cur z.ctx z.clo N G/\N+54 * z.ctx.length<=6000/\closeF z.k z.clo z.cur z.ctx=closeF k clo cur ctx) (fun z=>z.ctx.length) (fun z G hI K hK=>?_) ⟨k,clo,as,cur,ctx⟩ ⟨N,h,hN,rfl⟩)
 clear h hN
 generalize closeF k clo cur ctx=R at hQ hI hK
 clear k clo as cur ctx
 obtain ⟨k,clo,as,cur,ctx⟩:=z
 obtain ⟨N,h,hN,hR⟩:=hI
 replace hR:closeF k clo cur ctx=R:=hR
 obtain ⟨r,hr⟩:=dG (A0:=H0.length) h.st.lv.lens
 have hpl:=cC (A0:=H0.length) h.st.lv.lens
 have ev:∀ {C:Calls}{x:Option V}{k':Option V},Ev C [x0,k',some (.ref (H0.length+1)),x3,x,x5,x6,x7] G (.cmp .gt (.len (.var 2)) (.int 1)) (.bool (decide ((1:Int)<((ctx.length+1:Nat):Int)))):=J6 (C7 (K0 (fun zz h=>h) (J4 h.st.pile)) C8 T0) (by rw [hpl])
 cases ctx with
 | nil =>
  refine .stop (ev) ?_
  exact I6 (E4 (E4 (fun zz h=>h) C8 (S3 (i:=0) (c:=ent [] H0.length) (h.st.pile.trans (by obtain ⟨e,_⟩:=h.st.lv;rw [show as=[] from e])) rfl)) C8 (c:=.ref H0.length) rfl) (hQ _ (hR▸h.done (by exact M4 hN)))
 | cons x ctx =>
  obtain ⟨kd,p⟩:=x
  refine .go (J6 ev (decide_eq_true (Int.ofNat_lt.mpr (Nat.succ_lt_succ (Nat.succ_pos _))))) ?_
  obtain ⟨a,as',e,_⟩:=h.st.lv
  replace e:as=a::as':=e
  subst e
  have hpp:p.length<=1000000:=by
   have h1:=h.up.2.2.good.len
   have h2:=vT ctx p
   have h3:=h.len
   replace h3:(rowC ctx p++Y5 kd++rowTs cur).length<=N:=h3
   rw [A6,A6] at h3
   exact A3 (A3 h1 (A3 h2 (A3 (B4 _ _) (A3 (B4 _ _) h3)))) (A3 (A3 (B4 _ _) hN) (by decide))
  have fin:∀ clo',(bif k % 4==0 then false else clo)=clo'->(clo'=true->clo=true)->C4 (C1 P (n+4)) [.expr (.call "_law_end" [.var 2,.bin .fdiv (.var 1) (.int 4),.var 4]),.assign 1 (.bin .fdiv (.var 1) (.int 4))] [x0,some (.int k),some (.ref (H0.length+1)),x3,some (.bool clo'),x5,x6,x7] (dO (K6 (C1 P (n+4)) [.ret (.idx (.idx (.var 2) (.int 0)) (.int 1))] (D8 Q)) K) G:=fun clo' hcl hc=>by
   refine K8 (C9 (by exact fun zz h=>h) (C9 (D6 (by exact fun zz h=>h) C8 (M0 (by decide))) (C9 (by exact fun zz h=>h) K5))) (Bl3 (n:=n+1) h.st hpp fun t tail G' he hs=>C6 (D6 (by exact fun zz h=>h) C8 (M0 (by decide))) (hK ⟨k / 4,clo',as',p++[t],ctx⟩ G' (B1 _) ⟨N+54,h.shut hc he hs,?_,?_⟩))
   rotate_left
   ·rw [<- hR]
    show closeF (k / 4) clo' (p++[t]) ctx=closeF (k / 4) (bif k % 4==0 then false else clo) (p++[Ai7 kd cur (k / 4) (bif k % 4==0 then false else clo)]) ctx
    rw [hcl,he.eq]
   replace hN:N+54 * (ctx.length+1)<=6000:=hN
   show N+54+54 * ctx.length<=6000
   rw [Nat.add_assoc,Nat.add_comm 54];exact hN
  refine T1 (C7 (D6 (by exact fun zz h=>h) C8 (N1 (by decide))) C8 U2) (fun hq=>?_) (fun hq=>?_)
  ·exact C6 (by exact fun zz h=>h) (fin false (by rw [hq];rfl) fun q=>nomatch q)
  ·exact fin clo (by rw [hq];rfl) id
theorem Ao7 {n N:Nat}{last:Int}{as:List Nat}{cur:List T}{ctx:L6}{Q:C2}{H0 H:Heap}{x0 x3:Option V}(h:BG H0 as cur ctx H N) (hN:N<=5060) (hQ:∀ G,PD H0 (closeF (last / 7) (decide (2<last % 7)) (bE last cur ctx) ctx) G->Q (.ref H0.length) G) :
  C4 (C1 P (n+4)) (O8.drop 2) [x0,some (.int last),some (.ref (H0.length+1)),x3,none,none,none,none] (D8 Q) H:=by
 obtain ⟨r,hr⟩:=dG (A0:=H0.length) h.st.lv.lens
 have hp:=h.st.pile.trans (congrArg some hr)
 have hpl:=cC (A0:=H0.length) h.st.lv.lens
 obtain ⟨⟨l,g1,g2⟩,_,_⟩:=h.st.lv.head
 have hll:l.length<I8:=by rw [g2.len,S1];exact A9 (A3 h.many hN) (by show 5060<16777216;decide)
 have h12:=h.gx.deep
 have rest:∀ {cur' clo G x5 x6 x7},bE last cur ctx=cur'->decide (2<last % 7)=clo->BO H0 as cur' ctx clo (N+130) G->C4 (C1 P (n+4)) (O8.drop 8) [x0,some (.int last),some (.ref (H0.length+1)),x3,some (.bool clo),x5,x6,x7] (D8 Q) G:=fun e1 e2 h1 =>
  C6 (D6 (by exact fun zz h=>h) C8 (M0 (by decide))) (Aq7 (n:=n) h1 (A3 (Nat.add_le_add (Nat.add_le_add_right hN 130) (Nat.mul_le_mul_left 54 h12)) (by decide)) fun G' hG=>hQ G' (by rw [e1,e2];exact hG))
 have rest0:∀ {clo x5 x6 x7},bE last cur ctx=cur->decide (2<last % 7)=clo->C4 (C1 P (n+4)) (O8.drop 8) [x0,some (.int last),some (.ref (H0.length+1)),x3,some (.bool clo),x5,x6,x7] (D8 Q) H:=fun e1 e2=>rest e1 e2 ⟨h.st,.good h.gx.good,fun zz=>h.gx.good,h.gx.ux,h.sg,A3 h.len (B4 _ _)⟩
 have cat:∀ {t:T}{v:V}{G:Heap}{x5 x6 x7},bE last cur ctx=cur++[t]->decide (2<last % 7)=false->E6 H G->J0 G (enc t) H.length G.length v->qP ctx.length (bJ ctx) (cur++[t])->Sg (rowT t)->(rowT t).length<=130->C4 (C1 P (n+4)) (O8.drop 8) [x0,some (.int last),some (.ref (H0.length+1)),x3,some (.bool false),x5,x6,x7] (D8 Q) (G.set (here H0.length as) (l++[v])):=fun {t v G x5 x6 x7} e1 e2 g hv ho k1 k2 =>
  rest e1 e2 (h.last ((h.st.grow g).upd ((g2.to (g.old.sub (B0 _) (A4 _))).addT g.len hv)) ho k1 k2)
 refine C6 (C7 (D6 (by exact fun zz h=>h) C8 (N1 (by decide))) C8 T0) (C6 (E4 (E4 (fun zz h=>h) (fun zz h=>h) (J8 hp)) (fun zz h=>h) (c:=.ref (here H0.length as)) rfl) (C6 (D3 (C9 (D6 (by exact fun zz h=>h) C8 (M0 (by decide))) K5) lZ) ?_))
 have ev:∀ {C:Calls}{x4 x5 x6 x7:Option V}{z:Int}{G:Heap},Ev C [x0,some (.int last),some (.ref (H0.length+1)),x3,x4,x5,x6,x7] G (.cmp .eq (.bin .mod (.var 1) (.int 7)) (.int z)) (.bool (last % 7==z)):=C7 (D6 (by exact fun zz h=>h) C8 (N1 (by decide))) C8 U2
 have cs:last % 7=0∨last % 7=1∨last % 7=2∨2<last % 7:=by lia
 rcases cs with e | e | e | e
 ·rw [e] at ev ⊢
  refine D5 ev (I0 (v:=yL []) (by exact fun zz h=>h) (by exact fun zz h=>h) g1 hll ?_)
  exact C3 ev (C3 (bS ev) (cat (by unfold bE;rw [e];rfl) (by rw [e];rfl) .refl (nZ (A4 _)) (.kept h.gx.good) (by unfold Sg;decide) (by decide)))
 ·rw [e] at ev ⊢
  refine C3 ev (D5 ev (N4 (a:=here H0.length as) (by exact fun zz h=>h) (T2 (I5 (v:=.str [99,111,100,101]) (by exact fun zz h=>h) (P0 (C9 (D6 (by exact fun zz h=>h) C8 (M0 (by decide))) (C9 (by exact fun zz h=>h) (C9 (by exact fun zz h=>h) K5))) (gJ (n:=n+2) (by decide) (O5 _) _ (I5 (v:=.bool false) (by exact fun zz h=>h) (I1 ?_))))))))
  obtain ⟨hg1,hg2,hg3⟩:=dF (k:=last / 7) (m:=N8 (last / 7)) (x:=96) (by decide) (O5 _)
  have heq:bE last cur ctx=cur++[.code (wordsF (last / 7) (N8 (last / 7)) 96) false]:=by unfold bE;rw [e];rfl
  generalize wordsF (last / 7) (N8 (last / 7)) 96=g at hg1 hg2 hg3 heq
  refine K2 g1 hll (C3 (bS ev) (cat (t:=.code g false) heq (by rw [e];rfl) .refl (gN (A4 _)) (.code h.gx.good hg2) (Sg.app (Sg.app (a:=[96]) (by unfold Sg;decide) hg1) (b:=[]) fun c q=>nomatch q) ?_))
  show ([96]++g++[]).length<=130
  rw [List.append_nil,A6];exact A3 (Nat.add_le_add_left hg3 1) (by decide)
 ·rw [e] at ev ⊢
  have ev2:∀ {C:Calls}{x4 x5 x6 x7:Option V},Ev C [x0,some (.int last),some (.ref (H0.length+1)),x3,x4,x5,x6,x7] H (.len (.var 2)) (.int ((ctx.length+1:Nat):Int)):=lT (K0 (by exact fun zz h=>h) (J4 h.st.pile)) (congrArg (fun x:Nat=>V.int x) hpl)
  refine C3 ev (C3 ev (T1 (iI ev (G8 (C7 ev2 C8 X3))) (fun hq=>?_) (fun hq=>rest0 (by unfold bE;rw [e,hq];rfl) (congrArg (fun x:Int=>decide (2<x)) e))))
  have hd:ctx.length<12:=by
   exact Nat.lt_of_succ_lt_succ (Int.ofNat_lt.mp (of_decide_eq_true hq))
  refine bZ (C9 (D6 (by exact fun zz h=>h) C8 (M0 (by decide))) (C9 ev2 K5)) (Bt0 (n:=n+3) fun us v G hus hl g hv=>?_)
  obtain ⟨b,lb,p,q,rfl,hb,hlb,hrb⟩:=hv
  refine N4 (a:=here H0.length as) (by exact fun zz h=>h) (T2 (I5 (v:=.str [108,105,110,107]) (by exact fun zz h=>h) (I5 (v:=.ref b) (by exact fun zz h=>h) (P0 (C9 (D6 (by exact fun zz h=>h) C8 (M0 (by decide))) (C9 (by exact fun zz h=>h) (C9 (by exact fun zz h=>h) K5))) (gJ (n:=n+2) (by decide) (O5 _) _ (I5 (v:=.bool false) (by exact fun zz h=>h) (I1 ?_)))))))
  obtain ⟨hg1,hg2,hg3⟩:=dF (k:=last / 7) (m:=N8 (last / 7)) (x:=41) (by decide) (O5 _)
  have heq:bE last cur ctx=cur++[.link us (some (wordsF (last / 7) (N8 (last / 7)) 41)) false]:=by unfold bE;rw [e,hq,hus];rfl
  generalize wordsF (last / 7) (N8 (last / 7)) 41=w at hg1 hg2 hg3 heq
  refine K2 (g.get g1) hll (cat (t:=.link us (some w) false) heq (by rw [e];rfl) g (nY hb hlb hrb) (.link h.gx.good hd hg2 hl.good) ?_ ?_)
  ·show Sg ([91]++rowTs us++[93,40]++w++[])
   exact (((Sg.app (a:=[91]) (by unfold Sg;decide) hl.sg).app (by unfold Sg;decide)).app hg1).app fun c q=>nomatch q
  ·show ([91]++rowTs us++[93,40]++w++[]).length<=130
   rw [List.append_nil,A6,A6,A6]
   exact A3 (Nat.add_le_add (Nat.add_le_add_right (Nat.add_le_add_left hl.len 1) 2) hg3) (by decide)
 ·have f0:(last % 7==0)=false:=beq_eq_false_iff_ne.mpr fun q=>by rw [q] at e;exact absurd e (by decide)
  have f1:(last % 7==1)=false:=beq_eq_false_iff_ne.mpr fun q=>by rw [q] at e;exact absurd e (by decide)
  have f2:(last % 7==2)=false:=beq_eq_false_iff_ne.mpr fun q=>by rw [q] at e;exact absurd e (by decide)
  exact C3 (J6 ev f0) (C3 (J6 ev f1) (C3 (bS (J6 ev f2)) (rest0 (by unfold bE;rw [f0,f1,f2];rfl) rfl)))
structure PQ1 where
 as:List Nat
 cur:List T
 ctx:L6
 x:Option V
theorem jL.start {H:Heap}:jL H [] [] [] (H++[[]]++[[ent [] H.length]]):=by
 have e2:=yK (H:=H) (l:=[]) (l':=[ent [] H.length])
 refine ⟨Nat.le_of_eq e2.symm,bF.old,?_,rfl,[],J5 E0,.nil (Nat.le_of_eq e2.symm)⟩
 have:(H++[[]]).length=H.length+1:=L7
 rw [<- this];exact E0
theorem Ae8 {n c:Nat}{last:Int}{cells:List Int}{l:List V}{Q:C2}{H:Heap}(hc:H[c]? = some l) (hl:l.length<=63) (hi:l=cells.map V.int) (hQ:∀ G,PD H (Ak8 cells last) G->Q (.ref H.length) G):C1 P (n+5) "_law_parts" [.ref c,.int last] Q H:=by
 have hcl:c<H.length:=(List.getElem?_eq_some_iff.mp hc).1
 refine wW (J9 (v:=.ref (H.length+1)) (H1:=H++[[]]++[[ent [] H.length]]) (fun Q q=>?_) (I3 (V2 (σ:=PQ1) (fun z=>[some (.ref c),some (.int last),some (.ref (H.length+1)),z.x,none,none,none,none]) (fun i z G=>BG H z.as z.cur z.ctx G (80 * i)/\(z.cur,z.ctx)=(cells.take i).foldl xU ([],[])) (a:=c) (l:=l) (fun i z G h=>(h.1.st.old c (B0 _) hcl).trans hc) (fun i z G v hv hI K hK=>?_) (fun z G hI=>?_) ⟨[],[],[],none⟩ (by exact fun zz h=>h) ?_)))
 ·have e1:(H++[[]]).length=H.length+1:=L7
  rw [<- e1] at q
  exact q
 ·obtain ⟨hI,hE⟩:=hI
  have hv0:=hv
  rw [hi,C0] at hv0
  obtain ⟨z',hz',rfl⟩:=Option.map_eq_some_iff.mp hv0
  have hi40:i<l.length:=(List.getElem?_eq_some_iff.mp hv).1
  exact K8 (C9 (by exact fun zz h=>h) (C9 (by exact fun zz h=>h) K5)) (Ce2 (n:=n) hI (by lia) fun as' cur' ctx' G' he h'=>hK ⟨as',cur',ctx',_⟩ G' ⟨⟨h'.st,h'.gx,h'.sg,A3 h'.len (by exact fkz)⟩,by rw [List.take_add_one,hz',List.foldl_append,<- hE];exact he.symm⟩)
 ·obtain ⟨hI,hE⟩:=hI
  have hl2:l.length=cells.length:=by rw [hi,B6]
  rw [hl2,List.take_length] at hE
  refine Ao7 (n:=n) hI (by lia) fun G' hG=>hQ G' ?_
  unfold Ak8
  rw [<- hE]
  exact hG
 ·exact ⟨⟨.start,.nil,(fun c q=>nomatch q),B0 _⟩,rfl⟩
inductive En where
 | leaf (x:X) (v:V) (p q:Nat)
 | sub (xs:List X) (vs:List V) (p q a:Nat) (es:List En)
mutual
noncomputable def enX:En->X
 | .leaf x _ _ _=>x
 | .sub xs _ _ _ _ es=>.tup (xs++[.lst (dM es)])
noncomputable def dM:List En->List X
 | []=>[]
 | e::es=>enX e::dM es
end
noncomputable def jJ:En->V
 | .leaf _ v _ _=>v
 | .sub _ vs _ _ a _=>.tup (vs++[.ref a])
mutual
noncomputable def fpr:En->Nat->Prop
 | .leaf _ _ p q,i=>p<=i/\i<q
 | .sub _ _ p q a es,i=>(p<=i/\i<q)∨i=a∨Y1 es i
noncomputable def Y1:List En->Nat->Prop
 | [],_=>False
 | e::es,i=>fpr e i∨Y1 es i
end
mutual
noncomputable def Ok (H:Heap):En->Nat->Nat->Prop
 | .leaf x v p q,lo,hi=>(lo<=p/\p<=q/\q<=hi)/\J0 H x p q v
 | .sub xs vs p q a es,lo,hi=>(lo<=p/\E8 H xs p q vs)/\(q<=a/\a<hi/\¬ Y1 es a/\H[a]? = some (es.map jJ))/\bK H es q hi
noncomputable def bK (H:Heap):List En->Nat->Nat->Prop
 | [],lo,hi=>lo<=hi
 | e::es,lo,hi=>∃ m,Ok H e lo m/\bK H es m hi
end
noncomputable def Nd (H:Heap) (q hi a:Nat) (es:List En):Prop:=(q<=a/\a<hi/\¬ Y1 es a/\H[a]? = some (es.map jJ))/\bK H es q hi
mutual
theorem Ok.le {H:Heap}:∀ {e:En}{lo hi:Nat},Ok H e lo hi->lo<=hi
 | .leaf _ _ _ _,_,_,h=>A3 h.1.1 (A3 h.1.2.1 h.1.2.2)
 | .sub _ _ _ _ _ _,_,_,h=>A3 h.1.1 (A3 h.1.2.le (A3 h.2.1.1 (B5 h.2.1.2.1)))
theorem bK.le {H:Heap}:∀ {es:List En}{lo hi:Nat},bK H es lo hi->lo<=hi
 | [],_,_,h=>h
 | e::es,_,_,h=>by
  obtain ⟨m,h1,h2⟩:=h
  exact A3 (Ok.le h1) (bK.le (es:=es) h2)
end
mutual
theorem Ok.mono {H G:Heap}:∀ {e:En}{lo hi lo' hi':Nat},Ok H e lo hi->(∀ i,fpr e i->G[i]? = H[i]?)->lo'<=lo->hi<=hi'->Ok G e lo' hi'
 | .leaf _ _ _ _,_,_,_,_,h,k,h1,h2=>⟨⟨A3 h1 h.1.1,h.1.2.1,A3 h.1.2.2 h2⟩,h.2.to fun x a b=>k x ⟨a,b⟩⟩
 | .sub _ _ _ _ a es,_,_,_,_,h,k,h1,h2=>⟨⟨A3 h1 h.1.1,h.1.2.to fun x a b=>k x (Or.inl ⟨a,b⟩)⟩,⟨h.2.1.1,A8 h.2.1.2.1 h2,h.2.1.2.2.1,(k a (Or.inr (Or.inl rfl))).trans h.2.1.2.2.2⟩,bK.mono (es:=es) h.2.2 (fun i q=>k i (Or.inr (Or.inr q))) (A4 _) h2⟩
theorem bK.mono {H G:Heap}:∀ {es:List En}{lo hi lo' hi':Nat},bK H es lo hi->(∀ i,Y1 es i->G[i]? = H[i]?)->lo'<=lo->hi<=hi'->bK G es lo' hi'
 | [],_,_,_,_,h,_,h1,h2=>A3 h1 (A3 h h2)
 | e::es,_,_,_,_,h,k,h1,h2=>by
  obtain ⟨m,q1,q2⟩:=h
  exact ⟨m,Ok.mono q1 (fun i q=>k i (Or.inl q)) h1 (A4 _),bK.mono (es:=es) q2 (fun i q=>k i (Or.inr q)) (A4 _) h2⟩
end
mutual
theorem Ok.foot {H:Heap}:∀ {e:En}{lo hi i:Nat},Ok H e lo hi->fpr e i->lo<=i/\i<hi
 | .leaf _ _ _ _,_,_,_,h,k=>⟨A3 h.1.1 k.1,A8 k.2 h.1.2.2⟩
 | .sub _ _ p q a es,lo,hi,i,h,k=>by
  have h1:lo<=q:=A3 h.1.1 h.1.2.le
  have h3:=h.2.1.2.1
  rcases k with k | k | k
  ·exact ⟨A3 h.1.1 k.1,Nat.lt_trans (A8 k.2 h.2.1.1) h3⟩
  ·rw [k];exact ⟨A3 h1 h.2.1.1,h3⟩
  ·have:=bK.foot (es:=es) h.2.2 k
   exact ⟨A3 h1 this.1,this.2⟩
theorem bK.foot {H:Heap}:∀ {es:List En}{lo hi i:Nat},bK H es lo hi->Y1 es i->lo<=i/\i<hi
 | [],_,_,_,_,k=>k.elim
 | e::es,_,_,_,h,k=>by
  obtain ⟨m,q1,q2⟩:=h
  rcases k with k | k
  ·have:=Ok.foot q1 k
   exact ⟨this.1,A8 this.2 (bK.le q2)⟩
  ·have:=bK.foot (es:=es) q2 k
   exact ⟨A3 (Ok.le q1) this.1,this.2⟩
end
theorem bK.app {H:Heap}{fs:List En}{m hi:Nat}(k:bK H fs m hi):∀ {es:List En}{lo:Nat},bK H es lo m->bK H (es++fs) lo hi
 | [],lo,h=>k.mono (fun zz zz=>rfl) h (A4 _)
 | e::es,lo,h=>by
  obtain ⟨m',q1,q2⟩:=h
  exact ⟨m',q1,bK.app k q2⟩
theorem bK.one {H:Heap}{e:En}{lo hi:Nat}(h:Ok H e lo hi):bK H [e] lo hi:=⟨hi,h,A4 _⟩
theorem bK.cut {H:Heap}{e:En}{hi:Nat}:∀ {es:List En}{lo:Nat},bK H (es++[e]) lo hi->∃ m,bK H es lo m/\Ok H e m hi
 | [],lo,h=>by
  obtain ⟨m,q1,q2⟩:=h
  exact ⟨lo,A4 _,q1.mono (fun zz zz=>rfl) (A4 _) q2⟩
 | x::es,lo,h=>by
  obtain ⟨m,q1,q2⟩:=h
  obtain ⟨m',q3,q4⟩:=bK.cut (es:=es) q2
  exact ⟨m',⟨m,q1,q3⟩,q4⟩
theorem O6 {fs:List En}{i:Nat}:∀ {es:List En},Y1 (es++fs) i↔Y1 es i∨Y1 fs i
 | []=>⟨Or.inr,fun h=>h.elim (fun q=>q.elim) id⟩
 | e::es=>by
  show fpr e i∨Y1 (es++fs) i↔(fpr e i∨Y1 es i)∨Y1 fs i
  rw [O6 (es:=es),or_assoc]
theorem Q0 {e:En}{i:Nat}:Y1 [e] i↔fpr e i:=⟨fun h=>h.elim id fun q=>q.elim,Or.inl⟩
inductive Pth:Nat->List En->Nat->Nat->List En->Prop
 | here {a:Nat}{es:List En}:Pth a es 0 a es
 | down {a d b p q a':Nat}{es fs es':List En}{xs:List X}{vs:List V}:Pth a' es' d b fs->Pth a (es++[.sub xs vs p q a' es']) (d+1) b fs
noncomputable def S5:Nat->List En->En->List En
 | 0,es,e=>es++[e]
 | d+1,es,e=>match es.getLast? with
  | some (.sub xs vs p q a es')=>es.dropLast++[.sub xs vs p q a (S5 d es' e)]
  | _=>es
theorem Bd6 {d p q a:Nat}{es es':List En}{xs:List X}{vs:List V}{e:En}(h:es.getLast? = some (.sub xs vs p q a es')):S5 (d+1) es e=es.dropLast++[.sub xs vs p q a (S5 d es' e)]:=by
 show (match es.getLast? with | some (.sub xs vs p q a es')=>es.dropLast++[En.sub xs vs p q a (S5 d es' e)] | _=>es)=_
 rw [h]
theorem U8 {d p q a:Nat}{es es':List En}{xs:List X}{vs:List V}{e:En}:S5 (d+1) (es++[.sub xs vs p q a es']) e=es++[.sub xs vs p q a (S5 d es' e)]:=by
 rw [Bd6 (by rw [List.getLast?_append];rfl),List.dropLast_concat]
structure Cx5 (H:Heap) (q hi hi' a d b:Nat) (es fs:List En) (e:En):Prop where
 here:H[b]? = some (fs.map jJ)
 mem:b=a∨Y1 es b
 nd:Nd (H.set b (fs.map jJ++[jJ e])) q hi' a (S5 d es e)
 ft:∀ i,Y1 (S5 d es e) i->Y1 es i∨fpr e i
theorem Cm3 {H:Heap}{e:En}{hi hi':Nat}(he:Ok H e hi hi'):∀ {a d b:Nat}{es fs:List En},Pth a es d b fs->∀ {q:Nat},Nd H q hi a es->Cx5 H q hi hi' a d b es fs e:=by
 intro a d b es fs h
 have hle:=he.le
 induction h with
 | @here a es =>
  intro q h
  obtain ⟨⟨h1,h2,h3,h4⟩,h5⟩:=h
  refine ⟨h4,Or.inl rfl,⟨⟨h1,A8 h2 hle,fun k=>?_,?_⟩,?_⟩,fun i k=>?_⟩
  ·rcases O6.mp k with k | k
   ·exact h3 k
   ·exact absurd (he.foot (Q0.mp k)).1 (Nat.not_le_of_lt h2)
  ·show _=some ((es++[e]).map jJ)
   rw [List.map_append]
   exact List.getElem?_set_self (List.getElem?_eq_some_iff.mp h4).1
  ·refine bK.app (bK.one (he.mono (fun i k=>List.getElem?_set_ne ?_) (A4 _) (A4 _))) (h5.mono (fun i k=>List.getElem?_set_ne ?_) (A4 _) (A4 _))
   ·exact Nat.ne_of_lt (A8 h2 (he.foot k).1)
   ·intro q;subst q;exact h3 k
  ·rcases O6.mp k with k | k
   ·exact Or.inl k
   ·exact Or.inr (Q0.mp k)
 | @down a d b p r a' es fs es' xs vs _ ih =>
  intro q h
  obtain ⟨⟨h1,h2,h3,h4⟩,h5⟩:=h
  obtain ⟨m,k1,k2⟩:=h5.cut
  have k3:=k2
  obtain ⟨j1,j2⟩:=k2
  have hI:=ih (q:=r) j2
  have hb:fpr (.sub xs vs p r a' es') b:=Or.inr (hI.mem.imp id id)
  have hbm:=k3.foot hb
  have hpr:=j1.2.le
  have hbr:r<=b:=by
   rcases hI.mem with k | k
   ·rw [k];exact j2.1.1
   ·exact (j2.2.foot k).1
  have hba:b≠a:=fun k=>h3 (k▸O6.mpr (Or.inr (Q0.mpr hb)))
  have hft:∀ i,fpr (.sub xs vs p r a' (S5 d es' e)) i->fpr (.sub xs vs p r a' es') i∨fpr e i:=fun i k=>by
   rcases k with k | k | k
   ·exact Or.inl (Or.inl k)
   ·exact Or.inl (Or.inr (Or.inl k))
   ·exact (hI.ft i k).imp (fun k=>Or.inr (Or.inr k)) id
  refine ⟨hI.here,Or.inr (O6.mpr (Or.inr (Q0.mpr hb))),?_,?_⟩
  ·rw [U8]
   refine ⟨⟨h1,A8 h2 hle,fun k=>?_,?_⟩,?_⟩
   ·rcases O6.mp k with k | k
    ·exact h3 (O6.mpr (Or.inl k))
    ·rcases hft a (Q0.mp k) with k | k
     ·exact h3 (O6.mpr (Or.inr (Q0.mpr k)))
     ·exact absurd (he.foot k).1 (Nat.not_le_of_lt h2)
   ·rw [List.getElem?_set_ne hba,h4,List.map_append,List.map_append];rfl
   ·have ok1:Ok (H.set b (fs.map jJ++[jJ e])) (.sub xs vs p r a' (S5 d es' e)) m hi':=⟨⟨j1.1,j1.2.to (L0.set (Or.inr hbr))⟩,hI.nd⟩
    refine bK.app (bK.one ok1) (k1.mono (fun i k=>List.getElem?_set_ne ?_) (A4 _) (A4 _))
    exact Nat.ne_of_gt (A8 (k1.foot k).2 hbm.1)
  ·intro i k
   rw [U8] at k
   rcases O6.mp k with k | k
   ·exact Or.inl (O6.mpr (Or.inl k))
   ·exact (hft i (Q0.mp k)).imp (fun k=>O6.mpr (Or.inr (Q0.mpr k))) id
theorem Pth.more {a d b:Nat}{es fs:List En}(h:Pth a es d b fs):∀ {d' c:Nat}{gs:List En},Pth b fs d' c gs->Pth a es (d+d') c gs:=by
 induction h with
 | here=>intro d' c gs k;rw [Nat.zero_add];exact k
 | down _ ih=>intro d' c gs k;rw [Nat.add_right_comm];exact .down (ih k)
mutual
theorem Ok.rep {H:Heap}:∀ {e:En}{lo hi:Nat},Ok H e lo hi->J0 H (enX e) lo hi (jJ e)
 | .leaf _ _ _ _,_,_,h=>h.2.wide h.1.1 h.1.2.2
 | .sub xs vs p q a es,lo,hi,h=>⟨_,rfl,E8.app (.one (A3 h.2.1.1 (B5 h.2.1.2.1)) (N9 ⟨h.2.1.1,h.2.1.2.1,A4 _,A4 _⟩ h.2.1.2.2.2 (bK.reps (es:=es) h.2.2))) (h.1.2.wide h.1.1 (A4 _))⟩
theorem bK.reps {H:Heap}:∀ {es:List En}{lo hi:Nat},bK H es lo hi->E8 H (dM es) lo hi (es.map jJ)
 | [],_,_,h=>.nil h
 | e::es,_,_,h=>by
  obtain ⟨m,q1,q2⟩:=h
  exact .cons q1.le (Ok.rep q1) (bK.reps (es:=es) q2)
end
theorem Nd.rep {H:Heap}{q hi a:Nat}{es:List En}(h:Nd H q hi a es):J0 H (.lst (dM es)) q hi (.ref a):=N9 ⟨h.1.1,h.1.2.1,A4 _,A4 _⟩ h.1.2.2.2 h.2.reps
theorem Nd.mono {H G:Heap}{q hi hi' a:Nat}{es:List En}(h:Nd H q hi a es) (k:∀ i,i=a∨Y1 es i->G[i]? = H[i]?) (h2:hi<=hi'):Nd G q hi' a es :=
 ⟨⟨h.1.1,A8 h.1.2.1 h2,h.1.2.2.1,(k a (Or.inl rfl)).trans h.1.2.2.2⟩,h.2.mono (fun i q=>k i (Or.inr q)) (A4 _) h2⟩
noncomputable def xM (n:Nat) (ts:List T) (v:V) (p q a:Nat) (es:List En):En:=.sub [.at (.i (n:Nat)),.lst (G9 ts)] [.int (n:Nat),v] p q a es
noncomputable def two (w:List Nat) (p a:Nat) (es:List En):En:=.sub [.at (.s w)] [.str w] p p a es
noncomputable def nQ:List Nat:=[113,117,111,116,101]
noncomputable def nL:List Nat:=[108,105,115,116]
noncomputable def nP:List Nat:=[112,97,114,97]
mutual
noncomputable def RIt:It->En->Prop
 | .it n ts sub,e=>∃ v p q a es,e=xM n ts v p q a es/\Y2 sub es
noncomputable def Y2:List It->List En->Prop
 | [],es=>es=[]
 | i::is,es=>∃ e fs,es=e::fs/\RIt i e/\Y2 is fs
end
noncomputable def uC:List (List T)->List En->Prop
 | [],es=>es=[]
 | ts::rs,es=>∃ v p q fs,es=.leaf (.lst (G9 ts)) v p q::fs/\uC rs fs
mutual
noncomputable def RBk:Bk->En->Prop
 | .gap n,e=>∃ v p q,e=.leaf (bkE (.gap n)) v p q
 | .head n ts,e=>∃ v p q,e=.leaf (bkE (.head n ts)) v p q
 | .list is,e=>∃ p a es,e=two nL p a es/\Y2 is es
 | .para rs,e=>∃ p a es,e=two nP p a es/\uC rs es
 | .quote bs,e=>∃ p a es,e=two nQ p a es/\W7 bs es
noncomputable def W7:List Bk->List En->Prop
 | [],es=>es=[]
 | b::bs,es=>∃ e fs,es=e::fs/\RBk b e/\W7 bs fs
end
mutual
theorem RIt.x:∀ {i:It}{e:En},RIt i e->enX e=itE i
 | .it n ts sub,e,h=>by
  obtain ⟨v,p,q,a,es,rfl,h⟩:=h
  show X.tup [.at (.i (n:Nat)),.lst (G9 ts),.lst (dM es)]=.tup [.at (.i (n:Nat)),.lst (G9 ts),.lst (aG sub)]
  rw [Y2.x (is:=sub) h]
theorem Y2.x:∀ {is:List It}{es:List En},Y2 is es->dM es=aG is
 | [],es,h=>by rw [show es=[] from h];rfl
 | i::is,es,h=>by
  obtain ⟨e,fs,rfl,h1,h2⟩:=h
  show enX e::dM fs=itE i::aG is
  rw [RIt.x (i:=i) h1,Y2.x (is:=is) h2]
end
theorem uC.x:∀ {rs:List (List T)}{es:List En},uC rs es->dM es=xK rs
 | [],es,h=>by rw [show es=[] from h];rfl
 | ts::rs,es,h=>by
  obtain ⟨v,p,q,fs,rfl,h⟩:=h
  show X.lst (G9 ts)::dM fs=X.lst (G9 ts)::xK rs
  rw [uC.x (rs:=rs) h]
mutual
theorem RBk.x:∀ {b:Bk}{e:En},RBk b e->enX e=bkE b
 | .gap n,e,h=>by obtain ⟨v,p,q,rfl⟩:=h;rfl
 | .head n ts,e,h=>by obtain ⟨v,p,q,rfl⟩:=h;rfl
 | .list is,e,h=>by
  obtain ⟨p,a,es,rfl,h⟩:=h
  show X.tup [.at (.s nL),.lst (dM es)]=_
  rw [h.x];rfl
 | .para rs,e,h=>by
  obtain ⟨p,a,es,rfl,h⟩:=h
  show X.tup [.at (.s nP),.lst (dM es)]=_
  rw [h.x];rfl
 | .quote bs,e,h=>by
  obtain ⟨p,a,es,rfl,h⟩:=h
  show X.tup [.at (.s nQ),.lst (dM es)]=_
  rw [W7.x (bs:=bs) h];rfl
theorem W7.x:∀ {bs:List Bk}{es:List En},W7 bs es->dM es=L9 bs
 | [],es,h=>by rw [show es=[] from h];rfl
 | b::bs,es,h=>by
  obtain ⟨e,fs,rfl,h1,h2⟩:=h
  show enX e::dM fs=bkE b::L9 bs
  rw [RBk.x (b:=b) h1,W7.x (bs:=bs) h2]
end
theorem Y2.add {i:It}{e:En}(k:RIt i e):∀ {is:List It}{es:List En},Y2 is es->Y2 (is++[i]) (es++[e])
 | [],es,h=>by rw [show es=[] from h];exact ⟨e,[],rfl,k,rfl⟩
 | j::is,es,h=>by
  obtain ⟨e',fs,rfl,h1,h2⟩:=h
  exact ⟨e',_,rfl,h1,Y2.add k h2⟩
theorem Y2.cut {i:It}:∀ {is:List It}{es:List En},Y2 (is++[i]) es->∃ fs e,es=fs++[e]/\Y2 is fs/\RIt i e
 | [],es,h=>by
  obtain ⟨e,fs,rfl,h1,h2⟩:=h
  rw [show fs=[] from h2]
  exact ⟨[],e,rfl,rfl,h1⟩
 | j::is,es,h=>by
  obtain ⟨e',fs,rfl,h1,h2⟩:=h
  obtain ⟨gs,e,rfl,h3,h4⟩:=Y2.cut (is:=is) h2
  exact ⟨e'::gs,e,rfl,⟨e',gs,rfl,h1,h3⟩,h4⟩
theorem uC.add {ts:List T}{v:V}{p q:Nat}:∀ {rs:List (List T)}{es:List En},uC rs es->uC (rs++[ts]) (es++[.leaf (.lst (G9 ts)) v p q])
 | [],es,h=>by rw [show es=[] from h];exact ⟨v,p,q,[],rfl,rfl⟩
 | j::is,es,h=>by
  obtain ⟨v',p',q',fs,rfl,h2⟩:=h
  exact ⟨v',p',q',_,rfl,uC.add h2⟩
theorem W7.add {i:Bk}{e:En}(k:RBk i e):∀ {is:List Bk}{es:List En},W7 is es->W7 (is++[i]) (es++[e])
 | [],es,h=>by rw [show es=[] from h];exact ⟨e,[],rfl,k,rfl⟩
 | j::is,es,h=>by
  obtain ⟨e',fs,rfl,h1,h2⟩:=h
  exact ⟨e',_,rfl,h1,W7.add k h2⟩
theorem W7.cut {i:Bk}:∀ {is:List Bk}{es:List En},W7 (is++[i]) es->∃ fs e,es=fs++[e]/\W7 is fs/\RBk i e
 | [],es,h=>by
  obtain ⟨e,fs,rfl,h1,h2⟩:=h
  rw [show fs=[] from h2]
  exact ⟨[],e,rfl,rfl,h1⟩
 | j::is,es,h=>by
  obtain ⟨e',fs,rfl,h1,h2⟩:=h
  obtain ⟨gs,e,rfl,h3,h4⟩:=W7.cut (is:=is) h2
  exact ⟨e'::gs,e,rfl,⟨e',gs,rfl,h1,h3⟩,h4⟩
inductive rJ (N:Nat):Nat->List It->List En->Nat->Nat->List It->List En->Prop
 | here {a:Nat}{is:List It}{es:List En}:Y2 is es->rJ N a is es 0 a is es
 | down {a d b n p q a':Nat}{is sub js:List It}{es fs es':List En}{ts:List T}{v:V}:n<N->Y2 is es->rJ N a' sub es' d b js fs->rJ N a (is++[.it n ts sub]) (es++[xM n ts v p q a' es']) (d+1) b js fs
theorem rJ.pth {N a d b:Nat}{is js:List It}{es fs:List En}(h:rJ N a is es d b js fs):Pth a es d b fs:=by
 induction h with
 | here=>exact .here
 | down _ _ _ ih=>exact .down ih
theorem rJ.cur {N a d b:Nat}{is js:List It}{es fs:List En}(h:rJ N a is es d b js fs):Y2 js fs:=by
 induction h with
 | here h=>exact h
 | down _ _ _ ih=>exact ih
theorem rJ.ext {N a d b:Nat}{is js:List It}{es fs:List En}(h:rJ N a is es d b js fs):∀ {js':List It}{n:Nat}{ts:List T}{sub:List It},js=js'++[.it n ts sub]->n<N->∃ gs v p q a' es',fs=gs++[xM n ts v p q a' es']/\rJ N a is es (d+1) a' sub es':=by
 induction h with
 | here h =>
  intro js' n ts sub e hn
  subst e
  obtain ⟨gs,e,rfl,h1,v,p,q,a',es',rfl,h2⟩:=h.cut
  exact ⟨gs,v,p,q,a',es',rfl,.down hn h1 (.here h2)⟩
 | down h1 h2 _ ih =>
  intro js' n ts sub e hn
  obtain ⟨gs,v,p,q,a',es',e',k⟩:=ih e hn
  exact ⟨gs,v,p,q,a',es',e',.down h1 h2 k⟩
theorem rJ.ins {N a d b:Nat}{is js:List It}{es fs:List En}{x:It}{e:En}(h:rJ N a is es d b js fs) (k:RIt x e):Y2 (insAt d is x) (S5 d es e):=by
 induction h with
 | here h=>exact h.add k
 | @down a d b n p q a' is sub js es fs es' ts v h1 h2 _ ih =>
  have k1:RIt (.it n ts (insAt d sub x)) (xM n ts v p q a' (S5 d es' e)):=⟨_,_,_,_,_,rfl,ih⟩
  have k2:S5 (d+1) (es++[xM n ts v p q a' es']) e=es++[xM n ts v p q a' (S5 d es' e)]:=U8
  rw [R0,k2]
  exact h2.add k1
theorem dJ.snoc2 {above most:Nat}{i:It}:∀ {is:List It},dJ above most (is++[i])↔dJ above most is/\IO1 above (match is.getLast? with | some j=>dsh j | none=>most) i
 | []=>⟨fun h=>⟨trivial,h.1⟩,fun h=>⟨h.2,trivial⟩⟩
 | j::is=>by
  show IO1 above most j/\dJ above (dsh j) (is++[i])↔(IO1 above most j/\dJ above (dsh j) is)/\_
  rw [dJ.snoc2 (is:=is),and_assoc]
  cases is with
  | nil=>exact Iff.rfl
  | cons k is=>exact Iff.rfl
theorem rJ.order {N a d b:Nat}{is js:List It}{es fs:List En}{ts:List T}(h:rJ N a is es d b js fs) (hN:1<=N/\N<=9) (hc:Ct ts) (hl:∀ i,js.getLast? = some i->N<=dsh i):∀ {above:Nat},above<N->dJ above 9 is->dJ above 9 (insAt d is (.it N ts [])):=by
 induction h with
 | @here a is es _ =>
  intro above ha ho
  refine dJ.snoc2.mpr ⟨ho,⟨hN.1,?_,ha⟩,hc,trivial⟩
  cases hq:is.getLast? with
  | none=>exact hN.2
  | some j=>exact hl j hq
 | down h1 h2 _ ih =>
  intro above ha ho
  rw [R0]
  obtain ⟨k1,k2,k3,k4⟩:=dJ.snoc2.mp ho
  exact dJ.snoc2.mpr ⟨k1,k2,k3,ih hl h1 k4⟩
mutual
theorem IO1.deep:∀ {above most:Nat}{i:It},IO1 above most i->most<=9->dI i+above<=9
 | above,most,.it n ts sub,h,hm=>by
  have h1:=h.1
  have h2:=dJ.deep (is:=sub) h.2.2 (A4 9)
  show dIs sub+1+above<=9
  rw [Nat.add_right_comm]
  show dIs sub+(above+1)<=9
  exact A3 (Nat.add_le_add h2 h1.2.2) (Nat.le_of_eq (Nat.sub_add_cancel (A3 h1.2.1 hm)))
theorem dJ.deep:∀ {above most:Nat}{is:List It},dJ above most is->most<=9->dIs is<=9 - above
 | _,_,[],_,_=>B0 _
 | above,most,i::is,h,hm=>by
  have h1:=IO1.deep (i:=i) h.1 hm
  have hd:dsh i<=9:=by
   cases i with
   | it n ts sub=>exact A3 h.1.1.2.1 hm
  have h2:=dJ.deep (is:=is) h.2 hd
  show max (dI i) (dIs is)<=9 - above
  exact Nat.max_le.mpr ⟨Nat.le_sub_of_add_le h1,h2⟩
end
noncomputable def mM:List (List Bk)->List Bk->List Bk
 | [],cur=>cur
 | p::ctx,cur=>p++[.quote (mM ctx cur)]
inductive Zp:Nat->List Bk->List En->List (List Bk)->List Nat->Nat->List Bk->List En->Prop
 | here {a:Nat}{bs:List Bk}{es:List En}:W7 bs es->Zp a bs es [] [a] a bs es
 | down {a a' b pp:Nat}{p bs cur:List Bk}{pe es fs:List En}{ctx:List (List Bk)}{as:List Nat}:W7 p pe->Zp a' bs es ctx as b cur fs->Zp a (p++[.quote bs]) (pe++[two nQ pp a' es]) (p::ctx) (a::as) b cur fs
theorem oA {p a:Nat}{bs:List Bk}{es:List En}(h:W7 bs es):RBk (.quote bs) (two nQ p a es):=⟨p,a,es,rfl,h⟩
section
variable {a b:Nat}{bs cur:List Bk}{es fs:List En}{ctx:List (List Bk)}{as:List Nat}
theorem Zp.root (h:Zp a bs es ctx as b cur fs):W7 bs es:=by
 induction h with
 | here h=>exact h
 | down h1 _ ih=>exact h1.add (oA ih)
theorem Zp.pth (h:Zp a bs es ctx as b cur fs):Pth a es ctx.length b fs:=by
 induction h with
 | here h=>exact .here
 | down h1 _ ih=>exact .down ih
theorem Zp.typ (h:Zp a bs es ctx as b cur fs):W7 cur fs:=by
 induction h with
 | here h=>exact h
 | down h1 _ ih=>exact ih
theorem Zp.whole (h:Zp a bs es ctx as b cur fs):bs=mM ctx cur:=by
 induction h with
 | here h=>rfl
 | down h1 _ ih=>rw [ih];rfl
theorem Zp.lens (h:Zp a bs es ctx as b cur fs):as.length=ctx.length+1:=by
 induction h with
 | here h=>rfl
 | down h1 _ ih=>exact congrArg (· + 1) ih
theorem Zp.last (h:Zp a bs es ctx as b cur fs):∃ r,as=r++[b]:=by
 induction h with
 | here h=>exact ⟨[],rfl⟩
 | down h1 _ ih=>obtain ⟨r,rfl⟩:=ih;exact ⟨_::r,rfl⟩
theorem Zp.first (h:Zp a bs es ctx as b cur fs):∃ r,as=a::r:=by
 cases h with
 | here h=>exact ⟨[],rfl⟩
 | down h1 _=>exact ⟨_,rfl⟩
theorem Zp.ins {d:Nat}{e:En}{cur':List Bk}(h:Zp a bs es ctx as b cur fs) (k:W7 cur' (S5 d fs e)):∃ bs',Zp a bs' (S5 (ctx.length+d) es e) ctx as b cur' (S5 d fs e):=by
 induction h with
 | here h=>exact ⟨cur',by show Zp _ _ (S5 (0+d) _ e) _ _ _ _ _;rw [Nat.zero_add];exact .here k⟩
 | @down a a' b pp p bs cur pe es fs ctx as h1 _ ih =>
  obtain ⟨bs',z⟩:=ih k
  have k2:S5 (ctx.length+d+1) (pe++[two nQ pp a' es]) e=pe++[two nQ pp a' (S5 (ctx.length+d) es e)]:=U8
  refine ⟨p++[.quote bs'],?_⟩
  show Zp a _ (S5 (ctx.length+1+d) _ e) _ _ _ _ _
  rw [Nat.add_right_comm,k2]
  exact .down h1 z
theorem Zp.push {p c:List Bk}(h:Zp a bs es ctx as b cur fs) (e:cur=p++[.quote c]):∃ gs pp a' es',fs=gs++[two nQ pp a' es']/\Zp a bs es (ctx++[p]) (as++[a']) a' c es':=by
 induction h with
 | here h =>
  subst e
  obtain ⟨gs,e,rfl,h1,pp,a',es',rfl,h2⟩:=h.cut
  exact ⟨gs,pp,a',es',rfl,.down h1 (.here h2)⟩
 | down h1 _ ih =>
  obtain ⟨gs,pp,a',es',e',z⟩:=ih e
  exact ⟨gs,pp,a',es',e',.down h1 z⟩
theorem Zp.pop {p:List Bk}(h:Zp a bs es ctx as b cur fs):∀ {ctx':List (List Bk)},ctx=ctx'++[p]->∃ as' b' fs',as=as'++[b]/\Zp a bs es ctx' as' b' (p++[.quote cur]) fs':=by
 induction h with
 | here h=>intro ctx' e;exact absurd e (by simp)
 | @down a a' b pp p' bs cur pe es fs ctx as h1 h2 ih =>
  intro ctx' e
  cases ctx' with
  | nil =>
   obtain ⟨e1,e2⟩:=List.cons.inj e
   subst e1;subst e2
   cases h2 with
   | here h=>exact ⟨[a],a,_,rfl,.here (h1.add (oA h))⟩
  | cons x ctx' =>
   obtain ⟨e1,e2⟩:=List.cons.inj e
   subst e1
   obtain ⟨as',b',fs',e3,z⟩:=ih e2
   exact ⟨a::as',b',fs',by rw [e3];rfl,.down h1 z⟩
end
structure TS (H0:Heap) (ctx:List (List Bk)) (cur:List Bk) (as:List Nat) (b:Nat) (bs:List Bk) (rt fs:List En) (H:Heap):Prop where
 len:H0.length+2<=H.length
 old:L0 H0 H 0 H0.length
 pile:H[H0.length+1]? = some (as.map V.ref)
 zp:Zp H0.length bs rt ctx as b cur fs
 nd:Nd H H0.length H.length H0.length rt
 ft:∀ i,Y1 rt i->H0.length+2<=i
section
variable {H0 H G:Heap}{ctx:List (List Bk)}{cur:List Bk}{as:List Nat}{b:Nat}{bs:List Bk}{rt fs:List En}
theorem TS.up (h:TS H0 ctx cur as b bs rt fs H) (g:E6 H G):Nd G H0.length H.length H0.length rt :=
 h.nd.mono (fun i k=>g.old i (B0 _) (by
  rcases k with k | k
  ·have:=h.len;exact M4 (M9 (Nat.le_of_eq k) this)
  ·exact (h.nd.2.foot k).2)) (A4 _)
theorem TS.grow (h:TS H0 ctx cur as b bs rt fs H) (g:E6 H G):TS H0 ctx cur as b bs rt fs G :=
 ⟨A3 h.len g.len,h.old.trans (g.old.sub (A4 _) (A3 (B4 _ _) h.len)),g.get h.pile,h.zp,(h.up g).mono (fun zz zz=>rfl) g.len,h.ft⟩
theorem TS.put {d c:Nat}{e:En}{gs:List En}{cur':List Bk}(h:TS H0 ctx cur as b bs rt fs H) (g:E6 H G) (he:Ok G e H.length G.length) (hp:Pth b fs d c gs) (k:W7 cur' (S5 d fs e)) :
  G[c]? = some (gs.map jJ)/\∃ bs' rt',TS H0 ctx cur' as b bs' rt' (S5 d fs e) (G.set c (gs.map jJ++[jJ e])):=by
 have hI:=Cm3 he (h.zp.pth.more hp) (h.up g)
 obtain ⟨bs',z⟩:=h.zp.ins k
 have hc:c=H0.length∨H0.length+2<=c:=hI.mem.imp id (h.ft c)
 have hg:=h.grow g
 refine ⟨hI.here,bs',_,by rw [List.length_set];exact hg.len,hg.old.trans (L0.set (Or.inr (by lia))),?_,z,by rw [List.length_set];exact hI.nd,fun i k=>?_⟩
 ·rw [List.getElem?_set_ne (by lia)];exact hg.pile
 ·rcases hI.ft i k with k | k
  ·exact h.ft i k
  ·exact A3 h.len (he.foot k).1
theorem TS.repile {ctx':List (List Bk)}{cur':List Bk}{as':List Nat}{b':Nat}{fs':List En}(h:TS H0 ctx cur as b bs rt fs H) (z:Zp H0.length bs rt ctx' as' b' cur' fs'):TS H0 ctx' cur' as' b' bs rt fs' (H.set (H0.length+1) (as'.map V.ref)):=by
 refine ⟨by rw [List.length_set];exact h.len,h.old.trans (L0.set (Or.inr (B8 _))),List.getElem?_set_self h.len,z,?_,h.ft⟩
 rw [List.length_set]
 refine h.nd.mono (fun i k=>List.getElem?_set_ne ?_) (A4 _)
 rcases k with k | k
 ·rw [k];exact Nat.ne_of_gt (B1 _)
 ·exact Nat.ne_of_lt (h.ft i k)
theorem TS.here (h:TS H0 ctx cur as b bs rt fs H):H[b]? = some (fs.map jJ)/\J0 H (.lst (L9 cur)) H0.length H.length (.ref b):=by
 have key:∀ {a d b:Nat}{es fs:List En},Pth a es d b fs->∀ {q:Nat},H0.length<=q->Nd H q H.length a es->∃ r,H0.length<=r/\Nd H r H.length b fs:=by
  intro a d b es fs h
  induction h with
  | here=>intro q hq h;exact ⟨q,hq,h⟩
  | @down a d b p r a' es fs es' xs vs _ ih =>
   intro q hq h
   obtain ⟨m,k1,k2⟩:=h.2.cut
   have:=k2.1.2.le
   exact ih (q:=r) (A3 hq (A3 k1.le (A3 k2.1.1 this))) k2.2
 obtain ⟨r,hr,hn⟩:=key h.zp.pth (A4 _) h.nd
 refine ⟨hn.1.2.2.2,?_⟩
 have:=hn.rep
 rw [h.zp.typ.x] at this
 exact this.wide hr (A4 _)
end
noncomputable def M2 (last:List Nat) (bs:List Bk):List Nat:=match bs.getLast? with
 | some b=>fE b
 | none=>last
theorem aT {last:List Nat}{bs:List Bk}{b:Bk}:M2 last (bs++[b])=fE b:=by
 unfold M2;rw [List.getLast?_append];rfl
theorem bA.snoc {deep:Nat}{b:Bk}:∀ {bs:List Bk}{last:List Nat},bA deep last (bs++[b])↔bA deep last bs/\BO1 deep b/\(fE b≠M2 last bs∨M2 last bs=[104,101,97,100,105,110,103])
 | [],last=>⟨fun h=>⟨trivial,h.1,h.2.1⟩,fun h=>⟨h.2.1,h.2.2,trivial⟩⟩
 | c::bs,last=>by
  show BO1 deep c/\_/\bA deep (fE c) (bs++[b])↔(BO1 deep c/\_/\bA deep (fE c) bs)/\_
  rw [bA.snoc (bs:=bs),and_assoc,and_assoc]
  have:M2 last (c::bs)=M2 (fE c) bs:=by
   cases bs with
   | nil=>rfl
   | cons d bs=>rfl
  rw [this]
mutual
noncomputable def szI:It->Nat
 | .it _ ts sub=>(rowTs ts).length+30+szIs sub
noncomputable def szIs:List It->Nat
 | []=>0
 | i::is=>szI i+szIs is
end
theorem gK:∀ is js:List It,szIs (is++js)=szIs is+szIs js
 | [],js=>(Nat.zero_add _).symm
 | i::is,js=>by show szI i+szIs (is++js)=szI i+szIs is+szIs js;rw [gK is js,Nat.add_assoc]
theorem zW:∀ (j:Nat) (is:List It) (x:It),szIs (insAt j is x)=szIs is+szI x
 | 0,is,x=>by show szIs (is++[x])=_;rw [gK];rfl
 | j+1,is,x=>by
  rcases P1 is with rfl | ⟨is',i,rfl⟩
  ·show szI x+0=0+szI x;rw [Nat.zero_add];rfl
  ·obtain ⟨m,ts,sub⟩:=i
   rw [R0,gK,gK]
   show szIs is'+((rowTs ts).length+30+szIs (insAt j sub x)+0)=szIs is'+((rowTs ts).length+30+szIs sub+0)+szI x
   rw [zW j sub x]
   lia
mutual
theorem Co2:∀ i:It,cnt i<=szI i
 | .it n ts sub=>by
  have:=mK sub
  show cnts sub+1<=(rowTs ts).length+30+szIs sub
  rw [Nat.add_comm]
  exact Nat.add_le_add (A3 (by decide:1<=30) (Nat.le_add_left _ _)) this
theorem mK:∀ is:List It,cnts is<=szIs is
 | []=>A4 _
 | i::is=>Nat.add_le_add (Co2 i) (mK is)
end
noncomputable def szR:List (List T)->Nat
 | []=>0
 | ts::rs=>(rowTs ts).length+30+szR rs
theorem Aw5:∀ rs qs:List (List T),szR (rs++qs)=szR rs+szR qs
 | [],qs=>(Nat.zero_add _).symm
 | ts::rs,qs=>by show (rowTs ts).length+30+szR (rs++qs)=(rowTs ts).length+30+szR rs+szR qs;rw [Aw5 rs qs,Nat.add_assoc ((rowTs ts).length+30)]
theorem vX:∀ rs:List (List T),rs.length<=szR rs
 | []=>A4 _
 | ts::rs=>by
  have:=vX rs
  show rs.length+1<=(rowTs ts).length+30+szR rs
  rw [Nat.add_comm]
  exact Nat.add_le_add (A3 (by decide:1<=30) (Nat.le_add_left _ _)) this
mutual
noncomputable def szB:Bk->Nat
 | .gap n=>19 * n+1
 | .head _ ts=>(rowTs ts).length+30
 | .list is=>szIs is+1
 | .para rs=>szR rs+1
 | .quote bs=>szBs bs+1
noncomputable def szBs:List Bk->Nat
 | []=>0
 | b::bs=>szB b+szBs bs
end
theorem T7:∀ as bs:List Bk,szBs (as++bs)=szBs as+szBs bs
 | [],bs=>(Nat.zero_add _).symm
 | a::as,bs=>by show szB a+szBs (as++bs)=szB a+szBs as+szBs bs;rw [T7 as bs,Nat.add_assoc]
theorem V9 (b:Bk):szBs [b]=szB b:=rfl
theorem uU:∀ bs:List Bk,bs.length<=szBs bs
 | []=>A4 _
 | b::bs=>by
  have h1:1<=szB b:=by cases b<;>exact B3 (B0 _)
  show bs.length+1<=szB b+szBs bs
  rw [Nat.add_comm]
  exact Nat.add_le_add h1 (uU bs)
mutual
theorem Ct9:∀ {above most:Nat}{i:It},IO1 above most i->PI i
 | _,_,.it n ts sub,h=>⟨h.2.1.fit,uX h.2.2⟩
theorem uX:∀ {above most:Nat}{is:List It},dJ above most is->PIs is
 | _,_,[],_=>trivial
 | _,_,i::is,h=>⟨Ct9 h.1,uX h.2⟩
end
mutual
theorem Ct6:∀ {deep:Nat}{b:Bk},deep<=9->BO1 deep b->szB b<=W->M1 W (2 * (9 - deep)+46) (bkE b)
 | deep,.gap n,_,h,_=>(Bx0 (m:=1) (M1.at (a:=.i (n:Nat)))).up (A4 _) (A3 (by decide) (Nat.le_add_left 46 _))
 | deep,.head n ts,_,h,_=>by
  refine (M1.tup (m:=26) (xs:=[.at (.s [104,101,97,100,105,110,103]),.at (.i (n:Nat)),.lst (G9 ts)]) (A3 (by decide:(3:Nat)<=4) W4) fun y hy=>?_).up (A4 _) (A3 (by decide) (Nat.le_add_left 46 _))
  rcases List.mem_cons.mp hy with rfl | hy
  ·exact M1.at
  ·rcases List.mem_cons.mp hy with rfl | hy
   ·exact M1.at
   ·rw [List.mem_singleton.mp hy];exact h.2.fit
 | deep,.list is,_,h,hs=>by
  have hc:cnts is<=W:=A3 (mK is) (Nat.le_of_succ_le hs)
  exact (Bx0 (M1.lst (m:=2 * 9+26) (by rw [Z8];exact A3 (Z6 is) hc) (mH h.2.2 hc (uX h.2.1)))).up (A4 _) (Nat.le_add_left 46 _)
 | deep,.para rs,_,h,hs=>by
  refine (Bx0 (M1.lst (m:=26) (by rw [mD];exact A3 (vX rs) (Nat.le_of_succ_le hs)) fun y hy=>?_)).up (A4 _) (A3 (by decide) (Nat.le_add_left 46 _))
  obtain ⟨ts,ht,rfl⟩:=Ce0 hy
  exact (h.2 ts ht).1.fit
 | deep,.quote bs,hd,h,hs=>by
  have hc:szBs bs<=W:=Nat.le_of_succ_le hs
  refine (Bx0 (M1.lst (m:=2 * (9 - (deep+1))+46) (by rw [aA];exact A3 (uU bs) hc) (Al3 (bs:=bs) h.1 h.2.2 hc))).up (A4 _) (by rw [show 9 - deep=9 - (deep+1)+1 from (Nat.sub_add_cancel (Nat.sub_pos_of_lt h.1)).symm];exact A4 _)
theorem Al3:∀ {deep:Nat}{last:List Nat}{bs:List Bk},deep<=9->bA deep last bs->szBs bs<=W->∀ y∈L9 bs,M1 W (2 * (9 - deep)+46) y
 | _,_,[],_,_,_=>fun y hy=>nomatch hy
 | deep,last,b::bs,hd,h,hs=>fun y hy=>by
  have hs':szB b+szBs bs<=W:=hs
  rcases List.mem_cons.mp hy with rfl | hy
  ·exact Ct6 hd h.1 (A3 (B4 _ _) hs')
  ·exact Al3 hd h.2.2 (A3 (Nat.le_add_left _ _) hs') y hy
end
theorem Bl0 {deep:Nat}{last:List Nat}{bs:List Bk}(hd:deep<=9) (h:bA deep last bs) (hs:szBs bs<=W):M1 W (2 * (9 - deep)+47) (.lst (L9 bs)) :=
 M1.lst (by rw [aA];exact A3 (uU bs) hs) (Al3 hd h hs)
noncomputable def BC:Nat->List (List Bk)->Prop
 | _,[]=>True
 | i,p::ctx=>(bA i [] p/\M2 [] p≠nQ/\i<9)/\BC (i+1) ctx
theorem BC.snoc {p:List Bk}:∀ {ctx:List (List Bk)}{i:Nat},BC i (ctx++[p])↔BC i ctx/\bA (i+ctx.length) [] p/\M2 [] p≠nQ/\i+ctx.length<9
 | [],i=>⟨fun h=>⟨trivial,h.1⟩,fun h=>⟨h.2,trivial⟩⟩
 | q::ctx,i=>by
  show (_/\_/\_)/\BC (i+1) (ctx++[p])↔((_/\_/\_)/\BC (i+1) ctx)/\bA (i+(ctx.length+1)) [] p/\_/\i+(ctx.length+1)<9
  rw [BC.snoc (ctx:=ctx),and_assoc,and_assoc,and_assoc,show i+(ctx.length+1)=i+1+ctx.length from Nat.add_right_comm i ctx.length 1]
  simp only [and_assoc]
noncomputable def szC:List (List Bk)->Nat
 | []=>0
 | p::ctx=>szBs p+1+szC ctx
theorem gL {p:List Bk}:∀ {ctx:List (List Bk)},szC (ctx++[p])=szC ctx+(szBs p+1)
 | []=>Nat.add_comm _ _
 | q::ctx=>by
  show szBs q+1+szC (ctx++[p])=szBs q+1+szC ctx+(szBs p+1)
  rw [gL (ctx:=ctx),<- Nat.add_assoc (szBs q+1)]
structure BI (ctx:List (List Bk)) (cur:List Bk) (N:Nat):Prop where
 up:BC 0 ctx
 ok:bA ctx.length [] cur
 sz:szC ctx+szBs cur<=N
theorem Ax1 {cur:List Bk}(hne:cur≠[]):∀ {ctx:List (List Bk)}{i:Nat},BC i ctx->bA (i+ctx.length) [] cur->bA i [] (mM ctx cur)/\mM ctx cur≠[]
 | [],i,_,h=>⟨h,hne⟩
 | p::ctx,i,hc,h=>by
  obtain ⟨h1,h2⟩:=Ax1 hne (ctx:=ctx) (i:=i+1) hc.2 (by rw [show i+1+ctx.length=i+(ctx.length+1) from Nat.add_right_comm i 1 ctx.length];exact h)
  exact ⟨bA.snoc.mpr ⟨hc.1.1,⟨hc.1.2.2,h2,h1⟩,Or.inl fun q=>hc.1.2.1 q.symm⟩,fun q=>nomatch (List.append_eq_nil_iff.mp q).2⟩
theorem vU {cur:List Bk}:∀ {ctx:List (List Bk)},szBs (mM ctx cur)=szC ctx+szBs cur
 | []=>(Nat.zero_add _).symm
 | p::ctx=>by
  show szBs (p++[.quote (mM ctx cur)])=szBs p+1+szC ctx+szBs cur
  rw [T7,V9]
  show szBs p+(szBs (mM ctx cur)+1)=_
  rw [vU (ctx:=ctx),Nat.add_right_comm (szBs p) 1,Nat.add_right_comm _ 1,<- Nat.add_assoc,<- Nat.add_assoc]
theorem BC.deep {ctx:List (List Bk)}(h:BC 0 ctx):ctx.length<=9:=by
 rcases P1 ctx with rfl | ⟨c,p,rfl⟩
 ·exact B0 _
 ·have:=(BC.snoc.mp h).2.2.2
  rw [A6]
  show c.length+1<=9
  rw [Nat.zero_add] at this;exact this
structure FZ where
 w:List Nat
 e:Option V
theorem sY {g:T->List Nat}{ts:List T}{i:Nat}{t:T}(h:ts[i]? = some t):(ts.take (i+1)).flatMap g=(ts.take i).flatMap g++g t:=by
 rw [List.take_add_one,h,List.flatMap_append];exact congrArg _ (List.append_nil _)
theorem Cf2 {C:Calls}{B:List S}(g:T->List Nat) {ts:List T}{a lo hi:Nat}{Q:C2}{H:Heap}(hr:J0 H (.lst (G9 ts)) lo hi (.ref a)) (hl:(ts.flatMap g).length<=1000000)
  (step:∀ (i:Nat) (t:T) (v:V) (w:List Nat) (p q:Nat) (R:E2),ts[i]? = some t->J0 H (enc t) p q v->w.length+(g t).length<=1000000->R .next [some (.ref a),some (.str (w++g t)),some v] H->C4 C B [some (.ref a),some (.str w),some v] R H)
  (h:Q (.str (ts.flatMap g)) H):C4 C [.assign 1 (.str []),.forIn 2 (.var 0) B,.ret (.var 1)] [some (.ref a),none,none] (D8 Q) H:=by
 obtain ⟨a',l,p,q,e,hb,ha,hrl⟩:=hr
 cases e
 refine C6 (fun zz h=>h) (I3 (V2 (σ:=FZ) (fun z=>[some (.ref a),some (.str z.w),z.e]) (fun i z G=>G=H/\z.w=(ts.take i).flatMap g) (l:=l) (fun i z G hI=>hI.1▸ha) (fun i z G v hv hI K hK=>?_) (fun z G hI=>?_) ⟨[],none⟩ (fun zz h=>h) ⟨rfl,rfl⟩))
 ·obtain ⟨rfl,hw⟩:=hI
  obtain ⟨t,p',q',ht,_,_,hrt⟩:=Cj4 hrl hv
  have e2:ts.flatMap g=(ts.take (i+1)).flatMap g++(ts.drop (i+1)).flatMap g:=by rw [<- List.flatMap_append,List.take_append_drop]
  rw [e2,sY ht,A6,A6] at hl
  refine step i t v z.w p' q' _ ht hrt (by rw [hw];exact M4 hl) (hK ⟨_,_⟩ _ ⟨rfl,?_⟩)
  rw [sY ht,hw]
 ·obtain ⟨rfl,hw⟩:=hI
  refine I6 (fun zz h=>h) ?_
  show Q (.str z.w) _
  rw [hw,hrl.len,S1,List.take_length];exact h
theorem Aa1:∀ ts:List T,rowTs ts=ts.flatMap rowT
 | []=>rfl
 | t::ts=>by show rowT t++rowTs ts=_;rw [Aa1 ts];rfl
theorem Bw8 {c:Nat}{b:Bool}{H:Heap}:eK .mul (.str [c]) (.int (if b then 1 else 0)) H=some (.str (if b then [c] else []),H):=by
 cases b with
 | true=>exact Aj6 (n:=1) ⟨by show 1<=I8;decide,by decide,by decide⟩
 | false=>exact Aj6 (n:=0) ⟨B0 _,by decide,by decide⟩
theorem R3 {C:Calls}{ρ:D7}{H:Heap}{l r:E}{a b:List Nat}(hl:Ev C ρ H l (.str a)) (hr:Ev C ρ H r (.str b)) (h:(a++b).length<=1000000):Ev C ρ H (.bin .add l r) (.str (a++b)):=D6 hl hr (aI (by rw [<- A6];exact A3 h xV))
noncomputable def LRs (d n:Nat):Prop:=∀ (ts:List T) (a lo hi:Nat) (H:Heap) (Q:C2),X8 d ts->J0 H (.lst (G9 ts)) lo hi (.ref a)->(rowTs ts).length<=1000000->Q (.str (rowTs ts)) H->C1 P n "_law_row" [.ref a] Q H
theorem sS {n d:Nat}(ih:d<12->LRs (d+1) n):LRs d (n+1):=by
 intro ts a lo hi H Q hg hr hl h
 rw [Aa1] at h hl
 refine Ap7 (Cf2 rowT hr hl (fun i t v w p q R ht hrt hlen hR=>?_) h)
 have hgt:=hg.get ht
 have hT:(w++rowT t).length<=1000000:=by rw [A6];exact hlen
 clear hlen
 have ih1:∀ {us:List T}{a2:Nat}{u:List Nat}{ρ:D7}{e:E},d<12->X8 (d+1) us->J0 H (.lst (G9 us)) p q (.ref a2)->(u++rowTs us).length<=1000000->Ev (C1 P n) ρ H e (.ref a2)->Ev (C1 P n) ρ H (.call "_law_row" [e]) (.str (rowTs us)):=fun h1 h2 h3 h4 h5=>D3 (C9 h5 K5) fun Q q=>ih h1 _ _ _ _ H Q h2 h3 (suf h4) q
 cases t with
 | txt s =>
  rw [show v=.str s from hrt] at hR ⊢
  exact D5 (fun zz h=>h) (C6 (R3 (fun zz h=>h) (fun zz h=>h) hT) hR)
 | kept s =>
  rw [cX hrt] at hR ⊢
  replace hT:(w++([92]++s)).length<=1000000:=hT
  replace hR:R .next [some (.ref a),some (.str (w++([92]++s))),some (yL s)] H:=hR
  rw [<- A7] at hR hT
  exact D4 (fun zz h=>h) (D5 (fun zz h=>h) (C6 (R3 (R3 (fun zz h=>h) N0 (pre hT)) (fun zz h=>h) hT) hR))
 | code s b =>
  rw [cY hrt] at hR ⊢
  replace hT:(w++([96]++s++(if b then [96] else []))).length<=1000000:=hT
  replace hR:R .next [some (.ref a),some (.str (w++([96]++s++(if b then [96] else [])))),some (Bg2 s b)] H:=hR
  rw [<- A7,<- A7] at hR hT
  exact D4 (fun zz h=>h) (D4 (fun zz h=>h) (D5 (fun zz h=>h) (C6 (R3 (R3 (R3 (fun zz h=>h) N0 (pre (pre hT))) (fun zz h=>h) (pre hT)) (D6 N0 (fR (fun zz h=>h)) Bw8) hT) hR)))
 | span c us b =>
  obtain ⟨a2,rfl,hra⟩:=cU hrt
  replace hT:(w++([c]++([40]++rowTs us)++(if b then [41] else []))).length<=1000000:=hT
  replace hR:R .next [some (.ref a),some (.str (w++([c]++([40]++rowTs us)++(if b then [41] else [])))),some (jR c a2 b)] H:=hR
  rw [<- A7,<- A7,<- A7] at hR hT
  exact D4 (fun zz h=>h) (D4 (fun zz h=>h) (D4 (fun zz h=>h) (D5 (fun zz h=>h) (C6 (R3 (R3 (R3 (fun zz h=>h) (fun zz h=>h) (pre (pre (pre hT)))) N0 (pre (pre hT))) (ih1 hgt.1 hgt.2.2 hra (pre hT) (fun zz h=>h)) (pre hT)) (C6 (R3 (fun zz h=>h) (D6 N0 (fR (fun zz h=>h)) Bw8) hT) hR)))))
 | link us g b =>
  obtain ⟨a2,rfl,hra⟩:=cW hrt
  cases g with
  | none =>
   replace hT:(w++([91]++rowTs us++(if b then [93] else []))).length<=1000000:=hT
   replace hR:R .next [some (.ref a),some (.str (w++([91]++rowTs us++(if b then [93] else [])))),some (W8 a2 none b)] H:=hR
   rw [<- A7,<- A7] at hR hT
   exact D4 (fun zz h=>h) (D4 (fun zz h=>h) (D4 (fun zz h=>h) (D4 (fun zz h=>h) (D5 (fun zz h=>h) (C6 (R3 (R3 (R3 (fun zz h=>h) N0 (pre (pre hT))) (ih1 hgt.1 hgt.2.2 hra (pre hT) (fun zz h=>h)) (pre hT)) (D6 N0 (fR (fun zz h=>h)) Bw8) hT) hR)))))
  | some g =>
   replace hT:(w++([91]++rowTs us++[93,40]++g++(if b then [41] else []))).length<=1000000:=hT
   replace hR:R .next [some (.ref a),some (.str (w++([91]++rowTs us++[93,40]++g++(if b then [41] else [])))),some (W8 a2 (some g) b)] H:=hR
   rw [<- A7,<- A7,<- A7,<- A7] at hR hT
   exact D4 (fun zz h=>h) (D4 (fun zz h=>h) (D4 (fun zz h=>h) (D4 (fun zz h=>h) (D4 (fun zz h=>h) (C6 (R3 (R3 (R3 (fun zz h=>h) N0 (pre (pre (pre (pre hT))))) (ih1 hgt.1 hgt.2.2 hra (pre (pre (pre hT))) (fun zz h=>h)) (pre (pre (pre hT)))) N0 (pre (pre hT))) (C6 (R3 (R3 (fun zz h=>h) (fun zz h=>h) (pre hT)) (D6 N0 (fR (fun zz h=>h)) Bw8) hT) hR))))))
theorem mE:∀ (m d n:Nat),d+m=12->LRs d (n+m+1)
 | 0,d,n,h=>sS fun q=>absurd h (Nat.ne_of_lt q)
 | m+1,d,n,h=>sS fun zz=>mE m (d+1) n ((Nat.add_right_comm d 1 m).trans h)
theorem zR {C:Calls}{ρ:D7}{H:Heap}{o a:E}{s:List Nat}{c:Nat}(ho:Ev C ρ H o (.str s)) (ha:Ev C ρ H a (.str [c])):Ev C ρ H (.lstrip o a) (.str (s.dropWhile (· == c))):=fun zz k=>ho _ (ha _ k)
theorem jD (c:Nat):∀ row:List Nat,(row.length:Int) - ((row.dropWhile (· == c)).length:Int)=(runL c row:Int)
 | []=>rfl
 | x::r=>by
  have ih:=jD c r
  by_cases h:x=c
  ·rw [List.dropWhile_cons_of_pos (by simpa using h)]
   have e:runL c (x::r)=runL c r+1:=if_pos h
   rw [e,List.length_cons,Int.natCast_succ,Int.natCast_succ,<- ih,Int.sub_eq_add_neg,Int.sub_eq_add_neg,Int.add_right_comm]
  ·rw [List.dropWhile_cons_of_neg (by simpa using h)]
   have e:runL c (x::r)=0:=if_neg h
   rw [e];exact Int.sub_self _
theorem Cn1 {k:Nat}{H:Heap}:Q6 .isin (.int (k:Nat)) (.tup [.int 1,.int 2,.int 3,.int 4,.int 5,.int 6]) H=some (decide (1<=k)&&decide (k<=6)):=by
 match k with
 | 0=>rfl
 | 1=>rfl
 | 2=>rfl
 | 3=>rfl
 | 4=>rfl
 | 5=>rfl
 | 6=>rfl
 | k+7=>rfl
theorem Cp7 {deep:Nat}{row:List Nat}(h0:(row==[])=false) (h1:isQ deep row=false) (h2:isRun 35 6 row=false) (h3:isRun 45 9 row=false):(shp deep row).k=4:=by
 cases row with
 | nil=>cases h0
 | cons x r =>
  show (shpN deep (x::r)).k=4
  unfold shpN
  rw [h1,h2,h3];rfl
theorem Cw7 {deep:Nat}{r:List Nat}:(shp deep (122::r)).k=4:=Cp7 rfl (by unfold isQ;cases r<;>simp) rfl rfl
noncomputable def iL (deep:Nat) (row:List Nat):Bool :=
 bif decide (1<=runL 35 row)&&decide (runL 35 row<=6)&&((row.drop (runL 35 row)).take 1==[32]) then false
 else bif decide ((0:Int)<(runL 45 row:Int))&&decide ((runL 45 row:Int)<10)&&((row.drop (runL 45 row)).take 1==[32]) then false
 else (!(row==[])&&(!(slice row none (some 2)==[62,32])||(deep:Int)==9))
theorem wM {n deep:Nat}{row:List Nat}{H:Heap}(hd:deep<=9) (Q:C2) (h:∀ b,b=iL deep row->(b=true->(shp deep row).k=4)->Q (.bool b) H):C1 P (n+1) "_law_plain_row" [.str row,.int (deep:Nat)] Q H:=by
 have sp:∀ {x k:Nat}{ρ:D7}{C:Calls},ρ[0]? = some (some (.str row))->ρ[x]? = some (some (.int (k:Nat)))->Ev C ρ H (.cmp .eq (.slc (.var 0) (.var x) (.bin .add (.var x) (.int 1))) (.str [32])) (.bool ((row.drop k).take 1==[32])):=fun h0 hx=>Cj9 h0 hx
 refine jI (C6 (lT (D6 (K0 (fun zz h=>h) uG) (K0 (zR (fun zz h=>h) N0) uG) nH) (congrArg V.int (jD 35 row))) (C6 (lT (D6 (K0 (fun zz h=>h) uG) (K0 (zR (fun zz h=>h) N0) uG) nH) (congrArg V.int (jD 45 row))) ?_))
 refine T1 (E5 (C7 (fun zz h=>h) (fun zz h=>h) Cn1) fun zz=>G8 (sp rfl rfl)) (fun h2=>I6 (fun zz h=>h) (h false (by unfold iL;rw [h2];rfl) fun q=>nomatch q)) (fun h2=>?_)
 refine T1 (E5 (Ck6 C8 (fun zz h=>h) C8 X3 X3) fun zz=>G8 (sp rfl rfl)) (fun h3=>I6 (fun zz h=>h) (h false (by unfold iL;rw [h2,h3];rfl) fun q=>nomatch q)) (fun h3=>?_)
 refine I6 (ss:=[]) (E5 (C7 (fun zz h=>h) N0 mQ) fun zz=>G8 (R1 (C7 (Bi0 (fun zz h=>h) C8 uF) N0 mQ) fun zz=>Y3 (C7 (fun zz h=>h) C8 U2))) (h _ (by unfold iL;rw [h2,h3];rfl) fun q=>?_)
 obtain ⟨q1,q2⟩:=Bool.and_eq_true_iff.mp q
 refine Cp7 (by simpa using q1) ?_ ?_ ?_
 ·unfold isQ
  have e:slice row none (some 2)=row.take 2:=zJ (by decide)
  rw [e] at q2
  cases hq:(row.take 2==[62,32]) with
  | false=>exact Bool.and_false _
  | true =>
   rw [hq] at q2
   have:deep=9:=Int.ofNat.inj (beq_iff_eq.mp q2)
   rw [this];rfl
 ·unfold isRun;rw [Bool.and_assoc] at h2;exact h2
 ·unfold isRun
  have e1:decide ((0:Int)<(runL 45 row:Int))=decide (1<=runL 45 row):=decide_eq_decide.mpr Int.natCast_pos
  have e2:decide ((runL 45 row:Int)<10)=decide (runL 45 row<=9):=decide_eq_decide.mpr (Int.ofNat_lt.trans Nat.lt_succ_iff)
  rw [e1,e2,Bool.and_assoc] at h3;exact h3
noncomputable def ahead (w:List Nat):List T->List T
 | []=>[.txt w]
 | .txt s::ts=>.txt (w++s)::ts
 | t::ts=>.txt w::t::ts
theorem qI {w:List Nat}{t:T}{ts:List T}(h:txT t=false):ahead w (t::ts)=.txt w::t::ts:=by
 cases t with
 | txt s=>cases h
 | _=>rfl
theorem jH {w:List Nat}{ts:List T}:rowTs (ahead w ts)=w++rowTs ts:=by
 cases ts with
 | nil=>rfl
 | cons t ts =>
  cases t with
  | txt s=>show (w++s)++rowTs ts=w++(s++rowTs ts);rw [A7]
  | _=>rfl
theorem K9 {w:List Nat}{t:T}{ts:List T}(h:ts≠[]∨txT t=false):ahead w (ts++[t])=ahead w ts++[t]:=by
 cases ts with
 | nil =>
  rcases h with h | h
  ·exact absurd rfl h
  ·exact qI h
 | cons u ts =>
  cases u with
  | txt s=>rfl
  | _=>rfl
theorem tW {w:List Nat}{ts:List T}(hn:fP ts) (h:ts≠[]):fP (ahead w ts)/\(bT (ahead w ts)->bT ts):=by
 rcases P1 ts with rfl | ⟨r,t,rfl⟩
 ·exact absurd rfl h
 ·have ht:txT t=false:=by
   cases t with
   | txt s=>exact absurd rfl (hn r s)
   | _=>rfl
  rw [K9 (Or.inr ht)]
  refine ⟨fun us s e=>?_,fun q=>?_⟩
  ·rw [Ao9 e] at ht;cases ht
  ·obtain ⟨vs,e⟩:=Ag1 (us:=r) q
   exact ⟨r,vs,by rw [e]⟩
theorem L8.ahead {deep:Nat}{kd:Kd}{w:List Nat}{ts:List T}(h:L8 deep kd ts) (h1:Q5 deep kd w) (h2:∀ s,Q5 deep kd s->Q5 deep kd (w++s)):L8 deep kd (ahead w ts):=by
 have n0:fP []:=fun us s q=>absurd q (by simp)
 have b0:¬ bT []:=Bk4 rfl
 induction h with
 | nil=>exact .txt (ts:=[]) .nil n0 h1 fun q=>absurd q b0
 | @txt deep kd ts s hg hn hp hb ih =>
  by_cases he:ts=[]
  ·subst he;exact .txt (ts:=[]) .nil n0 (h2 s hp) fun q=>absurd q b0
  ·rw [K9 (Or.inl he)]
   exact .txt (ih h1 h2) (tW hn he).1 hp fun q=>hb ((tW hn he).2 q)
 | kept _ ih=>rw [K9 (Or.inr rfl)];exact .kept (ih h1 h2)
 | code _ k ih=>rw [K9 (Or.inr rfl)];exact .code (ih h1 h2) k
 | span _ k1 k2 k3 ih _=>rw [K9 (Or.inr rfl)];exact .span (ih h1 h2) k1 k2 k3
 | link _ k1 k2 k3 ih _=>rw [K9 (Or.inr rfl)];exact .link (ih h1 h2) k1 k2 k3
theorem qP.ahead {deep:Nat}{kd:Kd}{w:List Nat}{ts:List T}(h:qP deep kd ts) (h1:Q5 deep kd w) (h2:∀ s,Q5 deep kd s->Q5 deep kd (w++s)):qP deep kd (ahead w ts):=by
 cases h with
 | good hg=>exact .good (hg.ahead h1 h2)
 | kept hg=>rw [K9 (Or.inr rfl)];exact .kept (hg.ahead h1 h2)
 | code hg k=>rw [K9 (Or.inr rfl)];exact .code (hg.ahead h1 h2) k
 | span hg k1 k2 k3=>rw [K9 (Or.inr rfl)];exact .span (hg.ahead h1 h2) k1 k2 k3
 | bare hg k1 k2=>rw [K9 (Or.inr rfl)];exact .bare (hg.ahead h1 h2) k1 k2
 | link hg k1 k2 k3=>rw [K9 (Or.inr rfl)];exact .link (hg.ahead h1 h2) k1 k2 k3
noncomputable def aw (w:List Nat):Bool:=w != []&&w.all (fun c=>mL c&&c != 92&&c != 96&&c != 91&&c != 42&&c != 95&&c != 126)&&decide (w.length<=10)
structure AW (w:List Nat):Prop where
 ne:w≠[]
 all:∀ c∈w,mL c=true/\c≠92/\c≠96/\c≠91/\[42,95,126].contains c=false
 len:w.length<=10
theorem Ci3 {w:List Nat}(h:aw w=true):AW w:=by
 obtain ⟨h,h3⟩:=Bool.and_eq_true_iff.mp h
 obtain ⟨h1,h2⟩:=Bool.and_eq_true_iff.mp h
 refine ⟨by simpa using h1,fun c hc=>?_,of_decide_eq_true h3⟩
 have:=List.all_eq_true.mp h2 c hc
 simp only [Bool.and_eq_true,bne_iff_ne] at this
 refine ⟨this.1.1.1.1.1.1,this.1.1.1.1.1.2,this.1.1.1.1.2,this.1.1.1.2,?_⟩
 cases hq:[42,95,126].contains c with
 | false=>rfl
 | true =>
  have hm:=List.contains_iff_mem.mp hq
  rcases List.mem_cons.mp hm with q | hm
  ·exact absurd q this.1.1.2
  ·rcases List.mem_cons.mp hm with q | hm
   ·exact absurd q this.1.2
   ·exact absurd (List.mem_singleton.mp hm) this.2
theorem AW.plain {w:List Nat}{s:List Nat}(h:AW w) (hs:∀ c∈s,c≠92/\c≠96/\(0<12->c≠91)) (hp:∀ a b c,s=a++c::40::b->[42,95,126].contains c=false):Q5 0 .top (w++s):=by
 refine ⟨fun q=>h.ne (List.append_eq_nil_iff.mp q).1,fun c hc=>?_,fun zz a b c e=>?_⟩
 ·rcases List.mem_append.mp hc with q | q
  ·have:=h.all c q
   exact ⟨this.2.1,this.2.2.1,(fun q=>nomatch q),(fun q=>nomatch q),fun zz=>this.2.2.2.1⟩
  ·exact ⟨(hs c q).1,(hs c q).2.1,(fun q=>nomatch q),(fun q=>nomatch q),(hs c q).2.2⟩
 ·rcases List.append_eq_append_iff.mp e with ⟨r,e1,e2⟩ | ⟨r,e1,e2⟩
  ·exact hp r b c e2
  ·cases r with
   | nil=>exact hp [] b c e2.symm
   | cons x r =>
    have:x=c:=(List.cons.inj e2).1.symm
    subst this
    exact (h.all x (by rw [e1];exact List.mem_append.mpr (Or.inr (.head _)))).2.2.2.2
structure PT (ts:List T) (N:Nat):Prop where
 op:qP 0 .top ts
 sg:Sg (rowTs ts)
 len:(rowTs ts).length<=N
theorem PT.ct {ts:List T}{N:Nat}(h:PT ts N) (hN:N<=900000):Ct ts:=⟨h.sg,Cm4 h.op.back,A3 h.len hN⟩
theorem PT.ahead {w:List Nat}{ts:List T}{N:Nat}(h:PT ts N) (hw:AW w):PT (ahead w ts) (N+10):=by
 refine ⟨h.op.ahead ?_ ?_,?_,?_⟩
 ·have:=hw.plain (s:=[]) (fun c q=>nomatch q) (fun a b c e=>absurd e (by simp))
  rw [List.append_nil] at this
  exact this
 ·intro s hs
  exact hw.plain (fun c q=>⟨(hs.all c q).1,(hs.all c q).2.1,(hs.all c q).2.2.2.2⟩) (hs.pair (by decide))
 ·rw [jH];exact Sg.app (fun c q=>(hw.all c q).1) h.sg
 ·rw [jH,A6];have:=h.len;have:=hw.len;lia
noncomputable def iC {α:Type}:List α->Bool
 | []=>false
 | _::_=>true
theorem Co1 {C:Calls}{ρ:D7}{H:Heap}{xs:List X}{a lo hi m:Nat}{e:E}(he:Ev C ρ H e (.ref a)) (hm:m<100) (hf:M1 W m (.lst xs)) (ho:qS xs) (h:J0 H (.lst xs) lo hi (.ref a)) (hh:hi<=H.length):T9 C ρ H (.cmp .eq e (.list [])) (.bool (!iC xs)) (fun G=>G=H++[[]]) :=
 yA (fF he) (fun G g=>by subst g;exact lX) fun G g=>by
  subst g
  cases xs with
  | nil=>exact Cj8 (w:=W) hm hf ho (h.grow .one hh) (N9 (lo:=H.length) (hi:=H.length+1) ⟨A4 _,B1 _,A4 _,B8 _⟩ E0 (.nil (A4 _)))
  | cons x xs=>exact Bw7 hm hf ho (h.grow .one hh) E0
theorem Ak9 {C:Calls}{ρ:D7}{H:Heap}{xs:List X}{a lo hi m:Nat}{e:E}(he:Ev C ρ H e (.ref a)) (hm:m<100) (hf:M1 W m (.lst xs)) (ho:qS xs) (h:J0 H (.lst xs) lo hi (.ref a)) (hh:hi<=H.length):T9 C ρ H (.cmp .ne e (.list [])) (.bool (iC xs)) (fun G=>G=H++[[]]) :=
 yA (fF he) (fun G g=>by subst g;exact lX) fun G g=>by
  subst g
  have q:Q6 .eq (.ref a) (.ref H.length) (H++[[]])=some (!iC xs):=by
   cases xs with
   | nil=>exact Cj8 (w:=W) hm hf ho (h.grow .one hh) (N9 (lo:=H.length) (hi:=H.length+1) ⟨A4 _,B1 _,A4 _,B8 _⟩ E0 (.nil (A4 _)))
   | cons x xs=>exact Bw7 hm hf ho (h.grow .one hh) E0
  have q2:=congrArg (Option.map not) q
  exact q2.trans (congrArg some (Bool.not_not _))
theorem Bk9 {C:Calls}{ρ:D7}{H:Heap}{Φ:Heap->Prop}{e f:E}{es:List E}(h1:T9 C ρ H e (.bool false) Φ):T9 C ρ H (.and (e::f::es)) (.bool false) Φ:=fun Q k=>h1 _ fun G g=>k G g
theorem Ce9 {C:Calls}{ρ:D7}{H:Heap}{R:E2}{ss:List S}{Φ:Heap->Prop}{c:E}{t f:List S}(hc:T9 C ρ H c (.bool false) Φ) (k:∀ G,Φ G->C4 C f ρ (K6 C ss R) G):C4 C (.ite c t f::ss) ρ R H:=hc _ fun G g=>k G g
noncomputable def AhQ (H:Heap) (ts:List T) (lo:Nat) (Q:C2):Prop:=∀ c G,E6 H G->J0 G (.lst (G9 ts)) lo G.length (.ref c)->Q (.ref c) G
theorem Ad2 {n a lo hi N:Nat}{w:List Nat}{ts:List T}{H:Heap}{Q:C2}(hw:w.length<=10) (hp:PT ts N) (hN:N<=10000) (hr:J0 H (.lst (G9 ts)) lo hi (.ref a)) (hh:hi<=H.length) (h:AhQ H (ahead w ts) lo Q):C1 P (n+1) "_law_ahead" [.str w,.ref a] Q H:=by
 have hlim:I8=16777216:=rfl
 have hct:=hp.ct (A3 hN (by decide))
 have en:=Ak9 (C:=C1 P n) (ρ:=[some (.str w),some (.ref a)]) (e:=.var 1) (by exact fun zz h=>h) (by decide:26<100) hct.fit (jS hct.good) hr hh
 obtain ⟨a',l,p,q,e,hb,ha,hrl⟩:=hr
 cases e
 have hll:l.length<=10000:=by
  have h1:=hct.fit.1
  rw [hrl.len,S1]
  have:ts.length<=(rowTs ts).length:=by
   cases hp.op with
   | good hg=>exact hg.len
   | kept hg=>rw [I4,A6,A6];exact Nat.add_le_add hg.len (by show 1<=(rowTs [_]).length;rw [H7];exact B3 (B0 _))
   | code hg _=>rw [I4,A6,A6];exact Nat.add_le_add hg.len (by show 1<=(rowTs [_]).length;rw [H7];exact B3 (B0 _))
   | span hg _ _ _=>rw [I4,A6,A6];exact Nat.add_le_add hg.len (by show 1<=(rowTs [_]).length;rw [H7];exact B3 (B0 _))
   | bare hg _ _=>rw [I4,A6,A6];exact Nat.add_le_add hg.len (by show 1<=(rowTs [_]).length;rw [H7];exact B3 (B0 _))
   | link hg _ _ _=>rw [I4,A6,A6];exact Nat.add_le_add hg.len (by show 1<=(rowTs [_]).length;rw [H7];exact B3 (B0 _))
  exact A3 this (A3 hp.len hN)
 have ha1:(H++[[]])[a]? = some l:=J5 ha
 have els:ahead w ts=.txt w::ts->C4 (C1 P n) [.ret (.bin .add (.list [.var 0]) (.var 1))] [some (.str w),some (.ref a)] (D8 Q) (H++[[]]):=fun e=>by
  refine U1 (rP (aJ (I5 (v:=.str w) (by exact fun zz h=>h) (I1 ?_))))
  refine Y4 rfl (nC E0 (J5 ha1) (A3 (Nat.add_le_add_left hll 1) (by show 1+10000<=16777216;decide)) ?_)
  have gr:E6 H (H++[[]]++[[V.str w]]++[[V.str w]++l]):=(E6.one.trans .one).trans .one
  refine h _ _ gr ?_
  rw [e]
  refine N9 ⟨?_,?_,hb.lp,?_⟩ E0 (.atom (a:=.s w) (hrl.to (gr.old.sub (B0 _) (A3 hb.qh hh))))
  ·rw [L7,L7];exact A3 hb.la (A3 (B5 hb.ah) (A3 hh (B4 _ 2)))
  ·rw [L7 (H:=H++[[]]++[[V.str w]])];exact B1 _
  ·exact A3 hb.qh (A3 hh gr.len)
 refine wY ?_
 cases ts with
 | nil=>exact Q4 (Bk9 en) fun G g=>by subst g;exact els rfl
 | cons t ts =>
  obtain ⟨v,r,m,rfl,hm1,hv,hrr⟩:=hrl
  have e1:∀ G,G=H++[[]]->T9 (C1 P n) [some (.str w),some (.ref a)] G (.and [.isinst (.idx (.var 1) (.int 0)) .str]) (.bool (cR v .str)) (fun G=>G=H++[[]]):=fun G g=>by
   subst g
   exact bR (fF (nA (E4 (by exact fun zz h=>h) C8 (S3 (i:=0) ha1 rfl))))
  cases ht:txT t with
  | false =>
   have hf:cR v .str=false:=by
    cases t with
    | txt s=>cases ht
    | kept s=>rw [cX hv];rfl
    | code s b=>rw [cY hv];rfl
    | span c us b=>obtain ⟨_,e,_⟩:=cU hv;rw [e];rfl
    | link us g b=>obtain ⟨_,e,_⟩:=cW hv;rw [e];rfl
   rw [hf] at e1
   exact Q4 (V7 en e1) fun G g=>by subst g;exact els (qI ht)
  | true =>
   obtain ⟨s,rfl⟩:∃ s,t=.txt s:=by
    cases t with
    | txt s=>exact ⟨s,rfl⟩
    | _=>cases ht
   obtain rfl:v=.str s:=hv
   refine cS (V7 en e1) fun G g=>?_
   subst g
   have hs:s.length<=10000:=by
    have:=hp.len
    replace this:(s++rowTs ts).length<=N:=this
    rw [A6] at this
    exact A3 (B4 _ _) (A3 this hN)
   refine U1 (rP (aJ (I5 (v:=.str (w++s)) (D6 (by exact fun zz h=>h) (E4 (by exact fun zz h=>h) C8 (S3 (i:=0) ha1 rfl)) (aI (A3 (Nat.add_le_add hw hs) (by show 10+10000<=16777216;decide)))) (I1 ?_))))
   have sl:dL (.ref a) (some 1) none (H++[[]]++[[V.str (w++s)]])=some (.ref (H++[[]]++[[V.str (w++s)]]).length,H++[[]]++[[V.str (w++s)]]++[r]):=by
    show ((H++[[]]++[[V.str (w++s)]])[a]?).map _=_
    rw [J5 ha1]
    show some (_,_++[slice (V.str s::r) (some 1) none])=_
    rw [W1 (by decide)];rfl
   have e2:∀ Q:C2,Q (.ref (H++[[]]++[[V.str (w++s)]]).length) (H++[[]]++[[V.str (w++s)]]++[r])->D9 (C1 P n) (.slcL (.var 1) (.int 1)) [some (.str w),some (.ref a)] Q (H++[[]]++[[V.str (w++s)]]):=fun Q q=>by
    show res (dL (.ref a) (some 1) none (H++[[]]++[[V.str (w++s)]])) Q
    rw [sl];exact q
   refine e2 _ (nC (J5 E0) E0 (by rw [Nat.add_comm];exact A3 hll (by show 10000<=16777216;decide)) ?_)
   have gr:E6 H (H++[[]]++[[V.str (w++s)]]++[r]++[[V.str (w++s)]++r]):=((E6.one.trans .one).trans .one).trans .one
   refine h _ _ gr ?_
   refine N9 ⟨?_,?_,A3 hb.lp hm1,?_⟩ E0 (E8.atom (a:=.s (w++s)) (hrr.to (gr.old.sub (B0 _) (A3 hb.qh hh))))
   ·rw [L7,L7,L7];exact A3 hb.la (A3 (B5 hb.ah) (A3 hh (B4 _ 3)))
   ·rw [L7 (H:=H++[[]]++[[V.str (w++s)]]++[r])];exact B1 _
   ·exact A3 hb.qh (A3 hh gr.len)
noncomputable def fX:List (List Nat):=[[35],[35,35,97],[45],[45,45,45],[35,35,35,35,35,35,35,35],[62,97],[62],[45,45,45,45,45,45,45,45,45,45],[45,53],[35,35,35,35,35,35,35],[62,32],[62,62]]
theorem Bc8:fX.all aw=true:=by rfl
theorem Bc7 {H:Heap}{lo hi j:Nat}{l:List V}{v:V}(h:E8 H (fX.map fun w=>.at (.s w)) lo hi l) (hv:l[j]? = some v):∃ w,fX[j]? = some w/\v=.str w:=by
 obtain ⟨x,hx,hr⟩:=Ai6 h hv
 rw [C0] at hx
 obtain ⟨w,hw,rfl⟩:=Option.map_eq_some_iff.mp hx
 exact ⟨w,hw,hr⟩
structure PlD (H:Heap) (deep lo N:Nat) (ts:List T) (c:Nat) (G:Heap):Prop where
 pt:PT ts N
 k4:(shp deep (rowTs ts)).k=4
 gr:E6 H G
 rep:J0 G (.lst (G9 ts)) lo G.length (.ref c)
noncomputable def iO (ts:List T) (k:Int):List T:=bif k % 3==1 then ahead ((fX[(k / 3 % 12).toNat]?).getD []) ts else ts
noncomputable def Z5 (ts:List T) (k:Int) (deep:Nat):List T:=bif iL deep (rowTs (iO ts k)) then iO ts k else ahead [122] (iO ts k)
theorem pG {n a lo hi N deep:Nat}{k:Int}{ts:List T}{H:Heap}{Q:C2}(hd:deep<=9) (hp:PT ts N) (hN:N<=9000) (hr:J0 H (.lst (G9 ts)) lo hi (.ref a)) (hh:hi<=H.length) (h:∀ ts' c G,ts'=Z5 ts k deep->PlD H deep lo (N+20) ts' c G->Q (.ref c) G):C1 P (n+14) "_law_plainly" [.ref a,.int k,.int (deep:Nat)] Q H:=by
 have rest:∀ {ts1 a hi G x3},iO ts k=ts1->PT ts1 (N+10)->E6 H G->J0 G (.lst (G9 ts1)) lo hi (.ref a)->hi<=G.length->C4 (C1 P (n+13)) (X7.drop 1) [some (.ref a),some (.int k),some (.int (deep:Nat)),x3] (D8 Q) G:=fun {ts1 a hi G x3} het hp g hr hh=>by
  have hct:=hp.ct (A3 (Nat.add_le_add_right hN 10) (by decide))
  have ev:∀ Q:C2,(∀ b,b=iL deep (rowTs ts1)->(b=true->(shp deep (rowTs ts1)).k=4)->Q (.bool b) G)->D9 (C1 P (n+13)) (.call "_law_plain_row" [.call "_law_row" [.var 0],.var 2]) [some (.ref a),some (.int k),some (.int (deep:Nat)),x3] Q G:=fun Q q =>
   M6 (M5 (M6 (I5 (v:=.ref a) (by exact fun zz h=>h) (I1 (mE 12 0 n rfl ts1 a lo hi G _ hct.good hr (A3 hct.len (by decide)) (I5 (v:=.int (deep:Nat)) (by exact fun zz h=>h) (I1 (wM (n:=n+12) hd Q q))))))))
  refine ev _ fun b hbe hb=>?_
  cases b with
  | true=>exact I6 (ss:=[]) (by exact fun zz h=>h) (h ts1 a G (by unfold Z5;rw [het,<- hbe];rfl) ⟨⟨hp.op,hp.sg,A3 hp.len (Nat.add_le_add_left (by decide) N)⟩,hb rfl,g,hr.wide (A4 _) hh⟩)
  | false =>
   refine At0 (ss:=[]) (vs:=[.str [122],.ref a]) (by exact fun zz h=>h) (Ad2 (n:=n+12) (by decide) hp (A3 (Nat.add_le_add_right hN 10) (by decide)) hr hh fun c G' g' hr'=>?_)
   exact h _ c G' (by unfold Z5;rw [het,<- hbe];rfl) ⟨hp.ahead (Ci3 rfl),by rw [jH];exact Cw7,g.trans g',hr'⟩
 refine qO (T1 (b:=k % 3==1) (C7 (D6 (by exact fun zz h=>h) C8 (N1 (by decide))) C8 U2) (fun hq=>?_) (fun hq=>?_))
 ·refine P2 (nM (.lst (fX.map fun w=>.at (.s w))) _ _ fun v G g r=>?_)
  obtain ⟨b,l,p,q,rfl,hb,hbl,hrb⟩:=r
  have hl:l.length=12:=hrb.len
  obtain ⟨j,hj⟩:=Int.eq_ofNat_of_zero_le (Int.emod_nonneg (k / 3) (by decide:(12:Int)≠0))
  have hj12:j<l.length:=by rw [hl];exact Int.ofNat_lt.mp (hj▸Int.emod_lt_of_pos _ (by decide))
  have hv:l[j]? = some l[j]:=List.getElem?_eq_getElem hj12
  obtain ⟨w,hw,e⟩:=Bc7 hrb hv
  rw [e] at hv
  have haw:=Ci3 (List.all_eq_true.mp Bc8 w (B9 hw))
  refine bZ (C9 (E4 (by exact fun zz h=>h) (lT (D6 (D6 (by exact fun zz h=>h) C8 (M0 (by decide))) C8 (N1 (by decide))) (congrArg V.int hj)) (S3 hbl hv)) (C9 (by exact fun zz h=>h) K5)) (Ad2 (n:=n+12) haw.len hp (A3 hN (by decide)) (hr.grow g hh) (A3 hh g.len) fun c G' g' hr'=>?_)
  exact rest (by unfold iO;rw [hq,hj,Int.toNat_natCast,hw];rfl) (hp.ahead haw) (g.trans g') hr' (A4 _)
 ·exact rest (by unfold iO;rw [hq];rfl) ⟨hp.op,hp.sg,A3 hp.len (B4 _ _)⟩ .refl hr hh
inductive Ct7 (C:Calls) (c:E) (b:List S) (Q:E2) (ρ:D7) (H:Heap) (K:D7->Heap->Prop):Prop
 | go (Φ:Heap->Prop) (hc:T9 C ρ H c (.bool true) Φ) (hb:∀ G,Φ G->C4 C b ρ (dO Q K) G)
 | stop (Φ:Heap->Prop) (hc:T9 C ρ H c (.bool false) Φ) (hq:∀ G,Φ G->Q .next ρ G)
theorem Cm9 {C:Calls}{c:E}{b:List S}{Q:E2}{σ:Type}(env:σ->D7) (I:σ->Heap->Prop) (μ:σ->Nat)
  (step:∀ s H,I s H->∀ K:D7->Heap->Prop,(∀ s' H',μ s'<μ s->I s' H'->K (env s') H')->Ct7 C c b Q (env s) H K) (s:σ) {H:Heap}(h:I s H):iA C (.whl c b) (env s) Q H:=by
 refine zA (fun m ρ H=>∃ s,m=μ s/\ρ=env s/\I s H) (fun k ρ H hI K hK=>?_) (μ s) ⟨s,rfl,rfl,h⟩
 obtain ⟨s,rfl,rfl,hI⟩:=hI
 rcases step s H hI K (fun s' H' hm h'=>hK (μ s') _ _ hm ⟨s',rfl,rfl,h'⟩) with ⟨Φ,hc,hb⟩ | ⟨Φ,hc,hq⟩
 ·exact hc _ hb
 ·exact hc _ hq
theorem Pth.nd {H:Heap}{lo hi:Nat}{a d b:Nat}{es fs:List En}(h:Pth a es d b fs):∀ {q:Nat},lo<=q->Nd H q hi a es->∃ r,lo<=r/\Nd H r hi b fs:=by
 induction h with
 | here=>intro q hq h;exact ⟨q,hq,h⟩
 | @down a d b p r a' es fs es' xs vs _ ih =>
  intro q hq h
  obtain ⟨m,k1,k2⟩:=h.2.cut
  have:=k2.1.2.le
  exact ih (q:=r) (A3 hq (A3 k1.le (A3 k2.1.1 this))) k2.2
theorem rJ.io {N a d b:Nat}{is js:List It}{es fs:List En}(h:rJ N a is es d b js fs):∀ {above:Nat},dJ above 9 is->(∃ ab,dJ ab 9 js)/\cnts js<=cnts is:=by
 induction h with
 | here=>intro above h;exact ⟨⟨above,h⟩,A4 _⟩
 | @down a d b n p q a' is sub js es fs es' ts v h1 h2 _ ih =>
  intro above h
  obtain ⟨k1,k2⟩:=ih (dJ.snoc2.mp h).2.2.2
  refine ⟨k1,A3 k2 ?_⟩
  rw [Z9]
  exact A3 (B8 _) (Nat.le_add_left _ _)
noncomputable def insF:Nat->Nat->It->List It->List It
 | 0,_,x,is=>is++[x]
 | f+1,N,x,is=>match is.getLast? with
  | some (.it n ts sub)=>bif decide (n<N) then is.dropLast++[.it n ts (insF f N x sub)] else is++[x]
  | none=>is++[x]
theorem sX {f N n:Nat}{x:It}{ts:List T}{sub is:List It}(h:is.getLast? = some (It.it n ts sub)):insF (f+1) N x is=bif decide (n<N) then is.dropLast++[.it n ts (insF f N x sub)] else is++[x]:=by
 show (match is.getLast? with | some (It.it n ts sub)=>bif decide (n<N) then is.dropLast++[It.it n ts (insF f N x sub)] else is++[x] | none=>is++[x])=_
 rw [h]
theorem rJ.insF {N a d b:Nat}{is js:List It}{es fs:List En}{x:It}(h:rJ N a is es d b js fs) (hl:∀ i,js.getLast? = some i->N<=dsh i):∀ {f:Nat},dIs is<=f->insF f N x is=insAt d is x:=by
 induction h with
 | @here a is es _ =>
  intro f _
  cases f with
  | zero=>rfl
  | succ f =>
   cases hq:is.getLast? with
   | none =>
    show (match is.getLast? with | some (It.it n ts sub)=>bif decide (n<N) then is.dropLast++[It.it n ts (L13.insF f N x sub)] else is++[x] | none=>is++[x])=_
    rw [hq];rfl
   | some i =>
    obtain ⟨n,ts,sub⟩:=i
    have:N<=n:=hl _ hq
    rw [sX hq,decide_eq_false (Nat.not_lt_of_le this)];rfl
 | @down a d b n p q a' is sub js es fs es' ts v h1 h2 _ ih =>
  intro f hf
  rw [wE] at hf
  have h3:dIs sub+1<=f:=A3 (Nat.le_max_left _ 0) (A3 (Nat.le_max_right (dIs is) _) hf)
  cases f with
  | zero=>exact absurd h3 (Nat.not_succ_le_zero _)
  | succ f =>
   rw [sX List.getLast?_concat,decide_eq_true h1,List.dropLast_concat,R0,ih hl (Nat.le_of_succ_le_succ h3)];rfl
structure IZ2 where
 d:Nat
 c:Nat
 js:List It
 fs:List En
structure ItD (H0:Heap) (ctx:List (List Bk)) (cs:List Bk) (is:List It) (N:Nat) (ts:List T) (as:List Nat) (b:Nat) (G:Heap):Prop where
 ex:∃ is' bs' rt' fs',TS H0 ctx (cs++[.list is']) as b bs' rt' fs' G/\dJ 0 9 is'/\is'≠[]/\szIs is'=szIs is+((rowTs ts).length+30)/\is'=insF 9 N (.it N ts []) is
theorem Ce6 {n N pa:Nat}{H0 H G:Heap}{ctx:List (List Bk)}{cs:List Bk}{is:List It}{as:List Nat}{b:Nat}{bs:List Bk}{rt gs es:List En}{pp a:Nat}{ts:List T}{Q:C2}(hN:1<=N/\N<=9) (hct:Ct ts) (hio:dJ 0 9 is) (hc:cnts is<=900000)
  (h:TS H0 ctx (cs++[.list is]) as b bs rt (gs++[two nL pp a es]) H) (hcs:W7 cs gs) (his:Y2 is es) (g:E6 H G) (hr:J0 G (.lst (G9 ts)) H.length G.length (.ref pa)) (hQ:∀ G',ItD H0 ctx cs is N ts as b G'->Q .none G') :
  C1 P (n+1) "_law_item" [.ref a,.int (N:Nat),.ref pa] Q G:=by
 have hlim:I8=16777216:=rfl
 have hW:W=1000000:=rfl
 refine Af5 (I3 (Cm9 (σ:=IZ2) (fun z=>[some (.ref z.c),some (.int (N:Nat)),some (.ref pa)]) (fun z G'=>E6 G G'/\rJ N a is es z.d z.c z.js z.fs) (fun z=>dIs z.js) (fun z G' hI K hK=>?_) ⟨0,a,is,es⟩ ⟨.refl,.here his⟩))
 obtain ⟨d,c,js,fs⟩:=z
 obtain ⟨g',hp⟩:=hI
 replace hp:rJ N a is es d c js fs:=hp
 have hgg:=g.trans g'
 have hpw:Pth b (gs++[two nL pp a es]) (d+1) c fs:=.down hp.pth
 obtain ⟨⟨ab,hjo⟩,hjc⟩:=hp.io hio
 obtain ⟨r,hr0,hn⟩:=(h.zp.pth.more hpw).nd (A4 _) (h.up hgg)
 have hrep:=hn.rep
 rw [hp.cur.x] at hrep
 have hjd:dIs js<=9:=A3 (hjo.deep (A4 _)) (Nat.sub_le _ _)
 have hjW:cnts js<=W:=A3 hjc (A3 hc (by decide))
 have hfit:M1 W 45 (.lst (aG js)):=M1.lst (m:=2 * 9+26) (by rw [Z8];exact A3 (Z6 js) hjW) (mH hjd hjW (uX hjo))
 have en:=Ak9 (C:=C1 P n) (ρ:=[some (.ref c),some (.int (N:Nat)),some (.ref pa)]) (e:=.var 0) (by exact fun zz h=>h) (by decide:45<100) hfit (yG hjo) hrep hgg.len
 have hcl:∀ x,(G'++[x])[c]? = some (fs.map jJ):=fun x=>J5 hn.1.2.2.2
 have fin:(∀ i,js.getLast? = some i->N<=dsh i)->K6 (C1 P n) [.expr (.append (.var 0) (.tup [.var 1,.var 2,.list []]))] (D8 Q) .next [some (.ref c),some (.int (N:Nat)),some (.ref pa)] (G'++[[]]):=fun hl=>by
  have hg2:E6 H (G'++[[]]++[[]]):=(hgg.trans .one).trans .one
  have hg1:E6 G (G'++[[]]++[[]]):=(g'.trans .one).trans .one
  have l2:(G'++[[]]++[[]]).length=(G'++[[]]).length+1:=L7
  have l1:(G'++[[]]:Heap).length=G'.length+1:=L7
  have hGG:=g'.len
  have hok:Ok (G'++[[]]++[[]]) (xM N ts (.ref pa) H.length (G'++[[]]:Heap).length (G'++[[]]:Heap).length []) H.length (G'++[[]]++[[]]).length :=
   ⟨⟨A4 _,.atom (a:=.i (N:Nat)) (.one (by rw [l1];have:=hgg.len;exact M4 this) ((hr.grow hg1 (A4 _)).wide (A4 _) (by rw [l1];exact M4 hGG)))⟩,⟨A4 _,by rw [l2];exact B1 _,(fun q=>q.elim),E0⟩,by show _<=_;rw [l2];exact B8 _⟩
  have hx:RIt (.it N ts []) (xM N ts (.ref pa) H.length (G'++[[]]:Heap).length (G'++[[]]:Heap).length []):=⟨_,_,_,_,_,rfl,rfl⟩
  have hins:=hp.ins hx
  have e2:S5 (d+1) (gs++[two nL pp a es]) (xM N ts (.ref pa) H.length (G'++[[]]:Heap).length (G'++[[]]:Heap).length [])=gs++[two nL pp a (S5 d es (xM N ts (.ref pa) H.length (G'++[[]]:Heap).length (G'++[[]]:Heap).length []))]:=U8
  have hrb:RBk (.list (insAt d is (.it N ts []))) (two nL pp a (S5 d es (xM N ts (.ref pa) H.length (G'++[[]]:Heap).length (G'++[[]]:Heap).length []))):=⟨_,_,_,rfl,hins⟩
  obtain ⟨k1,bs',rt',k2⟩:=h.put hg2 hok hpw (cur':=cs++[.list (insAt d is (.it N ts []))]) (by rw [e2];exact hcs.add hrb)
  have hins2:insAt d is (.it N ts [])≠[]:=fun q=>by
   have:=oG d is (.it N ts [])
   rw [q] at this
   exact nomatch (show 0=cnts is+1 from this)
  refine N4 (a:=c) (by exact fun zz h=>h) (T2 (I5 (v:=.int (N:Nat)) (by exact fun zz h=>h) (I5 (v:=.ref pa) (by exact fun zz h=>h) (Z2 (K2 (J5 (hcl [])) ?_ (hQ _ ⟨_,bs',rt',_,k2,hp.order hN hct hl hN.1 hio,hins2,zW d is _,(hp.insF hl (hio.deep (A4 _))).symm⟩))))))
  rw [B6]
  have:fs.length=js.length:=by
   have:=congrArg List.length hp.cur.x
   rw [Z8] at this
   rw [<- this]
   have q:∀ es:List En,(dM es).length=es.length:=fun es=>by
    induction es with
    | nil=>rfl
    | cons e es ih=>exact congrArg (· + 1) ih
   exact (q fs).symm
  rw [this]
  exact A9 (A3 (Z6 js) (A3 hjc hc)) (by show 900000<16777216;decide)
 rcases P1 js with e | ⟨js',⟨m,us,sub⟩,e⟩
 ·subst e
  exact .stop _ (Bk9 en) fun G1 g1=>by subst g1;exact fin fun i q=>nomatch q
 ·subst e
  have hfull:iC (aG (js'++[.it m us sub]))=true:=by cases js'<;>rfl
  rw [hfull] at en
  obtain ⟨fs0,e0,hfs,_,v0,p0,q0,a0,es0,he0,_⟩:=hp.cur.cut
  subst he0
  have hlast:∀ {C:Calls},Ev C [some (.ref c),some (.int (N:Nat)),some (.ref pa)] (G'++[[]]) (.idx (.var 0) (.neg 1)) (.tup [.int (m:Nat),v0,.ref a0]):=E4 (by exact fun zz h=>h) V0 (J8 ((hcl []).trans (by rw [hfs,List.map_append];rfl)))
  have e1:∀ G1,G1=G'++[[]]->T9 (C1 P n) [some (.ref c),some (.int (N:Nat)),some (.ref pa)] G1 (.and [.cmp .lt (.idx (.idx (.var 0) (.neg 1)) (.int 0)) (.var 1)]) (.bool (decide ((m:Int)<(N:Int)))) (fun G1=>G1=G'++[[]]):=fun G1 q=>by
   subst q
   exact bR (fF (C7 (E4 hlast C8 aL) (by exact fun zz h=>h) X3))
  by_cases hm:m<N
  ·rw [decide_eq_true (Int.ofNat_lt.mpr hm)] at e1
   obtain ⟨gs1,v1,p1,q1,a1,es1,hfs1,hp1⟩:=hp.ext rfl hm
   have heq:xM m us v0 p0 q0 a0 es0=xM m us v1 p1 q1 a1 es1:=by
    have:=hfs.symm.trans hfs1
    exact (List.cons.inj (List.append_inj' this rfl).2).1
   have ha:a0=a1:=by injection heq
   subst ha
   refine .go _ (V7 en e1) fun G1 g1=>?_
   subst g1
   refine C6 (E4 hlast C8 (c:=.ref a0) rfl) (hK ⟨d+1,a0,sub,es1⟩ _ ?_ ⟨g'.trans .one,hp1⟩)
   show dIs sub<dIs (js'++[.it m us sub])
   rw [wE]
   exact A8 (B1 _) (A3 (Nat.le_max_left (dIs sub+1) 0) (Nat.le_max_right _ _))
  ·rw [decide_eq_false (fun q=>hm (Int.ofNat_lt.mp q))] at e1
   refine .stop _ (V7 en e1) fun G1 g1=>?_
   subst g1
   refine fin fun i q=>?_
   rw [List.getLast?_append] at q
   cases q
   exact Nat.le_of_not_lt hm
structure TI (H0:Heap) (N:Nat) (ctx:List (List Bk)) (cur:List Bk) (as:List Nat) (b:Nat) (bs:List Bk) (rt fs:List En) (H:Heap):Prop where
 ts:TS H0 ctx cur as b bs rt fs H
 bi:BI ctx cur N
abbrev rK:=List (List Bk)×List Bk
noncomputable def TX (H0:Heap) (N:Nat) (s:rK) (H:Heap):Prop:=∃ as b bs rt fs,TI H0 N s.1 s.2 as b bs rt fs H
section
variable {H0 H G:Heap}{N:Nat}{ctx:List (List Bk)}{cur:List Bk}{as:List Nat}{b:Nat}{bs:List Bk}{rt fs:List En}
theorem BI.fit (h:BI ctx cur N) (hN:N<=900000):M1 W 65 (.lst (L9 cur)):=by
 exact (Bl0 h.up.deep h.ok (A3 (A3 (Nat.le_add_left _ _) h.sz) (A3 hN (by decide)))).up (A4 _) (Nat.add_le_add_right (Nat.mul_le_mul_left 2 (Nat.sub_le 9 _)) 47)
theorem TI.grow (h:TI H0 N ctx cur as b bs rt fs H) (g:E6 H G):TI H0 N ctx cur as b bs rt fs G:=⟨h.ts.grow g,h.bi⟩
theorem TI.eqn {C:Calls}{ρ:D7}{e:E}(h:TI H0 N ctx cur as b bs rt fs H) (hN:N<=900000) (he:Ev C ρ H e (.ref b)):T9 C ρ H (.cmp .eq e (.list [])) (.bool (!iC cur)) (fun G=>G=H++[[]]) :=
 h_b (Co1 he (by decide:65<100) (h.bi.fit hN) (yH h.bi.ok) h.ts.here.2 (A4 _)) (by cases cur<;>rfl)
theorem TI.nen {C:Calls}{ρ:D7}{e:E}(h:TI H0 N ctx cur as b bs rt fs H) (hN:N<=900000) (he:Ev C ρ H e (.ref b)):T9 C ρ H (.cmp .ne e (.list [])) (.bool (iC cur)) (fun G=>G=H++[[]]) :=
 h_b (Ak9 he (by decide:65<100) (h.bi.fit hN) (yH h.bi.ok) h.ts.here.2 (A4 _)) (by cases cur<;>rfl)
theorem TI.plen (h:TI H0 N ctx cur as b bs rt fs H):(as.map V.ref).length=ctx.length+1:=by rw [B6];exact h.ts.zp.lens
theorem TI.pl (h:TI H0 N ctx cur as b bs rt fs H):∃ r,H[H0.length+1]? = some (r++[.ref b]):=by
 obtain ⟨r,e⟩:=h.ts.zp.last
 exact ⟨r.map V.ref,h.ts.pile.trans (by rw [e,List.map_append];rfl)⟩
theorem TI.flen (h:TI H0 N ctx cur as b bs rt fs H):(fs.map jJ).length<=N:=by
 have h1:=h.ts.here
 obtain ⟨a,l,p,q,e,_,ha,hr⟩:=h1.2
 cases e
 rw [h1.1] at ha
 cases ha
 rw [hr.len,aA]
 exact A3 (uU cur) (A3 (Nat.le_add_left _ _) h.bi.sz)
theorem TI.name {cs:List Bk}{c:Bk}(h:TI H0 N ctx cur as b bs rt fs H) (e:cur=cs++[c]):∃ r v l,H[b]? = some (r++[v])/\v=.tup (.str (fE c)::l):=by
 subst e
 obtain ⟨gs,e,rfl,h1,h2⟩:=h.ts.zp.typ.cut
 have h3:=h.ts.here.1
 rw [List.map_append] at h3
 have h4:=h.ts.here.2
 rw [Ac3] at h4
 obtain ⟨a,l,p,q,e',_,ha,hr⟩:=h4
 cases e'
 rw [h3] at ha
 cases ha
 obtain ⟨x,y,m,e2,_,hy⟩:=hr.cut
 obtain ⟨v,y',m',rfl,_,hv,_⟩:=hy
 have hy':y'=[]:=by
  have:=congrArg List.length e2
  have h5:=(by assumption:E8 H (L9 [c]).tail m' q y').len
  exact List.eq_nil_of_length_eq_zero h5
 subst hy'
 obtain ⟨e3,e4⟩:=List.append_inj' e2 rfl
 have e5:jJ e=v:=(List.cons.inj e4).1
 obtain ⟨l',hl'⟩:=Ch8 hv
 exact ⟨_,jJ e,l',h3,e5.trans hl'⟩
end
theorem BI.pop {ctx:List (List Bk)}{p cur:List Bk}{N:Nat}(h:BI (ctx++[p]) cur N) (hne:cur≠[]):BI ctx (p++[.quote cur]) N:=by
 obtain ⟨k1,k2,k3,k4⟩:=BC.snoc.mp h.up
 rw [Nat.zero_add] at k2 k4
 have ho:=h.ok
 rw [A6] at ho
 refine ⟨k1,bA.snoc.mpr ⟨k2,⟨k4,hne,ho⟩,Or.inl fun q=>k3 q.symm⟩,?_⟩
 have hs:=h.sz
 rw [gL,Nat.add_assoc,Nat.add_right_comm] at hs
 rw [T7,V9]
 exact hs
theorem BI.enter {ctx:List (List Bk)}{p c:List Bk}{N:Nat}(h:BI ctx (p++[.quote c]) N):BI (ctx++[p]) c N:=by
 obtain ⟨k1,k2,k3⟩:=bA.snoc.mp h.ok
 refine ⟨BC.snoc.mpr ⟨h.up,by rw [Nat.zero_add];exact k1,fun q=>?_,by rw [Nat.zero_add];exact k2.1⟩,by rw [A6];exact k2.2.2,?_⟩
 ·rcases k3 with k3 | k3
  ·exact k3 q.symm
  ·rw [q] at k3;exact absurd k3 (by decide)
 ·have hs:=h.sz
  rw [T7,V9] at hs
  rw [gL]
  rw [Nat.add_assoc,Nat.add_right_comm (szBs p)]
  exact hs
theorem BI.begin {ctx:List (List Bk)}{cur:List Bk}{N:Nat}(h:BI ctx cur N) (hl:M2 [] cur≠nQ) (hd:ctx.length<9):BI (ctx++[cur]) [] (N+1):=by
 refine ⟨BC.snoc.mpr ⟨h.up,by rw [Nat.zero_add];exact h.ok,hl,by rw [Nat.zero_add];exact hd⟩,trivial,?_⟩
 have hs:=h.sz
 rw [gL]
 exact B3 hs
theorem Bs5 {b:Bk}(h:fE b=nQ):∃ c,b=.quote c:=by
 cases b with
 | gap _=>exact absurd (show ([103,97,112]:List Nat)=[113,117,111,116,101] from h) (by decide)
 | head _ _=>exact absurd (show ([104,101,97,100,105,110,103]:List Nat)=[113,117,111,116,101] from h) (by decide)
 | list _=>exact absurd (show ([108,105,115,116]:List Nat)=[113,117,111,116,101] from h) (by decide)
 | para _=>exact absurd (show ([112,97,114,97]:List Nat)=[113,117,111,116,101] from h) (by decide)
 | quote c=>exact ⟨c,rfl⟩
theorem Ct4 {C:Calls}{ρ:D7}{H:Heap}{Φ:Heap->Prop}{e f:E}{es:List E}(h1:T9 C ρ H e (.bool true) Φ):T9 C ρ H (.or (e::f::es)) (.bool true) Φ:=fun Q k=>h1 _ fun G g=>k G g
noncomputable def mW (s:rK):rK:=match s.2.getLast? with
 | some (.quote c)=>(s.1++[s.2.dropLast],c)
 | _=>(s.1++[s.2],[])
noncomputable def yF (way:Int):Nat->rK->rK
 | 0,s=>s
 | m+1,s=>bif way==10&&decide (((s.1.length+1:Nat):Int)<10) then yF way m (mW s) else s
noncomputable def Az5 (way:Int) (s:rK):rK:=bif way==11&&(decide ((1:Int)<((s.1.length+1:Nat):Int))&&iC s.2) then (s.1.dropLast,(s.1.getLast?).getD []++[.quote s.2]) else s
noncomputable def eQ (way many:Int) (s:rK):rK:=yF way many.toNat (Az5 way s)
theorem Br7 {ctx:List (List Bk)}{p c:List Bk}:mW (ctx,p++[.quote c])=(ctx++[p],c):=by
 unfold mW;dsimp only;rw [List.getLast?_concat,List.dropLast_concat]
theorem Bd1 {ctx:List (List Bk)}{cur:List Bk}(h:M2 [] cur≠nQ):mW (ctx,cur)=(ctx++[cur],[]):=by
 unfold mW;dsimp only
 rcases P1 cur with rfl | ⟨cs,c,rfl⟩
 ·rfl
 ·rw [aT] at h
  rw [List.getLast?_concat]
  cases c with
  | quote c=>exact absurd rfl h
  | _=>rfl
structure QZ2 where
 many:Int
 N:Nat
 s:rK
theorem Br6 {n N:Nat}{way many:Int}{s:rK}{H0 H:Heap}{Q:C2}(h:TX H0 N s H) (hN:N+10<=900000) (hm:many.toNat<=10) (hQ:∀ G,TX H0 (N+10) (eQ way many s) G->Q .none G):C1 P (n+1) "_law_quote" [.ref (H0.length+1),.int way,.int many] Q H:=by
 have h9l:(900000:Nat)<I8:=by show 900000<16777216;decide
 have loop:∀ G s',Az5 way s=s'->TX H0 N s' G->C4 (C1 P n) (cJ.drop 1) [some (.ref (H0.length+1)),some (.int way),some (.int many)] (D8 Q) G:=fun G s' hs' hG=>by
  refine I3 (mR (σ:=QZ2) (fun z=>[some (.ref (H0.length+1)),some (.int way),some (.int z.many)]) (fun z G=>TX H0 z.N z.s G/\z.N+z.many.toNat<=N+10/\yF way z.many.toNat z.s=eQ way many s) (fun z=>z.many.toNat) (fun z G hI K hK=>?_) ⟨many,N,s'⟩ ⟨hG,Nat.add_le_add_left hm N,by unfold eQ;rw [hs']⟩)
  obtain ⟨mz,M,ctx,cur⟩:=z
  obtain ⟨⟨as,b,bs,rt,fs,hT⟩,hM,hqe⟩:=hI
  replace hqe:yF way mz.toNat (ctx,cur)=eQ way many s:=hqe
  replace hM:M+mz.toNat<=N+10:=hM
  have hM2:M<=N+10:=A3 (B4 _ _) hM
  have hM9:M<=900000:=A3 hM2 hN
  have hj:0<mz->mz.toNat=(mz - 1).toNat+1:=fun h=>by
   obtain ⟨k,rfl⟩:=Int.eq_succ_of_zero_lt h
   rw [Int.add_sub_cancel];rfl
  replace hT:TI H0 M ctx cur as b bs rt fs G:=hT
  have ev:Ev (C1 P n) [some (.ref (H0.length+1)),some (.int way),some (.int mz)] G (.and [.cmp .eq (.var 1) (.int 10),.cmp .gt (.var 2) (.int 0),.cmp .lt (.len (.var 0)) (.int 10)]) (.bool (way==10&&(decide (0<mz)&&decide (((ctx.length+1:Nat):Int)<10)))) :=
   E5 (C7 (by exact fun zz h=>h) C8 U2) fun zz=>E5 (C7 (by exact fun zz h=>h) C8 T0) fun zz=>G8 (J6 (C7 (K0 (by exact fun zz h=>h) (J4 hT.ts.pile)) C8 X3) (by rw [hT.plen]))
  cases hb:(way==10&&(decide (0<mz)&&decide (((ctx.length+1:Nat):Int)<10))) with
  | false =>
   rw [hb] at ev
   have hst:(ctx,cur)=eQ way many s:=by
    rw [<- hqe]
    by_cases h0:0<mz
    ·rw [decide_eq_true h0,Bool.true_and] at hb
     rw [hj h0]
     show _=(bif way==10&&decide (((ctx.length+1:Nat):Int)<10) then _ else _)
     rw [hb];rfl
    ·rw [Int.toNat_of_nonpos (Int.not_lt.mp h0)];rfl
   refine .stop ev (hQ _ ?_)
   rw [<- hst]
   exact ⟨as,b,bs,rt,fs,hT.ts,hT.bi.up,hT.bi.ok,A3 hT.bi.sz hM2⟩
  | true =>
   rw [hb] at ev
   obtain ⟨hw10,hb⟩:=Bool.and_eq_true_iff.mp hb
   obtain ⟨hb1,hb2⟩:=Bool.and_eq_true_iff.mp hb
   have hmz:0<mz:=of_decide_eq_true hb1
   have hd:ctx.length<9:=Nat.lt_of_succ_lt_succ (Int.ofNat_lt.mp (of_decide_eq_true hb2))
   have hqs:yF way (mz - 1).toNat (mW (ctx,cur))=eQ way many s:=by
    rw [<- hqe,hj hmz]
    show _=(bif way==10&&decide (((ctx.length+1:Nat):Int)<10) then _ else _)
    rw [hw10,hb2];rfl
   refine .go ev ?_
   have into:∀ {p c:List Bk}{as b bs rt fs G M'},mW (ctx,cur)=(ctx++[p],c)->TS H0 ctx (p++[.quote c]) as b bs rt fs G->BI (ctx++[p]) c M'->M'<=M+1->C4 (C1 P n) [.expr (.append (.var 0) (.idx (.idx (.idx (.var 0) (.neg 1)) (.neg 1)) (.int 1))),.assign 2 (.bin .sub (.var 2) (.int 1))] [some (.ref (H0.length+1)),some (.int way),some (.int mz)] (dO (K6 (C1 P n) [] (D8 Q)) K) G:=fun {p c as b bs rt fs G M'} hqp hT hB hM'=>by
    obtain ⟨gs,pp,a',es',e,hz⟩:=hT.zp.push rfl
    obtain ⟨r,er⟩:=hT.zp.last
    have hp1:G[H0.length+1]? = some (r.map V.ref++[.ref b]):=hT.pile.trans (by rw [er,List.map_append];rfl)
    have hb1:G[b]? = some (gs.map jJ++[.tup [.str nQ,.ref a']]):=hT.here.1.trans (by rw [e,List.map_append];rfl)
    have hlen:(as.map V.ref).length<I8:=by rw [B6,hT.zp.lens];exact A9 hd (by show 9<16777216;decide)
    refine I0 (v:=.ref a') (by exact fun zz h=>h) (E4 (E4 (E4 (by exact fun zz h=>h) V0 (J8 hp1)) V0 (J8 hb1)) C8 (c:=.ref a') rfl) hT.pile hlen (C6 (D6 (by exact fun zz h=>h) C8 nH) ?_)
    have hr:=hT.repile hz
    rw [List.map_append] at hr
    exact hK ⟨mz - 1,M+1,ctx++[p],c⟩ _ (by show (mz - 1).toNat<mz.toNat;rw [hj hmz];exact B1 _) ⟨⟨_,_,_,_,_,hr,hB.up,hB.ok,A3 hB.sz hM'⟩,by show M+1+(mz - 1).toNat<=N+10;rw [hj hmz] at hM;rw [Nat.add_assoc,Nat.add_comm 1];exact hM,by rw [hqp] at hqs;exact hqs⟩
   obtain ⟨r,hp⟩:=hT.pl
   have e1:=hT.eqn (C:=C1 P n) (ρ:=[some (.ref (H0.length+1)),some (.int way),some (.int mz)]) (e:=.idx (.var 0) (.neg 1)) hM9 (E4 (by exact fun zz h=>h) V0 (J8 hp))
   have new:M2 [] cur≠nQ->∀ G',G'=G++[[]]->C4 (C1 P n) [.expr (.append (.idx (.var 0) (.neg 1)) (.tup [.str [113,117,111,116,101],.list []]))] [some (.ref (H0.length+1)),some (.int way),some (.int mz)] (K6 (C1 P n) [.expr (.append (.var 0) (.idx (.idx (.idx (.var 0) (.neg 1)) (.neg 1)) (.int 1))),.assign 2 (.bin .sub (.var 2) (.int 1))] (dO (K6 (C1 P n) [] (D8 Q)) K)) G':=fun hl G' g=>by
    subst g
    have hg1:E6 G (G++[[]]++[[]]):=bF
    have l1:(G++[[]]:Heap).length=G.length+1:=L7
    have l2:(G++[[]]++[[]]:Heap).length=(G++[[]]:Heap).length+1:=L7
    have hok:Ok (G++[[]]++[[]]) (two nQ G.length (G++[[]]:Heap).length []) G.length (G++[[]]++[[]]).length :=
     ⟨⟨A4 _,.atom (a:=.s nQ) (.nil (A4 _))⟩,⟨by rw [l1];exact B8 _,by rw [l2];exact B1 _,(fun q=>q.elim),E0⟩,by show _<=_;rw [l2,l1];exact B4 _ 2⟩
    obtain ⟨k1,bs',rt',k2⟩:=hT.ts.put hg1 hok .here (cur':=cur++[.quote []]) (hT.ts.zp.typ.add (oA (bs:=[]) (es:=[]) rfl))
    refine N4 (a:=b) (E4 (by exact fun zz h=>h) V0 (J8 (J5 hp))) (T2 (I5 (v:=.str nQ) (by exact fun zz h=>h) (Z2 (K2 k1 (A9 (A3 hT.flen hM9) h9l) ?_))))
    exact into (Bd1 hl) k2 (hT.bi.begin hl hd) (A4 _)
   rcases P1 cur with e | ⟨cs,c,e⟩
   ·subst e
    exact cS (Ct4 e1) (new (fun q=>absurd q (by decide)))
   ·have hfull:iC cur=true:=by rw [e];cases cs<;>rfl
    rw [hfull] at e1
    obtain ⟨rr,v,l,hbl,hv⟩:=hT.name e
    have e2:∀ G',G'=G++[[]]->T9 (C1 P n) [some (.ref (H0.length+1)),some (.int way),some (.int mz)] G' (.or [.cmp .ne (.idx (.idx (.idx (.var 0) (.neg 1)) (.neg 1)) (.int 0)) (.str [113,117,111,116,101])]) (.bool (!(fE c==nQ))) (fun G'=>G'=G++[[]]):=fun G' g=>by
     subst g
     exact xY (fF (C7 (E4 (lT (E4 (E4 (by exact fun zz h=>h) V0 (J8 (J5 hp))) V0 (J8 (J5 hbl))) hv) C8 aL) N0 mQ))
    by_cases hq:fE c=nQ
    ·rw [beq_iff_eq.mpr hq] at e2
     obtain ⟨c',rfl⟩:=Bs5 hq
     subst e
     refine Ce9 (rN e1 e2) fun G' g=>?_
     subst g
     exact into Br7 (hT.ts.grow .one) hT.bi.enter (B8 _)
    ·rw [beq_eq_false_iff_ne.mpr hq] at e2
     exact cS (rN e1 e2) (new (by rw [e,aT];exact hq))
 obtain ⟨ctx,cur⟩:=s
 obtain ⟨as,b,bs,rt,fs,hT⟩:=h
 replace hT:TI H0 N ctx cur as b bs rt fs H:=hT
 refine wU ?_
 obtain ⟨r,hp⟩:=hT.pl
 have e1:∀ {C:Calls},Ev C [some (.ref (H0.length+1)),some (.int way),some (.int many)] H (.cmp .eq (.var 1) (.int 11)) (.bool (way==11)):=C7 (by exact fun zz h=>h) C8 U2
 by_cases hw:way=11
 ·rw [beq_iff_eq.mpr hw] at e1
  have e2:∀ {C:Calls},Ev C [some (.ref (H0.length+1)),some (.int way),some (.int many)] H (.cmp .gt (.len (.var 0)) (.int 1)) (.bool (decide ((1:Int)<((ctx.length+1:Nat):Int)))):=J6 (C7 (K0 (by exact fun zz h=>h) (J4 hT.ts.pile)) C8 T0) (by rw [hT.plen])
  rcases P1 ctx with e | ⟨ctx',p,e⟩
  ·subst e
   exact C3 (iI e1 (bS e2)) (loop H ([],cur) (by unfold Az5;rw [beq_iff_eq.mpr hw];rfl) ⟨_,_,_,_,_,hT⟩)
  ·have hc:decide ((1:Int)<((ctx.length+1:Nat):Int))=true:=decide_eq_true (by rw [e,A6];exact Int.ofNat_lt.mpr (Nat.succ_lt_succ (Nat.succ_pos _)))
   rw [hc] at e2
   have e3:=hT.nen (C:=C1 P n) (ρ:=[some (.ref (H0.length+1)),some (.int way),some (.int many)]) (e:=.idx (.var 0) (.neg 1)) (A3 (B4 _ _) hN) (E4 (by exact fun zz h=>h) V0 (J8 hp))
   have e4:T9 (C1 P n) [some (.ref (H0.length+1)),some (.int way),some (.int many)] H (.and [.cmp .eq (.var 1) (.int 11),.cmp .gt (.len (.var 0)) (.int 1),.cmp .ne (.idx (.var 0) (.neg 1)) (.list [])]) (.bool (iC cur)) (fun G=>G=H++[[]]):=V7 (fF e1) fun G g=>by
    subst g
    exact V7 (fF e2) fun G g=>by
     subst g
     exact bR e3
   cases hcur:cur with
   | nil =>
    rw [hcur] at e4
    exact Q4 e4 fun G g=>by subst g;exact loop _ (ctx,cur) (by unfold Az5;rw [hcur];dsimp only [iC];rw [Bool.and_false,Bool.and_false];rfl) ⟨_,_,_,_,_,hT.grow .one⟩
   | cons x xs =>
    rw [hcur] at e4
    refine cS e4 fun G g=>?_
    subst g
    obtain ⟨as',b',fs',ea,hz⟩:=hT.ts.zp.pop e
    have hp2:(H++[[]])[H0.length+1]? = some (as'.map V.ref++[.ref b]):=J5 (hT.ts.pile.trans (by rw [ea,List.map_append];rfl))
    refine Bj2 (by exact fun zz h=>h) hp2 ?_
    have hr:=(hT.ts.grow .one (G:=H++[[]])).repile hz
    have hbi:=hT.bi
    rw [e] at hbi
    refine loop _ (ctx',p++[.quote cur]) ?_ ⟨_,_,_,_,_,hr,hbi.pop (by rw [hcur];exact fun q=>nomatch q)⟩
    have hf:iC cur=true:=by rw [hcur];rfl
    unfold Az5
    dsimp only
    rw [beq_iff_eq.mpr hw,hc,hf,e,List.getLast?_concat,List.dropLast_concat];rfl
 ·rw [beq_eq_false_iff_ne.mpr hw] at e1
  exact C3 (bS e1) (loop H (ctx,cur) (by unfold Az5;rw [beq_eq_false_iff_ne.mpr hw];rfl) ⟨_,_,_,_,_,hT⟩)
theorem Cd7 {b:Bk}(h:fE b=nL):∃ c,b=.list c:=by
 cases b with
 | gap _=>exact absurd (show ([103,97,112]:List Nat)=[108,105,115,116] from h) (by decide)
 | head _ _=>exact absurd (show ([104,101,97,100,105,110,103]:List Nat)=[108,105,115,116] from h) (by decide)
 | list c=>exact ⟨c,rfl⟩
 | para _=>exact absurd (show ([112,97,114,97]:List Nat)=[108,105,115,116] from h) (by decide)
 | quote _=>exact absurd (show ([113,117,111,116,101]:List Nat)=[108,105,115,116] from h) (by decide)
theorem Cd6 {b:Bk}(h:fE b=nP):∃ c,b=.para c:=by
 cases b with
 | gap _=>exact absurd (show ([103,97,112]:List Nat)=[112,97,114,97] from h) (by decide)
 | head _ _=>exact absurd (show ([104,101,97,100,105,110,103]:List Nat)=[112,97,114,97] from h) (by decide)
 | list _=>exact absurd (show ([108,105,115,116]:List Nat)=[112,97,114,97] from h) (by decide)
 | para c=>exact ⟨c,rfl⟩
 | quote _=>exact absurd (show ([113,117,111,116,101]:List Nat)=[112,97,114,97] from h) (by decide)
theorem Ax5 {cur:List Bk}{w:List Nat}(h:M2 [] cur=w) (hw:w≠[]):∃ cs c,cur=cs++[c]/\fE c=w:=by
 rcases P1 cur with rfl | ⟨cs,c,rfl⟩
 ·exact absurd h.symm hw
 ·rw [aT] at h;exact ⟨cs,c,rfl,h⟩
theorem BI.turn {ctx:List (List Bk)}{cs:List Bk}{c c':Bk}{N:Nat}(h:BI ctx (cs++[c]) N) (hn:fE c'=fE c) (ho:BO1 ctx.length c') (hs:szB c'<=szB c+6100):BI ctx (cs++[c']) (N+6100):=by
 obtain ⟨k1,k2,k3⟩:=bA.snoc.mp h.ok
 refine ⟨h.up,bA.snoc.mpr ⟨k1,ho,by rw [hn];exact k3⟩,?_⟩
 have:=h.sz
 rw [T7,V9] at this ⊢
 refine A3 (Nat.add_le_add_left (Nat.add_le_add_left hs _) _) ?_
 rw [<- Nat.add_assoc,<- Nat.add_assoc,Nat.add_assoc (szC ctx)]
 exact Nat.add_le_add_right this _
theorem BI.add {ctx:List (List Bk)}{cur:List Bk}{b:Bk}{N:Nat}(h:BI ctx cur N) (ho:BO1 ctx.length b) (hn:fE b≠M2 [] cur∨M2 [] cur=[104,101,97,100,105,110,103]) (hs:szB b<=6100):BI ctx (cur++[b]) (N+6100):=by
 refine ⟨h.up,bA.snoc.mpr ⟨h.ok,ho,hn⟩,?_⟩
 have:=h.sz
 rw [T7,V9,<- Nat.add_assoc]
 exact Nat.add_le_add this hs
noncomputable def Cq3 (z:Int):Nat:=(1+z % 3+300 * (if (z / 3 % 9==5) then 1 else 0)).toNat
noncomputable def At3 (cur:List Bk):List It:=match cur.getLast? with
 | some (.list is)=>is
 | _=>[]
noncomputable def At2 (cur:List Bk):List (List T):=match cur.getLast? with
 | some (.para rs)=>rs
 | _=>[]
noncomputable def mN (cur:List Bk) (deep:Nat) (way z:Int) (ts:List T):List Bk :=
 bif decide (way<2)&&!(M2 [] cur==[103,97,112]) then cur++[.gap (Cq3 z)]
 else bif decide (way<4) then cur++[.head (1+z % 6).toNat ts]
 else bif decide (way<7)&&(M2 [] cur==[108,105,115,116]) then cur.dropLast++[.list (insF 9 (1+z % 9).toNat (.it (1+z % 9).toNat ts []) (At3 cur))]
 else bif decide (way<7) then cur++[.list [.it (1+z % 9).toNat ts []]]
 else bif M2 [] cur==[112,97,114,97] then cur.dropLast++[.para (At2 cur++[Z5 ts z deep])]
 else cur++[.para [Z5 ts z deep]]
theorem Cn5 (z:Int):∃ k:Nat,1+z % 3+300 * (if (z / 3 % 9==5) then 1 else 0)=(k:Int)/\1<=k/\Cq3 z=k/\k<=303:=by
 have h3:(1:Int)<=1+z % 3:=Int.le_add_of_nonneg_right (Int.emod_nonneg _ (by decide))
 have h:(1:Int)<=1+z % 3+300 * (if (z / 3 % 9==5) then 1 else 0):=Int.le_trans h3 (Int.le_add_of_nonneg_right (by cases (z / 3 % 9==5)<;>decide))
 have h2:z % 3<=2:=Int.le_of_lt_add_one (Int.emod_lt_of_pos z (by decide))
 have h5:(300 * (if (z / 3 % 9==5) then 1 else 0):Int)<=300:=by cases (z / 3 % 9==5)<;>decide
 exact ⟨_,(uS h).1,(uS h).2,rfl,Int.toNat_le.mpr (Int.add_le_add (Int.add_le_add_left h2 1) h5)⟩
theorem Bk6 {z y:Int}{m:Nat}(h:y=1+z) (h1:0<=z) (h2:z<m):∃ k:Nat,(y=(k:Int)/\1<=k/\k<=m)/\y.toNat=k:=by
 obtain ⟨n,rfl⟩:=Int.eq_ofNat_of_zero_le h1
 have e:y=((n+1:Nat):Int):=h.trans (Int.add_comm 1 (n:Int))
 subst e
 exact ⟨n+1,⟨rfl,B3 (B0 _),Int.ofNat_lt.mp h2⟩,rfl⟩
theorem Co4 {n N pa:Nat}{way number:Int}{H0 H G:Heap}{ctx:List (List Bk)}{cur:List Bk}{as:List Nat}{b:Nat}{bs:List Bk}{rt fs:List En}{ts:List T}{Q:C2}(hT:TI H0 N ctx cur as b bs rt fs H) (hN:N+6100<=900000) (hp:PT ts 6000) (g:E6 H G) (hr:J0 G (.lst (G9 ts)) H.length G.length (.ref pa)) (hQ:∀ G',TX H0 (N+6100) (ctx,mN cur ctx.length way number ts) G'->Q .none G') :
  C1 P (n+15) "_law_add" [.ref b,.int way,.int number,.ref pa,.int (ctx.length:Nat)] Q G:=by
 have h9l:(900000:Nat)<I8:=by show 900000<16777216;decide
 have hN9:N<=900000:=A3 (B4 _ _) hN
 have hct:=hp.ct (by decide)
 have hd9:=hT.bi.up.deep
 have putB:∀ {e:En}{b':Bk}{G':Heap},mN cur ctx.length way number ts=cur++[b']->E6 H G'->Ok G' e H.length G'.length->RBk b' e->BO1 ctx.length b'->(fE b'≠M2 [] cur∨M2 [] cur=[104,101,97,100,105,110,103])->szB b'<=6100->G'[b]? = some (fs.map jJ)/\Q .none (G'.set b (fs.map jJ++[jJ e])):=fun {e b' G'} ef g he hb ho hn hs=>by
  obtain ⟨k1,bs',rt',k2⟩:=hT.ts.put g he .here (cur':=cur++[b']) (hT.ts.zp.typ.add hb)
  exact ⟨k1,hQ _ (by rw [ef];exact ⟨_,_,_,_,_,k2,hT.bi.add ho hn hs⟩)⟩
 have hfl:(fs.map jJ).length<I8:=A9 (A3 hT.flen hN9) h9l
 have rest:C4 (C1 P (n+14)) (jG.drop 2) [some (.ref b),some (.int way),some (.int number),some (.ref pa),some (.int (ctx.length:Nat)),some (.str (M2 [] cur))] (D8 Q) (G++[[]]):=by
  have g1:E6 H (G++[[]]):=g.trans .one
  have hr1:J0 (G++[[]]) (.lst (G9 ts)) H.length (G++[[]]:Heap).length (.ref pa):=(hr.grow .one (A4 _)).wide (A4 _) E6.one.len
  generalize (G++[[]]:Heap)=G1 at g1 hr1
  clear hr g
  refine T1 (E5 (C7 (by exact fun zz h=>h) C8 X3) fun zz=>G8 (C7 (by exact fun zz h=>h) N0 mQ)) (fun hq=>?_) (fun f1=>?_)
  ·-- a gap
   have hgap:fE (.gap 0)≠M2 [] cur:=fun q=>by
    have:=(Bool.and_eq_true_iff.mp hq).2
    rw [<- q] at this
    exact absurd this (by show ¬ (!([103,97,112]==[103,97,112]))=true;decide)
   obtain ⟨k,hk,hk1,hk2,hk3⟩:=Cn5 number
   have he:Ok G1 (.leaf (bkE (.gap k)) (.tup [.str [103,97,112],.int (k:Nat)]) G1.length G1.length) H.length G1.length:=⟨⟨g1.len,A4 _,A4 _⟩,_,rfl,.atom (a:=.s _) (.atom (a:=.i _) (.nil (A4 _)))⟩
   obtain ⟨q1,q2⟩:=putB (b':=.gap k) (by unfold mN;rw [hq,hk2];rfl) g1 he ⟨_,_,_,rfl⟩ hk1 (Or.inl hgap) (A3 (B3 (Nat.mul_le_mul_left 19 hk3)) (by decide))
   exact I0 (v:=.tup [.str [103,97,112],.int (k:Nat)]) (by exact fun zz h=>h) (fI (C9 (by exact fun zz h=>h) (C9 (lT (D6 (D6 C8 (D6 (by exact fun zz h=>h) C8 (N1 (by decide))) Q8) (D6 C8 (fR (C7 (D6 (D6 (by exact fun zz h=>h) C8 (M0 (by decide))) C8 (N1 (by decide))) C8 U2)) (iH (Or.inl (by decide)))) Q8) (congrArg V.int hk)) K5))) q1 hfl q2
  refine T1 (C7 (by exact fun zz h=>h) C8 X3) (fun hq=>?_) (fun f2=>?_)
  ·-- a heading
   obtain ⟨k,hk,hk3⟩:=Bk6 (m:=6) (y:=1+number % 6) rfl (Int.emod_nonneg _ (by decide)) (Int.emod_lt_of_pos _ (by decide))
   have he:Ok G1 (.leaf (bkE (.head k ts)) (.tup [.str [104,101,97,100,105,110,103],.int (k:Nat),.ref pa]) H.length G1.length) H.length G1.length:=⟨⟨A4 _,g1.len,A4 _⟩,_,rfl,.atom (a:=.s _) (.atom (a:=.i _) (.one g1.len hr1))⟩
   obtain ⟨q1,q2⟩:=putB (b':=.head k ts) (by unfold mN;rw [f1,hq,hk3];rfl) g1 he ⟨_,_,_,rfl⟩ ⟨hk.2,hct⟩ (by
    by_cases q:M2 [] cur=[104,101,97,100,105,110,103]
    ·exact Or.inr q
    ·exact Or.inl fun e=>q e.symm) (A3 (Nat.add_le_add_right hp.len 30) (by decide))
   exact I0 (v:=.tup [.str [104,101,97,100,105,110,103],.int (k:Nat),.ref pa]) (by exact fun zz h=>h) (fI (C9 (by exact fun zz h=>h) (C9 (lT (D6 C8 (D6 (by exact fun zz h=>h) C8 (N1 (by decide))) Q8) (congrArg V.int hk.1)) (C9 (by exact fun zz h=>h) K5)))) q1 hfl q2
  obtain ⟨d,hd,hd3⟩:=Bk6 (m:=9) (y:=1+number % 9) rfl (Int.emod_nonneg _ (by decide)) (Int.emod_lt_of_pos _ (by decide))
  have evd:∀ {C:Calls}{G':Heap}{x3 x4 x5:Option V},Ev C [some (.ref b),some (.int way),some (.int number),x3,x4,x5] G' (.bin .add (.int 1) (.bin .mod (.var 2) (.int 9))) (.int (d:Nat)):=lT (D6 C8 (D6 (by exact fun zz h=>h) C8 (N1 (by decide))) Q8) (congrArg V.int hd.1)
  have ev7:∀ {C:Calls}{G':Heap}{x3 x4 x5:Option V},Ev C [some (.ref b),some (.int way),some (.int number),x3,x4,x5] G' (.cmp .lt (.var 1) (.int 7)) (.bool (decide (way<7))):=C7 (by exact fun zz h=>h) C8 X3
  refine T1 (E5 ev7 fun zz=>G8 (C7 (by exact fun zz h=>h) N0 V1)) (fun hq=>?_) (fun hnl=>?_)
  ·-- an item of the last list
   have hl:M2 [] cur=nL:=beq_iff_eq.mp (Bool.and_eq_true_iff.mp hq).2
   have hef:mN cur ctx.length way number ts=cur.dropLast++[.list (insF 9 d (.it d ts []) (At3 cur))]:=by unfold mN;rw [f1,f2,hq,hd3];rfl
   obtain ⟨cs,c,rfl,hc⟩:=Ax5 hl (by unfold nL;decide)
   obtain ⟨is,rfl⟩:=Cd7 hc
   have hll:At3 (cs++[.list is])=is:=by unfold At3;rw [List.getLast?_concat]
   rw [hll,List.dropLast_concat] at hef
   have hTs:=hT.ts
   obtain ⟨gs,e,hfs,hgs,pp,a,es,he,his⟩:=hTs.zp.typ.cut
   subst he
   subst hfs
   have hbl:G1[b]? = some (gs.map jJ++[.tup [.str nL,.ref a]]):=(g1.get hTs.here.1).trans (by rw [List.map_append];rfl)
   obtain ⟨k1,k2,k3⟩:=bA.snoc.mp hT.bi.ok
   have hcn:cnts is<=900000:=by
    have:=hT.bi.sz
    rw [T7,V9] at this
    exact A3 (A3 (mK is) (A3 (B8 _) (A3 (Nat.le_add_left _ _) (A3 (Nat.le_add_left _ _) this)))) hN9
   refine K8 (C9 (E4 (E4 (by exact fun zz h=>h) V0 (J8 hbl)) C8 (c:=.ref a) rfl) (C9 evd (C9 (by exact fun zz h=>h) K5))) (Ce6 (n:=n+13) hd.2 hct k2.2.1 hcn hTs hgs his g1 hr1 fun G' hD=>?_)
   obtain ⟨is',bs',rt',fs',t1,t2,t3,t4,t5⟩:=hD.ex
   refine hQ _ ?_
   rw [hef,<- t5]
   exact ⟨_,_,_,_,_,t1,hT.bi.turn rfl ⟨t3,t2,t2.deep (A4 _)⟩ (by show szIs is'+1<=szIs is+1+6100;rw [t4,Nat.add_right_comm];exact Nat.add_le_add_left (A3 (Nat.add_le_add_right hp.len 30) (by decide)) _)⟩
  refine T1 ev7 (fun hq=>?_) (fun f4=>?_)
  ·-- a list
   have hnl0:=hnl
   have hnl:fE (.list [])≠M2 [] cur:=fun q=>by
    rw [hq,<- q] at hnl
    exact absurd hnl (by show ¬ (true&&([108,105,115,116]==[108,105,115,116]))=false;decide)
   have l1:(G1++[[]]:Heap).length=G1.length+1:=L7
   have l2:(G1++[[]]++[[V.tup [.int (d:Nat),.ref pa,.ref G1.length]]]:Heap).length=(G1++[[]]:Heap).length+1:=L7
   have g2:E6 G1 (G1++[[]]++[[V.tup [.int (d:Nat),.ref pa,.ref G1.length]]]):=bF
   have hok:Ok (G1++[[]]++[[V.tup [.int (d:Nat),.ref pa,.ref G1.length]]]) (xM d ts (.ref pa) H.length G1.length G1.length []) H.length (G1++[[]]:Heap).length :=
    ⟨⟨A4 _,.atom (a:=.i (d:Nat)) (.one g1.len (hr1.grow g2 (A4 _)))⟩,⟨A4 _,by rw [l1];exact B1 _,(fun q=>q.elim),J5 E0⟩,by show _<=_;rw [l1];exact B8 _⟩
   have hnf:¬ Y1 [xM d ts (.ref pa) H.length G1.length G1.length []] (G1++[[]]:Heap).length:=fun q=>by
    exact Nat.lt_irrefl _ (hok.foot (Q0.mp q)).2
   have hok2:Ok (G1++[[]]++[[V.tup [.int (d:Nat),.ref pa,.ref G1.length]]]) (two nL H.length (G1++[[]]:Heap).length [xM d ts (.ref pa) H.length G1.length G1.length []]) H.length (G1++[[]]++[[V.tup [.int (d:Nat),.ref pa,.ref G1.length]]]).length :=
    ⟨⟨A4 _,.atom (a:=.s nL) (.nil (A4 _))⟩,⟨by rw [l1];exact Nat.le_succ_of_le g1.len,by rw [l2];exact B1 _,hnf,E0⟩,⟨_,hok,by show _<=_;rw [l2];exact B8 _⟩⟩
   have hit:RIt (.it d ts []) (xM d ts (.ref pa) H.length G1.length G1.length []):=⟨_,_,_,_,_,rfl,rfl⟩
   obtain ⟨q1,q2⟩:=putB (b':=.list [.it d ts []]) (by unfold mN;rw [f1,f2,hnl0,hq,hd3];rfl) (g1.trans g2) hok2 ⟨_,_,_,rfl,_,_,rfl,hit,rfl⟩ ⟨(fun q=>nomatch q),⟨⟨⟨hd.2.1,hd.2.2,hd.2.1⟩,hct,trivial⟩,trivial⟩,by show max 1 0<=9;decide⟩ (Or.inl hnl) (A3 (B3 (Nat.add_le_add_right hp.len 30)) (by decide))
   exact N4 (a:=b) (by exact fun zz h=>h) (T2 (I5 (v:=.str nL) (by exact fun zz h=>h) (M5 (aJ (M5 (T2 (I5 evd (I5 (v:=.ref pa) (by exact fun zz h=>h) (Z2 (I1 (I1 (K2 q1 hfl q2))))))))))))
  have args:∀ {C:Calls}{G':Heap},Evs C [some (.ref b),some (.int way),some (.int number),some (.ref pa),some (.int (ctx.length:Nat)),some (.str (M2 [] cur))] G' [.var 3,.var 2,.var 4] [.ref pa,.int number,.int (ctx.length:Nat)]:=by exact fun zz h=>h
  refine T1 (C7 (by exact fun zz h=>h) N0 V1) (fun hq=>?_) (fun hq=>?_)
  ·-- a row of the last paragraph
   have hl:M2 [] cur=nP:=beq_iff_eq.mp hq
   have hef:mN cur ctx.length way number ts=cur.dropLast++[.para (At2 cur++[Z5 ts number ctx.length])]:=by unfold mN;rw [f1,f2,hnl,f4,hq];rfl
   obtain ⟨cs,c,rfl,hc⟩:=Ax5 hl (by unfold nP;decide)
   obtain ⟨rs,rfl⟩:=Cd6 hc
   have hll:At2 (cs++[.para rs])=rs:=by unfold At2;rw [List.getLast?_concat]
   rw [hll,List.dropLast_concat] at hef
   have hTs:=hT.ts
   obtain ⟨gs,e,hfs,hgs,pp,a,es,he,hrs⟩:=hTs.zp.typ.cut
   subst he
   subst hfs
   have hbl:G1[b]? = some (gs.map jJ++[.tup [.str nP,.ref a]]):=(g1.get hTs.here.1).trans (by rw [List.map_append];rfl)
   obtain ⟨k1,k2,k3⟩:=bA.snoc.mp hT.bi.ok
   have hrl:rs.length+1<=N:=by
    have:=hT.bi.sz
    rw [T7,V9] at this
    exact A3 (B3 (vX rs)) (A3 (Nat.le_add_left _ _) (A3 (Nat.le_add_left _ _) this))
   refine cA (E4 (E4 (by exact fun zz h=>h) V0 (J8 hbl)) C8 (c:=.ref a) rfl) args (pG (n:=n) hd9 hp (by decide) hr1 (A4 _) fun ts' c G2 hte hD=>?_)
   have he:Ok G2 (.leaf (.lst (G9 ts')) (.ref c) H.length G2.length) H.length G2.length:=⟨⟨A4 _,(g1.trans hD.gr).len,A4 _⟩,hD.rep⟩
   have e2:S5 1 (gs++[two nP pp a es]) (.leaf (.lst (G9 ts')) (.ref c) H.length G2.length)=gs++[two nP pp a (es++[.leaf (.lst (G9 ts')) (.ref c) H.length G2.length])]:=U8
   have hrb:RBk (.para (rs++[ts'])) (two nP pp a (es++[.leaf (.lst (G9 ts')) (.ref c) H.length G2.length])):=⟨_,_,_,rfl,hrs.add⟩
   obtain ⟨q1,bs',rt',q2⟩:=hTs.put (g1.trans hD.gr) he (.down .here) (cur':=cs++[.para (rs++[ts'])]) (by rw [e2];exact hgs.add hrb)
   have hel:(es.map jJ).length<I8:=by
    have h1:=congrArg List.length hrs.x
    rw [mD] at h1
    have q:∀ es:List En,(dM es).length=es.length:=fun es=>by
     induction es with
     | nil=>rfl
     | cons e es ih=>exact congrArg (· + 1) ih
    rw [q] at h1
    rw [B6,h1]
    exact A9 (A3 (Nat.le_of_succ_le hrl) hN9) h9l
   refine K2 q1 hel (hQ _ ?_)
   rw [hef,<- hte]
   refine ⟨_,_,_,_,_,q2,hT.bi.turn rfl ⟨(fun q=>nomatch (List.append_eq_nil_iff.mp q).2),fun t ht=>?_⟩ ?_⟩
   ·rcases List.mem_append.mp ht with ht | ht
    ·exact k2.2 t ht
    ·rw [List.mem_singleton.mp ht];exact ⟨hD.pt.ct (by decide),hD.k4⟩
   ·show szR (rs++[ts'])+1<=szR rs+1+6100
    rw [Aw5,Nat.add_right_comm]
    exact Nat.add_le_add_left (A3 (Nat.add_le_add_right hD.pt.len 30) (by decide)) _
  ·-- a paragraph
   have hq0:=hq
   have hnp:fE (.para [])≠M2 [] cur:=fun q=>by
    rw [<- q] at hq
    exact absurd hq (by show ¬ ([112,97,114,97]==[112,97,114,97])=false;decide)
   refine N4 (a:=b) (by exact fun zz h=>h) (T2 (I5 (v:=.str nP) (by exact fun zz h=>h) (M5 (aJ (P0 args (pG (n:=n) hd9 hp (by decide) hr1 (A4 _) fun ts' c G2 hte hD=>I1 (I1 ?_)))))))
   have g2:=g1.trans hD.gr
   have l1:(G2++[[.ref c]]:Heap).length=G2.length+1:=L7
   have he0:Ok (G2++[[.ref c]]) (.leaf (.lst (G9 ts')) (.ref c) H.length G2.length) H.length G2.length:=⟨⟨A4 _,g2.len,A4 _⟩,(hD.rep.wide (lo':=H.length) (A4 _) (A4 _)).to (L0.one (A4 _))⟩
   have hnf:¬ Y1 [.leaf (.lst (G9 ts')) (.ref c) H.length G2.length] G2.length:=fun q=>Nat.lt_irrefl _ (Q0.mp q).2
   have he:Ok (G2++[[.ref c]]) (two nP H.length G2.length [.leaf (.lst (G9 ts')) (.ref c) H.length G2.length]) H.length (G2++[[V.ref c]]).length :=
    ⟨⟨A4 _,.atom (a:=.s nP) (.nil (A4 _))⟩,⟨g2.len,by rw [l1];exact B1 _,hnf,E0⟩,⟨_,he0,by show _<=_;rw [l1];exact B8 _⟩⟩
   obtain ⟨q1,q2⟩:=putB (b':=.para [ts']) (by unfold mN;rw [f1,f2,hnl,f4,hq0,hte];rfl) (g2.trans .one) he ⟨_,_,_,rfl,_,_,_,_,rfl,rfl⟩ ⟨(fun q=>nomatch q),fun t ht=>by rw [List.mem_singleton.mp ht];exact ⟨hD.pt.ct (by decide),hD.k4⟩⟩ (Or.inl hnp) (A3 (B3 (Nat.add_le_add_right hD.pt.len 30)) (by decide))
   exact K2 q1 hfl q2
 have hTG:=hT.grow g
 refine Aq0 (C6 (by exact fun zz h=>h) ?_)
 have en:=hTG.nen (C:=C1 P (n+14)) (ρ:=[some (.ref b),some (.int way),some (.int number),some (.ref pa),some (.int (ctx.length:Nat)),some (.str [])]) (e:=.var 0) hN9 (by exact fun zz h=>h)
 rcases P1 cur with e | ⟨cs,c,e⟩
 ·rw [e] at en rest
  exact Q4 en fun G' g'=>by subst g';exact rest
 ·have hfull:iC cur=true:=by rw [e];cases cs<;>rfl
  rw [hfull] at en
  obtain ⟨r,v,l,hbl,hv⟩:=hTG.name e
  have hnm:M2 [] cur=fE c:=by rw [e,aT]
  rw [hnm] at rest
  refine cS en fun G' g'=>?_
  subst g'
  exact C6 (E4 (lT (E4 (by exact fun zz h=>h) V0 (J8 (J5 hbl))) hv) C8 aL) rest
noncomputable def dQ:List Int:=[0,1,2,3,5,13]
noncomputable def manyF (h:Int):Int:=(dQ[(h / 12 % 6).toNat]?).getD 0
noncomputable def headF (ns:List Int) (k:Nat):Int:=(ns[k]?).getD 0 * 69621 % 2147483647
noncomputable def cellsF (ns:List Int) (k:Nat) (m:Int):List Int:=slice ns (some ((k:Int)+1)) (some ((k:Int)+1+m))
noncomputable def rQ (h:Int) (cells:List Int) (s:rK):rK:=bif decide (9<h % 12) then eQ (h % 12) (1+h / 72 % 3 * 4) s else (s.1,mN s.2 s.1.length (h % 12) (h / 72) (Ak8 cells (h / 504)))
noncomputable def fL (ns:List Int):Nat->Nat->rK->rK
 | 0,_,s=>s
 | f+1,k,s=>bif decide (k<ns.length) then fL ns f (k+1+(manyF (headF ns k)).toNat) (rQ (headF ns k) (cellsF ns k (manyF (headF ns k))) s) else s
noncomputable def Ch3 (s:rK):List Bk:=bif iC s.2 then mM s.1 s.2 else mM s.1 [.gap 1]
noncomputable def treeF (ns:List Int):List Bk:=Ch3 (fL ns ns.length 1 ([],[]))
structure TrD (H0:Heap) (bs:List Bk) (G:Heap):Prop where
 bo:bA 0 [] bs
 ne:bs≠[]
 fit:M1 W 65 (.lst (L9 bs))
 sz:szBs bs<=900000
 gr:E6 H0 G
 rep:J0 G (.lst (L9 bs)) H0.length G.length (.ref H0.length)
theorem Ax3 (h:Int):0<=manyF h/\manyF h<=13/\∃ j:Nat,h / 12 % 6=(j:Int)/\dQ[j]? = some (manyF h):=by
 obtain ⟨j,hj⟩:=Int.eq_ofNat_of_zero_le (Int.emod_nonneg (h / 12) (by decide:(6:Int)≠0))
 have hj6:j<dQ.length:=Int.ofNat_lt.mp (hj▸Int.emod_lt_of_pos _ (by decide))
 have e:dQ[j]? = some dQ[j]:=List.getElem?_eq_getElem hj6
 have e2:manyF h=dQ[j]:=by unfold manyF;rw [hj,Int.toNat_natCast,e];rfl
 have hall:∀ z∈dQ,0<=z/\z<=13:=by unfold dQ;decide
 have:=hall _ (List.getElem_mem hj6)
 rw [e2]
 exact ⟨this.1,this.2,j,hj,e⟩
theorem Ce1 {C:Calls}{ρ:D7}{H:Heap}{h:Int}{Q:C2}{e:E}(he:∀ G,Ev C ρ G e (.int (h / 12 % 6))) (k:∀ G,E6 H G->Q (.int (manyF h)) G):D9 C (.idx (.list [.int 0,.int 1,.int 2,.int 3,.int 5,.int 13]) e) ρ Q H:=by
 obtain ⟨_,_,j,hj,hm⟩:=Ax3 h
 refine yC (nM (.lst (dQ.map fun z=>.at (.i z))) _ _ fun v G g r=>?_)
 obtain ⟨a,l,p,q,rfl,hb,ha,hr⟩:=r
 refine he G _ ?_
 rw [hj]
 have hl:l.length=6:=hr.len
 have hj6:j<l.length:=by
  have:j<dQ.length:=(List.getElem?_eq_some_iff.mp hm).1
  rw [hl];exact this
 have hv:l[j]? = some l[j]:=List.getElem?_eq_getElem hj6
 obtain ⟨x,hx,hrx⟩:=Ai6 hr hv
 rw [C0,hm] at hx
 cases hx
 have e2:l[j]=.int (manyF h):=hrx
 rw [e2] at hv
 exact Bi1 ha hv (k G g)
theorem Cn6 {C:Calls}{ρ:D7}{H:Heap}{o l r:E}{i j:Int}{ns:List Int}{Q:C2}(ho:Ev C ρ H o (.frz ns)) (hl:Ev C ρ H l (.int i)) (hr:Ev C ρ H r (.int j)) (k:Q (.ref H.length) (H++[(slice ns (some i) (some j)).map V.int])):D9 C (.slc o l r) ρ Q H:=ho _ (hl _ (hr _ k))
theorem Cc7 {C:Calls}{ρ:D7}{H:Heap}{R:E2}{ss:List S}{f:String}{es:List E}(k:R7 C es ρ (fun vs H₁=>C f vs (fun zz H₂=>C4 C ss ρ R H₂) H₁) H):C4 C (.expr (.call f es)::ss) ρ R H:=k
theorem TX.grow {H0 H G:Heap}{N:Nat}{s:rK}(h:TX H0 N s H) (g:E6 H G):TX H0 N s G:=by
 obtain ⟨as,b,bs,rt,fs,h⟩:=h
 exact ⟨as,b,bs,rt,fs,h.grow g⟩
theorem TX.le {H0 H:Heap}{N M:Nat}{s:rK}(h:TX H0 N s H) (hM:N<=M):TX H0 M s H:=by
 obtain ⟨as,b,bs,rt,fs,h⟩:=h
 exact ⟨as,b,bs,rt,fs,h.ts,h.bi.up,h.bi.ok,A3 h.bi.sz hM⟩
theorem slice_le {α:Type}{l:List α}{i j:Int}(h:0<=i) (h':0<=j):(slice l (some i) (some j)).length<=l.length:=by
 rw [aC h h',List.length_take,List.length_drop]
 exact A3 (Nat.min_le_right _ _) (Nat.sub_le _ _)
structure TZ where
 k:Nat
 s:rK
 x3:Option V
 x4:Option V
 x5:Option V
theorem zT {n N:Nat}{ns:List Int}{H0 G:Heap}{ctx:List (List Bk)}{cur:List Bk}{as:List Nat}{b:Nat}{bs:List Bk}{rt fs:List En}{x2 x3 x4 x5:Option V}{R:C2}(h:TI H0 N ctx cur as b bs rt fs G) (hN:N<=900000) (hne:cur≠[]) (hR:TrD H0 (mM ctx cur) G->R (.ref H0.length) G) :
  C4 (C1 P n) [.ret (.idx (.var 1) (.int 0))] [some (.frz ns),some (.ref (H0.length+1)),x2,x3,x4,x5] (D8 R) G:=by
 have hW:W=1000000:=rfl
 obtain ⟨r,er⟩:=h.ts.zp.first
 have hp:G[H0.length+1]? = some (.ref H0.length::r.map V.ref):=h.ts.pile.trans (by rw [er];rfl)
 refine I6 (E4 (by exact fun zz h=>h) C8 (S3 (i:=0) hp rfl)) (hR ?_)
 obtain ⟨o1,o2⟩:=Ax1 hne h.bi.up (by rw [Nat.zero_add];exact h.bi.ok)
 have hrep:=h.ts.nd.rep
 rw [h.ts.zp.root.x,h.ts.zp.whole] at hrep
 have hsz:=h.bi.sz
 have hlen:=h.ts.len
 have hfit:M1 W 65 (.lst (L9 (mM ctx cur))):=(Bl0 (deep:=0) (B0 _) o1 (by rw [vU];exact A3 hsz (A3 hN (by decide)))).up (A4 _) (by decide)
 exact ⟨o1,o2,hfit,by rw [vU];exact A3 hsz hN,⟨A3 (B4 _ _) hlen,h.ts.old⟩,hrep⟩
theorem Bc9 {n N:Nat}{k:Int}{ns:List Int}{H0 G:Heap}{s:rK}{x2 x3 x4 x5:Option V}{Q:C2}(h:TX H0 N s G) (hN:N+6100<=900000) (hQ:∀ G,TrD H0 (Ch3 s) G->Q (.ref H0.length) G) :
  C4 (C1 P n) (fD.drop 3) [some (.frz ns),some (.ref (H0.length+1)),x2,x3,x4,x5] (D8 Q) G:=by
 have hlim:I8=16777216:=rfl
 obtain ⟨ctx,cur⟩:=s
 obtain ⟨as,b,bs,rt,fs,hT⟩:=h
 replace hT:TI H0 N ctx cur as b bs rt fs G:=hT
 obtain ⟨r,hp⟩:=hT.pl
 have en:=hT.eqn (C:=C1 P n) (ρ:=[some (.frz ns),some (.ref (H0.length+1)),x2,x3,x4,x5]) (e:=.idx (.var 1) (.neg 1)) (A3 (B4 _ _) hN) (E4 (by exact fun zz h=>h) V0 (J8 hp))
 cases cur with
 | cons x xs =>
  refine Q4 en fun G' g'=>?_
  subst g'
  exact zT (hT.grow .one) (A3 (B4 _ _) hN) (fun q=>nomatch q) fun hD=>hQ _ hD
 | nil =>
  refine cS en fun G' g'=>?_
  subst g'
  have he:Ok (G++[[]]) (.leaf (bkE (.gap 1)) (.tup [.str [103,97,112],.int 1]) (G++[[]]:Heap).length (G++[[]]:Heap).length) G.length (G++[[]]).length:=⟨⟨E6.one.len,A4 _,A4 _⟩,_,rfl,.atom (a:=.s _) (.atom (a:=.i 1) (.nil (A4 _)))⟩
  have hb1:RBk (.gap 1) (.leaf (bkE (.gap 1)) (.tup [.str [103,97,112],.int 1]) (G++[[]]:Heap).length (G++[[]]:Heap).length):=⟨_,_,_,rfl⟩
  obtain ⟨q1,bs',rt',q2⟩:=hT.ts.put .one he .here (cur':=[]++[.gap 1]) (hT.ts.zp.typ.add hb1)
  refine I0 (a:=b) (v:=.tup [.str [103,97,112],.int 1]) (E4 (by exact fun zz h=>h) V0 (J8 (J5 hp))) (by exact fun zz h=>h) q1 (A9 hT.flen (xL (A3 (A3 (B4 _ _) hN) (by decide)))) ?_
  have hbi:BI ctx ([]++[.gap 1]) (N+6100):=hT.bi.add (b:=.gap 1) (A4 1) (Or.inl (by show ([103,97,112]:List Nat)≠[];decide)) (by show 20<=6100;decide)
  exact zT (n:=n) ⟨q2,hbi⟩ hN (fun q=>nomatch q) fun hD=>hQ _ hD
theorem Ao3 {H0:Heap}:TX H0 6100 ([],[]) (H0++[[]]++[[V.ref H0.length]]):=by
 have e1:(H0++[[]]:Heap).length=H0.length+1:=L7
 have e2:=yK (H:=H0) (l:=[]) (l':=[V.ref H0.length])
 have hpl:(H0++[[]]++[[V.ref H0.length]])[H0.length+1]? = some [V.ref H0.length]:=by rw [<- e1];exact E0
 have hnd:Nd (H0++[[]]++[[V.ref H0.length]]) H0.length (H0++[[]]++[[V.ref H0.length]]).length H0.length []:=⟨⟨A4 _,by rw [e2];exact Nat.lt_add_of_pos_right (by decide),(fun q=>q.elim),J5 E0⟩,bF.len⟩
 exact ⟨[H0.length],H0.length,[],[],[],⟨Nat.le_of_eq e2.symm,bF.old,hpl,.here rfl,hnd,fun i q=>q.elim⟩,trivial,trivial,B0 _⟩
theorem Ct0 {k:Nat}{m:Int}(h:0<=m):(k:Int)+1+m=((k+1+m.toNat:Nat):Int):=by obtain ⟨j,rfl⟩:=Int.eq_ofNat_of_zero_le h;rfl
theorem Cs3 (y:Int):(1+y % 3 * 4).toNat<=10:=by
 have h1:0<=y % 3:=Int.emod_nonneg _ (by decide)
 have h2:y % 3<3:=Int.emod_lt_of_pos _ (by decide)
 exact Int.toNat_le.mpr (Int.le_trans (Int.add_le_add_left (Int.mul_le_mul_of_nonneg_right (Int.le_of_lt_add_one (b:=2) h2) (by decide)) 1) (by decide))
theorem Cc4 {k j:Nat}:6100 * k+6100<=6100 * (k+1+j):=by
 rw [<- Nat.mul_succ];exact Nat.mul_le_mul_left _ (B4 _ _)
theorem Cc3 {k j L:Nat}(h:k<L):L - (k+1+j)<L - k:=A9 (Nat.sub_le_sub_left (B4 _ _) _) (Nat.sub_lt_sub_left h (B1 _))
theorem Cc5 {k j L f:Nat}(h:L<=k+f) (hf:f=f - 1+1):L<=k+1+j+(f - 1):=by
 rw [hf] at h
 exact A3 h (by rw [Nat.add_right_comm k 1,Nat.add_right_comm _ 1];exact A3 (Nat.le_of_eq (Nat.add_assoc k (f - 1) 1).symm) (by rw [Nat.add_right_comm k j];exact B3 (B4 _ _)))
theorem vR {n:Nat}{ns:List Int}{H0:Heap}{Q:C2}(hns:ns.length<=63) (hQ:∀ G,TrD H0 (treeF ns) G->Q (.ref H0.length) G):C1 P (n+16) "_law_tree" [.frz ns] Q H0:=by
 have hlim:I8=16777216:=rfl
 have e1:(H0++[[]]:Heap).length=H0.length+1:=L7
 refine Af2 (J9 (v:=.ref (H0.length+1)) (H1:=H0++[[]]++[[.ref H0.length]]) (fun Q q=>?_) (C6 (by exact fun zz h=>h) (I3 (mR (σ:=TZ) (fun z=>[some (.frz ns),some (.ref (H0.length+1)),some (.int (z.k:Nat)),z.x3,z.x4,z.x5]) (fun z G=>TX H0 (6100 * z.k) z.s G/\z.k<=100/\∃ f,ns.length<=z.k+f/\fL ns f z.k z.s=fL ns ns.length 1 ([],[])) (fun z=>ns.length - z.k) (fun z G hI K hK=>?_) ⟨1,([],[]),none,none,none⟩ ⟨Ao3,by show 1<=100;decide,ns.length,Nat.le_add_left _ _,rfl⟩))))
 ·rw [<- e1] at q;exact q
 ·obtain ⟨k,s,x3,x4,x5⟩:=z
  obtain ⟨hT,hk100,f,hf,hR⟩:=hI
  replace hT:TX H0 (6100 * k) s G:=hT
  replace hf:ns.length<=k+f:=hf
  replace hk100:k<=100:=hk100
  replace hR:fL ns f k s=fL ns ns.length 1 ([],[]):=hR
  have ev:∀ {C:Calls},Ev C [some (.frz ns),some (.ref (H0.length+1)),some (.int (k:Nat)),x3,x4,x5] G (.cmp .lt (.var 2) (.len (.var 0))) (.bool (decide (k<ns.length))):=J6 (C7 (by exact fun zz h=>h) (K0 (by exact fun zz h=>h) Cl4) X3) lt9
  cases hk:decide (k<ns.length) with
  | false =>
   rw [hk] at ev
   refine .stop ev ?_
   have hs:s=fL ns ns.length 1 ([],[]):=by
    rw [<- hR]
    cases f with
    | zero=>rfl
    | succ f =>
     show s=bif decide (k<ns.length) then _ else s
     rw [hk];rfl
   exact Bc9 (n:=n+15) (k:=0) hT (A3 (Nat.add_le_add_right (Nat.mul_le_mul_left 6100 hk100) _) (by decide)) fun G h=>hQ G (by unfold treeF;rw [<- hs];exact h)
  | true =>
   rw [hk] at ev
   have hkl:k<ns.length:=of_decide_eq_true hk
   refine .go ev ?_
   have hix:ns[k]? = some ns[k]:=List.getElem?_eq_getElem hkl
   have hidx:∀ {H:Heap},X9 (.frz ns) (.int (k:Nat)) H=some (.int ns[k]):=fun {H}=>by
    show (K3 (k:Int) ns.length).bind (fun i=>(ns[i]?).map V.int)=_
    rw [S6 hkl]
    show (ns[k]?).map V.int=_
    rw [hix];rfl
   refine C6 (v:=.int (headF ns k)) (lT (D6 (D6 (E4 (by exact fun zz h=>h) (by exact fun zz h=>h) hidx) C8 (iH (Or.inr (by decide)))) C8 (N1 (by decide))) (by unfold headF;rw [hix];rfl)) ?_
   have hfs:f=(f - 1)+1:=by
    cases f with
    | zero=>exact absurd hkl (Nat.not_lt_of_le hf)
    | succ f=>rfl
   have hR2:fL ns (f - 1) (k+1+(manyF (headF ns k)).toNat) (rQ (headF ns k) (cellsF ns k (manyF (headF ns k))) s)=fL ns ns.length 1 ([],[]):=by
    rw [<- hR,hfs]
    show _=bif decide (k<ns.length) then _ else s
    rw [hk];rfl
   generalize headF ns k=h at hR2
   obtain ⟨hm0,hm13,_⟩:=Ax3 h
   refine P2 (Ce1 (h:=h) (fun G=>D6 (D6 (by exact fun zz h=>h) C8 (M0 (by decide))) C8 (N1 (by decide))) fun G1 g1=>?_)
   generalize manyF h=m at hR2 hm0 hm13
   refine P2 (Cn6 (by exact fun zz h=>h) (D6 (by exact fun zz h=>h) C8 Q8) (D6 (D6 (by exact fun zz h=>h) C8 Q8) (by exact fun zz h=>h) Q8) ?_)
   have hce:slice ns (some ((k:Int)+1)) (some ((k:Int)+1+m))=cellsF ns k m:=rfl
   have hcl:(cellsF ns k m).length<=63:=A3 (slice_le (Int.le_add_one (Int.natCast_nonneg k)) (Int.add_nonneg (Int.le_add_one (Int.natCast_nonneg k)) hm0)) hns
   rw [hce]
   generalize cellsF ns k m=cells at hR2 hcl
   refine C6 (lT (D6 (D6 (by exact fun zz h=>h) C8 Q8) (by exact fun zz h=>h) Q8) (congrArg V.int (Ct0 hm0))) ?_
   have hT2:TX H0 (6100 * k) s (G1++[cells.map V.int]):=hT.grow (g1.trans .one)
   have hcg:(G1++[cells.map V.int])[G1.length]? = some (cells.map V.int):=E0
   generalize (G1++[cells.map V.int]:Heap)=G2 at hT2 hcg
   generalize G1.length=c at hcg
   have hk':k+1+m.toNat<=100:=A3 (Nat.add_le_add (A3 hkl hns) (Int.toNat_le.mpr hm13)) (by decide)
   have hkN:6100 * k+6100<=900000:=A3 (Nat.add_le_add_right (Nat.mul_le_mul_left 6100 hk100) _) (by decide)
   have next:∀ {G':Heap},TX H0 (6100 * k+6100) (rQ h cells s) G'->K [some (.frz ns),some (.ref (H0.length+1)),some (.int ((k+1+m.toNat:Nat):Int)),some (.int h),some (.int m),some (.ref c)] G':=fun hG' =>
    hK ⟨k+1+m.toNat,rQ h cells s,_,_,_⟩ _ (Cc3 hkl) ⟨hG'.le Cc4,hk',f - 1,Cc5 hf hfs,hR2⟩
   have evm:∀ {C:Calls}{x2:Option V}{x4 x5:Option V}{G:Heap},Ev C [some (.frz ns),some (.ref (H0.length+1)),x2,some (.int h),x4,x5] G (.bin .mod (.var 3) (.int 12)) (.int (h % 12)):=D6 (by exact fun zz h=>h) C8 (N1 (by decide))
   refine T1 (C7 evm C8 T0) (fun hq=>?_) (fun hq=>?_)
   ·refine K8 (C9 (by exact fun zz h=>h) (C9 evm (C9 (D6 C8 (D6 (D6 (D6 (by exact fun zz h=>h) C8 (M0 (by decide))) C8 (N1 (by decide))) C8 (iH (Or.inr (by decide)))) Q8) K5))) (Br6 (n:=n+14) hT2 (A3 (Nat.add_le_add_left (by decide) _) hkN) (Cs3 _) fun G' hG'=>next ?_)
    unfold rQ
    rw [hq];exact hG'.le (Nat.add_le_add_left (by decide) _)
   ·obtain ⟨ctx,cur⟩:=s
    obtain ⟨as,b,bs,rt,fs,hTI⟩:=hT2
    replace hTI:TI H0 (6100 * k) ctx cur as b bs rt fs G2:=hTI
    obtain ⟨r,hp⟩:=hTI.pl
    refine Cc7 (I5 (E4 (by exact fun zz h=>h) V0 (J8 hp)) (I5 evm (I5 (D6 (by exact fun zz h=>h) C8 (M0 (by decide))) (P0 (C9 (by exact fun zz h=>h) (C9 (D6 (by exact fun zz h=>h) C8 (M0 (by decide))) K5)) (Ae8 (n:=n+10) hcg (by rw [B6];exact hcl) rfl fun G3 hD=>?_)))))
    refine I5 (v:=.int (ctx.length:Nat)) (lT (D6 (K0 (by exact fun zz h=>h) (J4 (hD.gr.get hTI.ts.pile))) C8 nH) (congrArg V.int (by rw [hTI.plen];exact Int.add_sub_cancel (ctx.length:Int) 1))) (I1 ?_)
    refine Co4 (n:=n) hTI hkN ⟨hD.op,hD.sg,hD.len⟩ hD.gr hD.rep fun G' hG'=>next ?_
    unfold rQ
    rw [hq];exact hG'
mutual
noncomputable def flI:It->List (Nat×List T)
 | .it n ts sub=>(n,ts)::qT sub
noncomputable def qT:List It->List (Nat×List T)
 | []=>[]
 | i::is=>flI i++qT is
end
mutual
noncomputable def spI:It->List Nat
 | .it n _ sub=>n::spn sub
noncomputable def spn:List It->List Nat
 | []=>[]
 | i::is=>bif is.isEmpty then spI i else spn is
end
theorem nU {i:It}:∀ is:List It,spn (is++[i])=spI i
 | []=>rfl
 | [j]=>rfl
 | j::k::is=>nU (i:=i) (k::is)
abbrev ICx:=List (List It×Nat×List T)
noncomputable def U3:ICx->List It->List It
 | [],c=>c
 | (p,n,ts)::ctx,c=>p++[.it n ts (U3 ctx c)]
noncomputable def tX (ctx:ICx):List Nat:=ctx.map fun x=>x.2.1
theorem fB {p c:List It}{n:Nat}{ts:List T}:∀ ctx:ICx,U3 (ctx++[(p,n,ts)]) c=U3 ctx (p++[.it n ts c])
 | []=>rfl
 | (q,m,us)::ctx=>by
  show q++[It.it m us (U3 (ctx++[(p,n,ts)]) c)]=q++[It.it m us (U3 ctx (p++[.it n ts c]))]
  rw [fB ctx]
theorem pM {c:List It}{x:It}:∀ ctx:ICx,insAt ctx.length (U3 ctx c) x=U3 ctx (c++[x])
 | []=>rfl
 | (q,m,us)::ctx=>by
  show insAt (ctx.length+1) (q++[It.it m us (U3 ctx c)]) x=q++[It.it m us (U3 ctx (c++[x]))]
  rw [R0,pM ctx]
theorem Ct2 {N:Nat}{a:List Nat}(h:∀ m∈a,m<N):jO a N=a.length:=by
 rcases P1 a with rfl | ⟨r,m,rfl⟩
 ·rfl
 ·rw [vY,if_neg (Nat.not_le_of_lt (h m (List.mem_append.mpr (Or.inr (.head _))))),A6];rfl
theorem Bk8 {N:Nat}{a:List Nat}(h:∀ m∈a,m<N):∀ (k:Nat) (b:List Nat),b.length=k->(∀ m∈b,N<=m)->jO (a++b) N=a.length
 | 0,b,e,_=>by rw [List.length_eq_zero_iff.mp e,List.append_nil];exact Ct2 h
 | k+1,b,e,hb=>by
  rcases P1 b with rfl | ⟨r,m,rfl⟩
  ·cases e
  ·rw [<- A7,vY,if_pos (hb m (List.mem_append.mpr (Or.inr (.head _))))]
   exact Bk8 h k r (by rw [A6] at e;exact Nat.succ.inj e) fun x hx=>hb x (List.mem_append.mpr (Or.inl hx))
theorem Bd0 {ctx:ICx}{c:List It}{N:Nat}{ts:List T}(h:∀ m∈tX ctx,m<N) (hc:∀ m∈spn c,N<=m):fM (U3 ctx c,tX ctx++spn c) (N,ts)=(U3 ctx (c++[.it N ts []]),tX ctx++[N]):=by
 have e:jO (tX ctx++spn c) N=(tX ctx).length:=Bk8 h _ _ rfl hc
 have e2:(tX ctx).length=ctx.length:=B6 ..
 show (insAt (jO (tX ctx++spn c) N) _ _,(tX ctx++spn c).take (jO (tX ctx++spn c) N)++[N])=_
 rw [e,List.take_left,e2,pM]
mutual
theorem Cl7:∀ {above most:Nat}{i:It},IO1 above most i->∀ m∈spI i,above<m
 | above,most,.it n ts sub,h=>fun m hm=>by
  rcases List.mem_cons.mp hm with rfl | hm
  ·exact h.1.2.2
  ·exact Nat.lt_trans h.1.2.2 (vS (is:=sub) h.2.2 m hm)
theorem vS:∀ {above most:Nat}{is:List It},dJ above most is->∀ m∈spn is,above<m
 | _,_,[],_=>fun m hm=>nomatch hm
 | above,most,i::is,h=>fun m hm=>by
  cases is with
  | nil=>exact Cl7 (i:=i) h.1 m hm
  | cons j js=>exact vS (is:=j::js) h.2 m hm
end
mutual
theorem Cn8:∀ (i:It) (ctx:ICx) (c:List It) (above most:Nat),IO1 above most i->(∀ m∈tX ctx,m<=above)->(∀ m∈spn c,most<=m) ->
  (flI i).foldl fM (U3 ctx c,tX ctx++spn c)=(U3 ctx (c++[i]),tX ctx++spn (c++[i]))
 | .it n ts sub,ctx,c,above,most,h,h1,h2=>by
  have e1:=Bd0 (ts:=ts) (fun m hm=>A9 (h1 m hm) h.1.2.2) (fun m hm=>A3 h.1.2.1 (h2 m hm))
  have e2:tX (ctx++[(c,n,ts)])=tX ctx++[n]:=by unfold tX;rw [List.map_append];rfl
  have ih:=wA sub (ctx++[(c,n,ts)]) [] n 9 h.2.2 (fun m hm=>by
   rw [e2] at hm
   rcases List.mem_append.mp hm with hm | hm
   ·exact B5 (A9 (h1 m hm) h.1.2.2)
   ·rw [List.mem_singleton.mp hm];exact A4 _) (fun m hm=>nomatch hm)
  rw [fB,fB,e2,show spn []=[] from rfl,List.append_nil,List.nil_append] at ih
  show (qT sub).foldl fM (fM (U3 ctx c,tX ctx++spn c) (n,ts))=_
  rw [e1,ih,nU,A7];rfl
theorem wA:∀ (is:List It) (ctx:ICx) (c:List It) (above most:Nat),dJ above most is->(∀ m∈tX ctx,m<=above)->(∀ m∈spn c,most<=m) ->
  (qT is).foldl fM (U3 ctx c,tX ctx++spn c)=(U3 ctx (c++is),tX ctx++spn (c++is))
 | [],ctx,c,above,most,_,_,_=>by rw [List.append_nil];rfl
 | i::is,ctx,c,above,most,h,h1,h2=>by
  have e1:=Cn8 i ctx c above most h.1 h1 h2
  have hs:∀ m∈spn (c++[i]),dsh i<=m:=fun m hm=>by
   rw [nU] at hm
   cases i with
   | it n ts sub =>
    rcases List.mem_cons.mp hm with rfl | hm
    ·exact A4 _
    ·exact B5 (vS h.1.2.2 m hm)
  have e2:=wA is ctx (c++[i]) above (dsh i) h.2 h1 hs
  show (flI i++qT is).foldl fM _=_
  rw [List.foldl_append,e1,e2,A7];rfl
end
theorem Ce7 {is:List It}(h:dJ 0 9 is):itF (qT is)=is:=by
 have:=wA is [] [] 0 9 h (fun m hm=>nomatch hm) (fun m hm=>nomatch hm)
 unfold itF itS
 have e:=congrArg Prod.fst this
 exact e
theorem uO {c:Nat}{r:List Nat}(hc:c≠32):∀ n,runL c (mk c n r)=n
 | 0=>if_neg (Ne.symm hc)
 | n+1=>(if_pos rfl).trans (congrArg (· + 1) (uO hc n))
theorem Ay2 {c:Nat}{r:List Nat}:∀ n,(mk c n r).drop n=32::r
 | 0=>rfl
 | n+1=>Ay2 n
theorem oF {c:Nat}{r:List Nat}:∀ n,(mk c n r).drop (n+1)=r
 | 0=>rfl
 | n+1=>oF n
theorem Ab1 {c m n:Nat}{r:List Nat}(hc:c≠32) (h1:1<=n) (h2:n<=m):isRun c m (mk c n r)=true:=by
 unfold isRun
 rw [uO hc,Ay2,decide_eq_true h1,decide_eq_true h2];rfl
theorem Bl9 {b:Bool}:(b&&false)=false:=Bool.and_false b
theorem Cl9 {deep n:Nat}{r:List Nat}(h1:1<=n) (h2:n<=6):shp deep (mk 35 n r)=⟨2,n,r⟩:=by
 have hr:=Ab1 (r:=r) (by decide:35≠32) h1 h2
 have e1:=uO (r:=r) (by decide:35≠32) n
 have e2:=oF (c:=35) (r:=r) n
 cases n with
 | zero=>cases h1
 | succ n =>
  show shpN deep (mk 35 (n+1) r)=_
  unfold shpN
  rw [show isQ deep (mk 35 (n+1) r)=false from Bl9,hr,e1,e2];rfl
theorem Cl8 {deep n:Nat}{r:List Nat}(h1:1<=n) (h2:n<=9):shp deep (mk 45 n r)=⟨3,n,r⟩:=by
 have hr:=Ab1 (r:=r) (by decide:45≠32) h1 h2
 have e1:=uO (r:=r) (by decide:45≠32) n
 have e2:=oF (c:=45) (r:=r) n
 cases n with
 | zero=>cases h1
 | succ n =>
  show shpN deep (mk 45 (n+1) r)=_
  unfold shpN
  rw [show isQ deep (mk 45 (n+1) r)=false from Bl9,show isRun 35 6 (mk 45 (n+1) r)=false from rfl,hr,e1,e2];rfl
theorem Cs0 {deep:Nat}{r:List Nat}(h:deep<9):shp deep (62::32::r)=⟨1,0,r⟩:=by
 show shpN deep (62::32::r)=_
 unfold shpN
 rw [show isQ deep (62::32::r)=true by unfold isQ;rw [decide_eq_true h];rfl];rfl
theorem Cs2 {deep:Nat}{row:List Nat}(h:(shp deep row).k=4):shp deep row=⟨4,0,row⟩:=by
 rcases jC deep row with ⟨rfl,e⟩ | ⟨h0,⟨hq,e⟩ | ⟨hq,⟨h35,e⟩ | ⟨h35,⟨h45,e⟩ | ⟨h45,e⟩⟩⟩⟩
 ·rw [e] at h;cases h
 ·rw [e] at h;cases h
 ·rw [e] at h;cases h
 ·rw [e] at h;cases h
 ·exact e
mutual
theorem Cm1:∀ i:It,rwI i=(flI i).map fun p=>mk 45 p.1 (rowTs p.2)
 | .it n ts sub=>congrArg (mk 45 n (rowTs ts)::·) (mB sub)
theorem mB:∀ is:List It,M3 is=(qT is).map fun p=>mk 45 p.1 (rowTs p.2)
 | []=>rfl
 | i::is=>by
  show rwI i++M3 is=(flI i++qT is).map _
  rw [Cm1 i,mB is,List.map_append]
end
mutual
theorem Ct5:∀ {above most:Nat}{i:It},most<=9->IO1 above most i->∀ p∈flI i,(1<=p.1/\p.1<=9)/\Ct p.2
 | above,most,.it n ts sub,hm,h=>fun p hp=>by
  rcases List.mem_cons.mp hp with rfl | hp
  ·exact ⟨⟨h.1.1,A3 h.1.2.1 hm⟩,h.2.1⟩
  ·exact uW (is:=sub) (A4 _) h.2.2 p hp
theorem uW:∀ {above most:Nat}{is:List It},most<=9->dJ above most is->∀ p∈qT is,(1<=p.1/\p.1<=9)/\Ct p.2
 | _,_,[],_,_=>fun p hp=>nomatch hp
 | above,most,.it n ts sub::is,hm,h=>fun p hp=>by
  rcases List.mem_append.mp hp with hp | hp
  ·exact Ct5 hm h.1 p hp
  ·exact uW (is:=is) (A3 h.1.1.2.1 hm) h.2 p hp
end
structure Cx6 (rec:List (List Nat)->List Bk) (deep:Nat) (b:Bk) (s:Sh) (m:List Sh):Prop where
 rows:(rwB b).map (shp deep)=s::m
 uni:Uni s m
 k:s.k<=4
 nm:nmK s.k=fE b
 bk:qU rec (s::m)=b
theorem lY {α:Type}{f:α->Sh}{x:α}{l:List α}(h:∀ y,(f y).k=(f x).k) (h2:(f x).k≠2):Uni (f x) (l.map f):=⟨fun t ht=>by
 obtain ⟨y,_,rfl⟩:=List.mem_map.mp ht
 exact h y,fun q=>absurd q h2⟩
noncomputable def f0 (_:List Nat):Sh:=⟨0,0,[]⟩
noncomputable def f1 (r:List Nat):Sh:=⟨1,0,r⟩
noncomputable def f3 (p:Nat×List T):Sh:=⟨3,p.1,rowTs p.2⟩
noncomputable def f4 (ts:List T):Sh:=⟨4,0,rowTs ts⟩
theorem Cd0 {l:List (Nat×List T)}(h:∀ p∈l,Ct p.2):(l.map f3).map bL=l:=by
 rw [List.map_map]
 exact (List.map_congr_left (g:=id) fun p hp=>congrArg (Prod.mk p.1) (h p hp).eq.symm).trans (List.map_id _)
mutual
theorem Al5:∀ {d deep:Nat}(b:Bk),deep+d=9->BO1 deep b->∃ s m,Cx6 (xS d) deep b s m
 | d,deep,.gap n,hd,h=>by
  cases n with
  | zero=>cases h
  | succ n =>
   refine ⟨f0 [],(List.replicate n []).map f0,List.map_congr_left fun r hr=>?_,lY (fun zz=>rfl) (by decide),by decide,rfl,?_⟩
   ·rw [(List.mem_replicate.mp hr).2];rfl
   ·show Bk.gap (((List.replicate n []).map f0).length+1)=_
    rw [B6,List.length_replicate]
 | d,deep,.head n ts,hd,h=>⟨⟨2,n,rowTs ts⟩,[],congrArg (fun s=>[s]) (Cl9 h.1.1 h.1.2),⟨fun zz q=>(nomatch q),fun zz=>rfl⟩,(by decide:2<=4),rfl,congrArg (Bk.head n) h.2.eq.symm⟩
 | d,deep,.list is,hd,h=>by
  have hb:=Ce7 h.2.1
  have hr:=mB is
  have hc:=uW (A4 _) h.2.1
  cases hf:qT is with
  | nil=>rw [hf] at hb;exact absurd hb.symm h.1
  | cons p ps =>
   rw [hf] at hr hc hb
   refine ⟨f3 p,ps.map f3,?_,lY (fun zz=>rfl) (by show 3≠2;decide),(by decide:3<=4),rfl,?_⟩
   ·show (M3 is).map (shp deep)=(p::ps).map f3
    rw [hr,List.map_map]
    exact List.map_congr_left fun x hx=>Cl8 (hc x hx).1.1 (hc x hx).1.2
   ·show Bk.list (itF (((p::ps).map f3).map bL))=_
    rw [Cd0 fun x hx=>(hc x hx).2,hb]
 | d,deep,.para [],hd,h=>absurd rfl h.1
 | d,deep,.para (ts::rs),hd,h=>by
  refine ⟨f4 ts,rs.map f4,?_,lY (fun zz=>rfl) (by show 4≠2;decide),(by decide:4<=4),rfl,?_⟩
  ·show ((ts::rs).map rowTs).map (shp deep)=(ts::rs).map f4
   rw [List.map_map]
   exact List.map_congr_left fun x hx=>Cs2 (h.2 x hx).2
  ·show Bk.para (((ts::rs).map f4).map fun s=>pts s.r)=_
   rw [List.map_map]
   exact congrArg Bk.para ((List.map_congr_left (g:=id) fun x hx=>(h.2 x hx).1.eq.symm).trans (List.map_id _))
 | d,deep,.quote bs,hd,h=>by
  obtain ⟨d',rfl⟩:=mC hd h.1
  have hd':deep+1+d'=9:=(Nat.add_right_comm deep 1 d').trans hd
  have ih:=wF (d:=d') bs hd' h.2.2
  rw [<- uP hd'] at ih
  have hr:∀ l:List (List Nat),(l.map fun r=>62::32::r).map (shp deep)=l.map f1:=fun l=>by
   rw [List.map_map]
   exact List.map_congr_left fun x zz=>Cs0 h.1
  have h2:=hr (rwBs bs)
  cases hl:rwBs bs with
  | nil =>
   rw [hl] at ih
   exact absurd (ih.symm.trans (by rw [uP hd'];rfl)) h.2.1
  | cons r rs =>
   rw [hl] at ih h2
   refine ⟨f1 r,rs.map f1,?_,lY (fun zz=>rfl) (by show 1≠2;decide),(by decide:1<=4),rfl,?_⟩
   ·show ((rwBs bs).map fun r=>62::32::r).map (shp deep)=_
    rw [hl];exact h2
   ·show Bk.quote (rdF d' (((r::rs).map f1).map (·.r)))=_
    rw [List.map_map,show (r::rs).map ((·.r) ∘ f1)=r::rs from List.map_id _,ih]
theorem wF:∀ {d deep:Nat}{last:List Nat}(bs:List Bk),deep+d=9->bA deep last bs->(grpF ((rwBs bs).map (shp deep))).map (qU (xS d))=bs
 | _,_,_,[],_,_=>rfl
 | d,deep,last,[b],hd,h=>by
  obtain ⟨s,m,hb⟩:=Al5 b hd h.1
  rw [show rwBs [b]=rwB b from List.append_nil _,hb.rows]
  have:=gC (r:=[]) hb.uni trivial
  rw [List.append_nil] at this
  rw [this]
  show [qU _ (s::m)]=_
  rw [hb.bk]
 | d,deep,last,b::b2::bs,hd,h=>by
  obtain ⟨s,m,hb⟩:=Al5 b hd h.1
  obtain ⟨s2,m2,hb2⟩:=Al5 b2 hd h.2.2.1
  have ih:=wF (b2::bs) hd h.2.2
  have hst:Stp s ((rwBs (b2::bs)).map (shp deep)):=by
   show Stp s ((rwB b2++rwBs bs).map _)
   rw [List.map_append,hb2.rows]
   exact h.2.2.2.1.imp (fun q e=>q (by rw [<- hb2.nm,<- hb.nm,e])) (fun q=>Cd8 _ (Nat.lt_succ_of_le hb.k) 2 (by decide) (hb.nm.trans q))
  rw [show rwBs (b::b2::bs)=rwB b++rwBs (b2::bs) from rfl,List.map_append,hb.rows,List.cons_append,gC hb.uni hst,List.map_cons,ih,hb.bk]
end
theorem Cd2 {d deep:Nat}{bs:List Bk}(hd:deep+d=9) (h:bA deep [] bs):rdF d (rwBs bs)=bs:=by
 rw [uP hd];exact wF bs hd h
noncomputable def tot (k:Nat):List (List Nat)->Nat
 | []=>0
 | r::rs=>r.length+k+tot k rs
theorem aQ {k:Nat}:∀ as bs:List (List Nat),tot k (as++bs)=tot k as+tot k bs
 | [],bs=>(Nat.zero_add _).symm
 | a::as,bs=>by show a.length+k+tot k (as++bs)=a.length+k+tot k as+tot k bs;rw [aQ as bs,Nat.add_assoc (a.length+k)]
theorem Bg9 {k:Nat}:∀ rs:List (List Nat),tot k (rs.map fun r=>62::32::r)=tot (k+2) rs
 | []=>rfl
 | r::rs=>by
  show r.length+2+k+tot k (rs.map _)=r.length+(k+2)+tot (k+2) rs
  rw [Bg9 rs,Nat.add_assoc r.length,Nat.add_comm 2]
theorem Cm6 {c n:Nat}{r:List Nat}:(mk c n r).length=n+(r.length+1):=by unfold mk;rw [A6,List.length_replicate];rfl
theorem Ch9 {c n k:Nat}{r:List Nat}(hn:n<=9) (hk:k<=19):(mk c n r).length+k<=r.length+30:=by rw [Cm6];exact M4 (M9 hn hk)
mutual
theorem Cr8 {k:Nat}(hk:k<=19):∀ {above most:Nat}{i:It},most<=9->IO1 above most i->tot k (rwI i)<=szI i
 | above,most,.it n ts sub,hm,h=>Nat.add_le_add (Ch9 (A3 h.1.2.1 hm) hk) (Ak4 hk (is:=sub) (A4 _) h.2.2)
theorem Ak4 {k:Nat}(hk:k<=19):∀ {above most:Nat}{is:List It},most<=9->dJ above most is->tot k (M3 is)<=szIs is
 | _,_,[],_,_=>A4 _
 | above,most,.it n ts sub::is,hm,h=>by
  show tot k (rwI _++M3 is)<=szI _+szIs is
  rw [aQ]
  exact Nat.add_le_add (Cr8 hk hm h.1) (Ak4 hk (A3 h.1.1.2.1 hm) h.2)
end
theorem Aw4 {k:Nat}(hk:k<=19):∀ n,tot k (List.replicate n [])<=19 * n
 | 0=>A4 _
 | n+1=>by
  show 0+k+tot k (List.replicate n [])<=19 * n+19
  rw [Nat.zero_add,Nat.add_comm]
  exact Nat.add_le_add (Aw4 hk n) hk
theorem zU {k:Nat}(hk:k<=19):∀ rs:List (List T),tot k (rs.map rowTs)<=szR rs
 | []=>A4 _
 | ts::rs=>Nat.add_le_add (Nat.add_le_add_left (A3 hk (by decide)) _) (zU hk rs)
mutual
theorem Cr9:∀ {deep:Nat}{b:Bk},deep<=9->BO1 deep b->tot (1+2 * deep) (rwB b)<=szB b
 | deep,.gap n,hd,h=>Nat.le_succ_of_le (Aw4 (Nat.add_le_add_left (Nat.mul_le_mul_left 2 hd) 1) n)
 | deep,.head n ts,hd,h=>Ch9 (A3 h.1.2 (by decide)) (Nat.add_le_add_left (Nat.mul_le_mul_left 2 hd) 1)
 | deep,.list is,hd,h=>Nat.le_succ_of_le (Ak4 (Nat.add_le_add_left (Nat.mul_le_mul_left 2 hd) 1) (A4 _) h.2.1)
 | deep,.para rs,hd,h=>Nat.le_succ_of_le (zU (Nat.add_le_add_left (Nat.mul_le_mul_left 2 hd) 1) rs)
 | deep,.quote bs,hd,h=>Nat.le_succ_of_le (by
  show tot _ ((rwBs bs).map fun r=>62::32::r)<=_
  rw [Bg9]
  exact Ak5 (bs:=bs) h.1 h.2.2)
theorem Ak5:∀ {deep:Nat}{last:List Nat}{bs:List Bk},deep<=9->bA deep last bs->tot (1+2 * deep) (rwBs bs)<=szBs bs
 | _,_,[],_,_=>A4 _
 | deep,last,b::bs,hd,h=>by
  show tot _ (rwB b++rwBs bs)<=szB b+szBs bs
  rw [aQ]
  exact Nat.add_le_add (Cr9 hd h.1) (Ak5 hd h.2.2)
end
theorem Ch5 {c n:Nat}{r:List Nat}(hc:mL c=true) (h:Sg r):Sg (mk c n r):=fun x hx=>by
 rcases List.mem_append.mp hx with hx | hx
 ·rw [(List.mem_replicate.mp hx).2];exact hc
 ·rcases List.mem_cons.mp hx with rfl | hx
  ·rfl
  ·exact h x hx
mutual
theorem Cw8:∀ {deep:Nat}{b:Bk},BO1 deep b->∀ r∈rwB b,Sg r
 | deep,.gap n,h=>fun r hr=>by rw [(List.mem_replicate.mp hr).2];exact fun c hc=>nomatch hc
 | deep,.head n ts,h=>fun r hr=>by rw [List.mem_singleton.mp hr];exact Ch5 rfl h.2.sg
 | deep,.list is,h=>fun r hr=>by
  replace hr:r∈M3 is:=hr
  rw [mB] at hr
  obtain ⟨p,hp,rfl⟩:=List.mem_map.mp hr
  exact Ch5 rfl (uW (A4 _) h.2.1 p hp).2.sg
 | deep,.para rs,h=>fun r hr=>by
  obtain ⟨ts,ht,rfl⟩:=List.mem_map.mp hr
  exact (h.2 ts ht).1.sg
 | deep,.quote bs,h=>fun r hr=>by
  obtain ⟨q,hq,rfl⟩:=List.mem_map.mp hr
  exact fun c hc=>by
   rcases List.mem_cons.mp hc with rfl | hc
   ·rfl
   ·rcases List.mem_cons.mp hc with rfl | hc
    ·rfl
    ·exact Bh1 (bs:=bs) h.2.2 q hq c hc
theorem Bh1:∀ {deep:Nat}{last:List Nat}{bs:List Bk},bA deep last bs->∀ r∈rwBs bs,Sg r
 | _,_,[],_=>fun r hr=>nomatch hr
 | deep,last,b::bs,h=>fun r hr=>by
  rcases List.mem_append.mp hr with hr | hr
  ·exact Cw8 h.1 r hr
  ·exact Bh1 h.2.2 r hr
end
theorem sM {c:Nat}{t:List Nat}:∀ {w:List Nat},(∀ x∈w,x≠c)->splitAt c (w++c::t)=w::splitAt c t
 | [],_=>if_pos rfl
 | y::w,h=>by
  show (if y=c then []::splitAt c (w++c::t) else match splitAt c (w++c::t) with | []=>[[y]] | w::r=>(y::w)::r)=_
  rw [if_neg (h y (.head _)),sM fun x hx=>h x (.tail _ hx)]
theorem pC {c:Nat}:∀ {w:List Nat},(∀ x∈w,x≠c)->splitAt c w=[w]
 | [],_=>rfl
 | y::w,h=>by
  show (if y=c then []::splitAt c w else match splitAt c w with | []=>[[y]] | w::r=>(y::w)::r)=_
  rw [if_neg (h y (.head _)),pC fun x hx=>h x (.tail _ hx)]
theorem pD {c:Nat}:∀ {rs:List (List Nat)},rs≠[]->(∀ r∈rs,∀ x∈r,x≠c)->splitAt c (joinWith [c] rs)=rs
 | [w],_,h=>pC (h w (.head _))
 | w::v::r,_,h=>by
  show splitAt c (w++[c]++joinWith [c] (v::r))=_
  rw [A7]
  exact (sM (h w (.head _))).trans (congrArg (w::·) (pD (List.cons_ne_nil v r) fun r hr=>h r (.tail _ hr)))
theorem Aa9 {c:Nat}:∀ rs:List (List Nat),(joinWith [c] rs).length<=tot 1 rs
 | []=>A4 _
 | [w]=>B8 _
 | w::v::r=>by
  show (w++[c]++joinWith [c] (v::r)).length<=w.length+1+tot 1 (v::r)
  rw [A6,A6]
  exact Nat.add_le_add_left (Aa9 (v::r)) _
theorem X2:∀ rs:List (List Nat),rs.length<=tot 1 rs
 | []=>A4 _
 | w::r=>by
  show r.length+1<=w.length+1+tot 1 r
  rw [Nat.add_comm]
  exact Nat.add_le_add (Nat.le_add_left _ _) (X2 r)
theorem fY:∀ {rs:List (List Nat)},∀ r∈rs,r.length<=tot 1 rs
 | w::rs,r,h=>by
  rcases List.mem_cons.mp h with rfl | h
  ·exact A3 (B8 _) (B4 _ _)
  ·exact A3 (fY r h) (Nat.le_add_left _ _)
theorem zV {k j:Nat}(h:k<=j):∀ rs:List (List Nat),tot k rs<=tot j rs
 | []=>A4 _
 | r::rs=>Nat.add_le_add (Nat.add_le_add_left h _) (zV h rs)
structure RwD (bs:List Bk):Prop where
 back:rdF 9 (splitAt 10 (joinWith [10] (rwBs bs)))=bs
 sg:∀ r∈splitAt 10 (joinWith [10] (rwBs bs)),∀ c∈r,mL c=true
 len:(joinWith [10] (rwBs bs)).length<=900000
 tot:tot 1 (rwBs bs)<=900000
theorem Cc8 {bs:List Bk}(h:bA 0 [] bs) (hne:bs≠[]) (hs:szBs bs<=900000):RwD bs:=by
 have hb:=Cd2 (d:=9) rfl h
 have hsg:=Bh1 h
 have hr:rwBs bs≠[]:=fun q=>by
  rw [q] at hb
  exact hne hb.symm
 have e:splitAt 10 (joinWith [10] (rwBs bs))=rwBs bs:=pD hr fun r hr x hx q=>by
  have:=hsg r hr x hx
  rw [q] at this
  cases this
 have ht:=A3 (Ak5 (B0 _) h) hs
 exact ⟨by rw [e];exact hb,by rw [e];exact hsg,A3 (Aa9 _) ht,ht⟩
structure OS (H:Heap) (rs:List (List Nat)) (c:Nat) (G:Heap):Prop where
 gr:E6 H G
 new:H.length<=c
 get:G[c]? = some (rs.map V.str)
theorem yE {C:Calls}{ρ:D7}{G:Heap}{R:E2}{ss:List S}{o e:E}{a:Nat}{l:List V}{rs:List (List Nat)}(ho:Ev C ρ G o (.ref a)) (he:∀ Q:C2,(∀ c G',OS G rs c G'->Q (.ref c) G')->D9 C e ρ Q G) (ha:G[a]? = some l) (hl:l.length+rs.length<=1000000) (k:∀ G',Up a G G'->G'[a]? = some (l++rs.map V.str)->C4 C ss ρ R G'):C4 C (.expr (.extend o e)::ss) ρ R G:=ho _ (he _ fun c G' h=>by
 have hlt:=H8 ha
 show hea ((G'[a]?).bind fun l=>(G'[c]?).bind fun r=>if a≠c/\l.length+r.length<=I8 then some (G'.set a (l++r)) else none) _
 rw [h.gr.get ha,h.get]
 show hea (if a≠c/\l.length+(rs.map V.str).length<=I8 then some (G'.set a (l++rs.map V.str)) else none) _
 rw [if_pos ⟨Nat.ne_of_lt (A8 hlt h.new),by rw [B6];exact A3 hl xV⟩]
 exact k _ ((Up.grow h.gr).trans .set) (List.getElem?_set_self (A8 hlt h.gr.len)))
theorem Ch7 {C:Calls}{ρ:D7}{G:Heap}{R:E2}{ss:List S}{o e:E}{a:Nat}{l:List V}{w:List Nat}(ho:Ev C ρ G o (.ref a)) (he:Ev C ρ G e (.str w)) (ha:G[a]? = some l) (hl:l.length+1<=1000000) (k:∀ G',Up a G G'->G'[a]? = some (l++[V.str w])->C4 C ss ρ R G'):C4 C (.expr (.append o e)::ss) ρ R G :=
 I0 ho he ha (xL (Nat.le_of_succ_le hl)) (k _ .set (List.getElem?_set_self (H8 ha)))
theorem Bl2 {n a lo hi c k:Nat}{ρ:D7}{G:Heap}{e1 e2:E}{ts:List T}(hk:k<=9) (h1:Ev (C1 P (n+13)) ρ G e1 (.int (k:Nat))) (h2:Ev (C1 P (n+13)) ρ G e2 (.ref a)) (hg:X8 0 ts) (hr:J0 G (.lst (G9 ts)) lo hi (.ref a)) (hl:(mk c k (rowTs ts)).length<=1000000):Ev (C1 P (n+13)) ρ G (.bin .add (.bin .add (.bin .mul (.str [c]) e1) (.str [32])) (.call "_law_row" [e2])) (.str (mk c k (rowTs ts))):=by
 rw [<- yI] at hl ⊢
 exact R3 (wC hk h1) (D3 (C9 h2 K5) fun Q q=>mE 12 0 n rfl ts a lo hi G Q hg hr (suf hl) q) hl
theorem cT {H G:Heap}{l:List V}(u:Up H.length (H++[l]) G):E6 H G:=⟨A3 E6.one.len u.len,fun x h0 hx=>(u.eq x (Nat.ne_of_lt hx) (A8 hx E6.one.len)).trans (E6.one.old x h0 hx)⟩
noncomputable def LU (m n:Nat):Prop:=∀ (is:List It) (a lo hi:Nat) (H:Heap) (Q:C2),dIs is<=m->GIs is->J0 H (.lst (aG is)) lo hi (.ref a)->hi<=H.length->tot 1 (M3 is)<=1000000->(∀ c G,OS H (M3 is) c G->Q (.ref c) G)->C1 P n "_law_under" [.ref a] Q H
theorem pB {m n:Nat}(ih:∀ m',m=m'+1->LU m' (n+13)):LU m (n+14):=by
 intro is a lo hi H Q hd hg hr hh ht hQ
 obtain ⟨a',l,p,q,e,hb,ha,hrl⟩:=hr
 cases e
 have hqH:q<=H.length:=A3 hb.qh hh
 refine wS (J9 (H1:=H++[[]]) (v:=.ref H.length) (fun zz h=>h) (I3 (V2 (σ:=Option V) (fun z=>[some (.ref a),some (.ref H.length),z]) (fun k z G=>Up H.length (H++[[]]) G/\G[H.length]? = some ((M3 (is.take k)).map V.str)) (l:=l) (fun k z G hI=>hI.1.get (Nat.ne_of_lt (H8 ha)) (J5 ha)) (fun k z G v hv hI K hK=>?_) (fun z G hI=>?_) none (fun zz h=>h) ⟨.refl,E0⟩)))
 ·obtain ⟨i,hi1,hri⟩:=Cj6 hrl hv
  have hdk:=A3 (mJ hi1) hd
  have hgi:=hg.get hi1
  obtain ⟨e1,e2⟩:=Aw7 hi1
  obtain ⟨c,ts,sub⟩:=i
  obtain ⟨m',rfl⟩:=nJ hdk
  have hqG:q<=G.length:=A3 hqH (cT hI.1).len
  obtain ⟨a1,b1,rfl,hra,hrb⟩:=vP (hri.grow (cT hI.1) hqH)
  have et:tot 1 (M3 is)=tot 1 (M3 (is.take k))+((mk 45 c (rowTs ts)).length+1+tot 1 (M3 sub)+tot 1 (M3 (is.drop (k+1)))):=by
   rw [e2,aQ,aQ];rfl
  rw [et] at ht
  have h1:=X2 (M3 (is.take k))
  have h2:=X2 (M3 sub)
  have hM:=A3 (B4 _ _) (A3 (Nat.le_add_left _ _) ht)
  clear et e2
  refine Ch7 (by exact fun zz h=>h) (Bl2 (n:=n) hgi.1 (by exact fun zz h=>h) (by exact fun zz h=>h) hgi.2.1 hra (A3 (B8 _) (A3 (B4 _ _) hM))) hI.2 (by rw [B6];exact A3 (Nat.add_le_add h1 (A3 (Nat.le_add_left 1 _) (A3 (B4 _ _) (B4 _ _)))) ht) fun G1 u1 g1=>?_
  have hqG1:q<=G1.length:=A3 hqG u1.len
  refine yE (rs:=M3 sub) (by exact fun zz h=>h) (fun Q' q'=>M6 (I5 (v:=.ref b1) (by exact fun zz h=>h) (I1 (ih m' rfl sub b1 p q G1 Q' (Nat.le_of_succ_le_succ hdk) hgi.2.2 (hrb.to (u1.eqv hqH hqG)) hqG1 (A3 (Nat.le_add_left _ _) hM) q')))) g1 (by rw [A6,B6,Nat.add_assoc];exact A3 (Nat.add_le_add h1 (A3 (Nat.add_le_add (Nat.le_add_left 1 _) h2) (B4 _ _))) ht) fun G2 u2 g2=>hK _ _ ⟨(hI.1.trans u1).trans u2,?_⟩
  rw [e1,List.map_append]
  rw [A7] at g2
  exact g2
 ·have:=hrl.len
  rw [Z8] at this
  rw [this,List.take_length] at hI
  exact I6 (by exact fun zz h=>h) (hQ _ _ ⟨cT hI.1,A4 _,hI.2⟩)
theorem zS:∀ (m n:Nat),LU m (n+m+14)
 | 0,n=>pB fun m' q=>nomatch q
 | m+1,n=>pB (n:=n+m+1) fun m' q=>by cases q;exact zS m n
theorem Cn7 {C:Calls}{ρ:D7}{H:Heap}{e:E}{k:Nat}{Q:C2}(hk:k<=1000000) (he:∀ l,Ev C ρ (H++[l]) e (.int (k:Nat))) (h:∀ c G,OS H (List.replicate k []) c G->Q (.ref c) G):D9 C (.bin .mul (.list [.str []]) e) ρ Q H:=by
 refine rP (aJ (I5 N0 (I1 (he _ _ ?_))))
 show res (((H++[[V.str []]])[H.length]?).bind fun l=>if l.length * ((k:Nat):Int).toNat<=I8/\-4611686018427387904<((k:Nat):Int)/\((k:Nat):Int)<4611686018427387904 then some (.ref (H++[[V.str []]]).length,(H++[[V.str []]])++[(List.replicate ((k:Nat):Int).toNat l).flatten]) else none) Q
 rw [E0]
 show res (if 1 * k<=I8/\-4611686018427387904<((k:Nat):Int)/\((k:Nat):Int)<4611686018427387904 then some (.ref (H++[[V.str []]]).length,(H++[[V.str []]])++[(List.replicate k [V.str []]).flatten]) else none) Q
 rw [if_pos ⟨by rw [Nat.one_mul];exact A3 hk xV,Int.lt_of_lt_of_le (by decide) (Int.natCast_nonneg k),Int.lt_of_le_of_lt (Int.ofNat_le.mpr hk) (by decide)⟩,List.flatten_replicate_singleton]
 exact h _ _ ⟨bF,by rw [L7];exact B8 _,by rw [List.map_replicate];exact E0⟩
noncomputable def LRw (d n:Nat):Prop:=∀ (bs:List Bk) (a lo hi:Nat) (H:Heap) (Q:C2),GBs d bs->J0 H (.lst (L9 bs)) lo hi (.ref a)->hi<=H.length->tot 1 (rwBs bs)<=1000000->(∀ c G,OS H (rwBs bs) c G->Q (.ref c) G)->C1 P n "_law_rows" [.ref a] Q H
noncomputable def Cm2 (v:V):V:=match v with
 | .str r=>.str (62::32::r)
 | _=>.none
theorem Bd4 {n d a b lo hi:Nat}{bs:List Bk}{H:Heap}{Q:C2}{ρ:D7}{e:E}(ih:LRw d n) (he:Ev (C1 P n) ρ H e (.ref b)) (hv:∀ v,(ρ.set 3 (some v))[3]? = some (some v)) (hg:GBs d bs) (hr:J0 H (.lst (L9 bs)) lo hi (.ref b)) (hh:hi<=H.length) (ht:tot 1 ((rwBs bs).map fun r=>62::32::r)<=1000000) (h:∀ c G,OS H ((rwBs bs).map fun r=>62::32::r) c G->Q (.ref c) G):D9 (C1 P n) (.comp (.bin .add (.str [62,32]) (.var 3)) 3 (.call "_law_rows" [e]) []) ρ Q H:=by
 have h1:tot 1 (rwBs bs)<=tot 1 ((rwBs bs).map fun r=>62::32::r):=by
  rw [Bg9]
  exact zV (by decide) _
 have key:∀ c G,OS H (rwBs bs) c G->∃ m,T3 (Q7 (C1 P n) []) (D9 (C1 P n) (.bin .add (.str [62,32]) (.var 3))) 3 ρ (.lst c) m 0 [] (fun vs H₂=>Q (.ref H₂.length) (H₂++[vs])) G:=fun c G o=>by
  refine zQ ((rwBs bs).map V.str) Cm2 (Bl7 o.get) (by rw [B6];exact A3 (X2 _) (A3 h1 (A3 ht xV))) (fun v hm K hK=>?_) ?_
  ·obtain ⟨r,hr',rfl⟩:=List.mem_map.mp hm
   exact R3 (a:=[62,32]) (b:=r) N0 (fH (hv _)) (A3 (fY (62::32::r) (List.mem_map.mpr ⟨r,hr',rfl⟩)) ht) K hK
  ·refine h _ _ ⟨o.gr.trans .one,o.gr.len,?_⟩
   rw [List.map_map,List.map_map];exact E0
 exact M6 (Q:=fun v H₁=>match iterV v with | some it=>∃ n',T3 (Q7 (C1 P n) []) (D9 (C1 P n) (.bin .add (.str [62,32]) (.var 3))) 3 ρ it n' 0 [] (fun vs H₂=>Q (.ref H₂.length) (H₂++[vs])) H₁ | none=>False) (I5 he (I1 (ih bs b lo hi H _ hg hr hh (A3 h1 ht) key)))
theorem Bs7 {n b lo hi:Nat}{rs:List (List T)}{H:Heap}{Q:C2}{ρ:D7}{e:E}(he:Ev (C1 P (n+13)) ρ H e (.ref b)) (hv:∀ v,(ρ.set 4 (some v))[4]? = some (some v)) (hg:∀ ts∈rs,X8 0 ts) (hr:J0 H (.lst (xK rs)) lo hi (.ref b)) (ht:tot 1 (rs.map rowTs)<=1000000) (h:∀ c G,OS H (rs.map rowTs) c G->Q (.ref c) G):D9 (C1 P (n+13)) (.comp (.call "_law_row" [.var 4]) 4 e []) ρ Q H:=by
 obtain ⟨b',l,p,q,e',hb,ha,hrl⟩:=hr
 cases e'
 have hlen:=hrl.len
 rw [mD] at hlen
 have hl1:=X2 (rs.map rowTs)
 rw [B6] at hl1
 refine Aj9 he (by rw [hlen];exact A3 hl1 (A3 ht xV)) (fun i acc G=>G=H/\acc=((rs.take i).map rowTs).map V.str) (fun i acc G hI=>hI.1▸ha) (fun i acc G v hv' zz hI K hK=>?_) ⟨rfl,rfl⟩ Q fun acc G zz hI=>?_
 ·obtain ⟨rfl,rfl⟩:=hI
  obtain ⟨ts,c,hts,rfl,hrc⟩:=Cj5 hrl hv'
  have hm:=B9 hts
  refine D3 (C9 (fH (hv _)) K5) (fun Q q=>mE 12 0 n rfl ts c p _ G Q (hg ts hm) hrc (A3 (fY (rowTs ts) (List.mem_map.mpr ⟨ts,hm,rfl⟩)) ht) q) K (hK _ _ ⟨rfl,?_⟩)
  rw [Bk2 hts,List.map_append];rfl
 ·obtain ⟨rfl,rfl⟩:=hI
  rw [hlen,List.take_length]
  exact h _ _ ⟨.one,A4 _,E0⟩
theorem pI {d n:Nat}(ih:∀ d',d=d'+1->LRw d' (n+23)):LRw d (n+24):=by
 intro bs a lo hi H Q hg hr hh ht hQ
 obtain ⟨a',l,p,q,e,hb,ha,hrl⟩:=hr
 cases e
 have hqH:q<=H.length:=A3 hb.qh hh
 refine Af4 (J9 (H1:=H++[[]]) (v:=.ref H.length) (fun zz h=>h) (I3 (V2 (σ:=Option V) (fun z=>[some (.ref a),some (.ref H.length),z,none,none]) (fun k z G=>Up H.length (H++[[]]) G/\G[H.length]? = some ((rwBs (bs.take k)).map V.str)) (l:=l) (fun k z G hI=>hI.1.get (Nat.ne_of_lt (H8 ha)) (J5 ha)) (fun k z G v hv hI K hK=>?_) (fun z G hI=>?_) none (fun zz h=>h) ⟨.refl,E0⟩)))
 ·obtain ⟨b,hb1,hrb⟩:=Cj7 hrl hv
  have hgb:=hg.get hb1
  obtain ⟨e1,e2⟩:=Aw8 hb1
  have hqG:q<=G.length:=A3 hqH (cT hI.1).len
  replace hrb:=hrb.grow (cT hI.1) hqH
  rw [e2,aQ,aQ] at ht
  have htb:tot 1 (rwB b)<=1000000:=A3 (B4 _ _) (A3 (Nat.le_add_left _ _) ht)
  have hlb:((rwBs (bs.take k)).map V.str).length+(rwB b).length<=1000000:=by
   rw [B6]
   exact A3 (Nat.add_le_add (X2 _) (A3 (X2 _) (B4 _ _))) ht
  have fin:∀ {G'},Up H.length G G'->G'[H.length]? = some ((rwBs (bs.take k)).map V.str++(rwB b).map V.str)->K [some (.ref a),some (.ref H.length),some v,none,none] G':=fun u g=>hK (some v) _ ⟨hI.1.trans u,by rw [e1,List.map_append];exact g⟩
  clear e1 e2 ht hK
  have hm:=hI.2
  cases b with
  | gap k' =>
   rw [Ak3 hrb] at fin ⊢
   have hlk:=hlb
   rw [show (rwB (.gap k')).length=k' from List.length_replicate] at hlk
   exact D5 (fun zz h=>h) (yE (rs:=rwB (.gap k')) (by exact fun zz h=>h) (fun Q' q'=>Cn7 (A3 (Nat.le_add_left _ _) hlk) (fun l=>by exact fun zz h=>h) q') hm hlb fun G' u g=>fin u g)
  | head k' ts =>
   obtain ⟨c,rfl,hrc⟩:=vQ hrb
   exact D4 (fun zz h=>h) (D5 (fun zz h=>h) (Ch7 (w:=mk 35 k' (rowTs ts)) (by exact fun zz h=>h) (Bl2 (n:=n+10) hgb.1 (by exact fun zz h=>h) (by exact fun zz h=>h) hgb.2 hrc (A3 (fY _ (.head _)) htb)) hm hlb fun G' u g=>fin u g))
  | list is =>
   obtain ⟨c,rfl,hrc⟩:=aK hrb
   exact D4 (fun zz h=>h) (D4 (fun zz h=>h) (D5 (fun zz h=>h) (yE (rs:=M3 is) (by exact fun zz h=>h) (fun Q' q'=>M6 (I5 (v:=.ref c) (by exact fun zz h=>h) (I1 (zS 9 n is c p q G Q' hgb.2 hgb.1 hrc hqG htb q')))) hm hlb fun G' u g=>fin u g)))
  | quote bs' =>
   obtain ⟨c,rfl,hrc⟩:=aK hrb
   obtain ⟨d',rfl,hgb⟩:=hgb
   exact D4 (fun zz h=>h) (D4 (fun zz h=>h) (D4 (fun zz h=>h) (D5 (fun zz h=>h) (yE (rs:=rwB (.quote bs')) (by exact fun zz h=>h) (fun Q' q'=>Bd4 (a:=0) (ih d' rfl) (by exact fun zz h=>h) (fun zz=>rfl) hgb hrc hqG htb q') hm hlb fun G' u g=>fin u g))))
  | para rs =>
   obtain ⟨c,rfl,hrc⟩:=aK hrb
   exact D4 (fun zz h=>h) (D4 (fun zz h=>h) (D4 (fun zz h=>h) (D4 (fun zz h=>h) (yE (rs:=rs.map rowTs) (by exact fun zz h=>h) (fun Q' q'=>Bs7 (n:=n+10) (by exact fun zz h=>h) (fun zz=>rfl) hgb hrc htb q') hm hlb fun G' u g=>fin u g))))
 ·have:=hrl.len
  rw [aA] at this
  rw [this,List.take_length] at hI
  exact I6 (by exact fun zz h=>h) (hQ _ _ ⟨cT hI.1,A4 _,hI.2⟩)
theorem Aa6:∀ (d n:Nat),LRw d (n+d+24)
 | 0,n=>pI fun d' q=>nomatch q
 | d+1,n=>pI (n:=n+d+1) fun d' q=>by cases q;exact Aa6 d n
theorem Aw6:∀ rs:List (List Nat),(rs.map List.length).sum+rs.length * 1=tot 1 rs
 | []=>rfl
 | r::rs=>by
  show r.length+(rs.map List.length).sum+(rs.length+1) * 1=r.length+1+tot 1 rs
  rw [<- Aw6 rs];lia
theorem Cf0 {C:Calls}{ρ:D7}{H:Heap}{Φ:Heap->Prop}{e:E}{c:xJ}{v:V}(h:T9 C ρ H e v Φ):T9 C ρ H (.isnot e c) (.bool (!isV v c)) Φ:=fun Q k=>Cc1 (h _ fun G g=>k G g)
theorem Cm8 (ns:List Int) (hns:ns.length<=63):C1 P 100 "law" [.frz ns] (fun v zz=>v=.bool true) []:=by
 refine Cn2 (n:=99) (bZ (vs:=[.frz ns]) (by exact fun zz h=>h) (vR (n:=83) hns fun G1 t1=>?_))
 have hD:=Cc8 t1.bo t1.ne t1.sz
 have hrow:=fun r hr=>A3 (fY r hr) (A3 hD.tot (by decide:900000<=1000000))
 have hcnt:=A3 (X2 _) (A3 hD.tot (by decide:900000<=1000000))
 refine P2 (Ak1 (As8 ⟨_,rfl,M6 (P0 (vs:=[.frz ns]) (by exact fun zz h=>h) (vR (n:=83) hns fun G2 t2=>I1 (Aa6 9 66 (treeF ns) _ _ _ G2 _ (mG rfl t2.bo) t2.rep (A4 _) (A3 hD.tot (by decide)) fun c G3 o3=>Ch0 _ o3.get (A3 (Nat.le_of_eq (Aw6 _)) (A3 hD.tot (by decide))) ?_)))⟩) (T6 _ _))
 have hfit:=t1.fit
 have hbo:=t1.bo
 have hne:=t1.ne
 have g13:E6 G1 G3:=t2.gr.trans o3.gr
 have r1:J0 G3 (.lst (L9 (treeF ns))) 0 G1.length (.ref 0):=t1.rep.grow g13 (A4 _)
 have hh:G1.length<=G3.length:=g13.len
 clear t1 t2 o3 g13
 have htr:∀ {H:Heap}{Q:C2},(∀ G,E6 H G->J0 G (.lst (L9 (treeF ns))) H.length G.length (.ref H.length)->Q (.ref H.length) G)->C1 P 99 "_law_tree" [.frz ns] Q H:=fun h=>vR (n:=83) hns fun G t=>h G t.gr t.rep
 have hjl:=hD.len
 have hrd:∀ {Q:C2}{H:Heap},BQ H (.lst (L9 (treeF ns))) Q->C1 P 99 "read" [.str (joinWith [10] (rwBs (treeF ns)))] Q H:=fun h=>Cd1 (n:=74) hD.sg hD.len (by rw [hD.back];exact h)
 clear hD
 generalize treeF ns=bs at *
 refine Q4 (Φ:=E6 G3) (Cf0 (v:=.bool true) (X5 (vs:=[.ref 0]) (by exact fun zz h=>h) fun Q k=>sQ (n:=38) hne hbo hfit r1 hh Q k)) fun G4 g4=>?_
 refine bZ (vs:=[.ref 0]) (by exact fun zz h=>h) (Br3 (n:=35) hne hbo hfit (r1.grow g4 hh) (A3 hh g4.len) hcnt hrow (A3 hjl (by decide)) fun G5 g5=>?_)
 have r5:=r1.grow (g4.trans g5) hh
 have hh5:=A3 hh (g4.trans g5).len
 generalize joinWith [10] (rwBs bs)=t at hrd
 refine C3 (R1 (b:=false) (b2:=false) (by exact fun zz h=>h) fun zz=>Y3 (J6 (C7 (by exact fun zz h=>h) (by exact fun zz h=>h) mQ) (by rw [beq_self_eq_true];rfl))) ?_
 refine U1 ?_
 have q1:T9 (C1 P 99) [some (.frz ns),some (.ref 0),some (.str t),some (.str t)] G5 (.call "_law_alike" [.call "read" [.var 2],.call "_law_tree" [.var 0]]) (.bool true) (fun G=>E6 G5 G):=fun Q k=>by
  refine M6 (P0 (vs:=[.str t]) (by exact fun zz h=>h) (hrd fun v6 G6 g6 r6=>P0 (vs:=[.frz ns]) (by exact fun zz h=>h) (htr fun G7 g7 r7=>I1 ?_)))
  exact Az0 (k:=33) (by decide) 65 _ _ _ _ _ _ _ hfit (r6.grow g7 (A4 _)) r7 _ (k _ (g6.trans g7))
 have q2:∀ G6,E6 G5 G6->T9 (C1 P 99) [some (.frz ns),some (.ref 0),some (.str t),some (.str t)] G6 (.call "_law_alike" [.var 1,.call "_law_tree" [.var 0]]) (.bool true) (fun zz=>True):=fun G6 g6 Q k=>by
  refine M6 (I5 (v:=.ref 0) (by exact fun zz h=>h) (P0 (vs:=[.frz ns]) (by exact fun zz h=>h) (htr fun G7 g7 r7=>I1 ?_)))
  exact Az0 (k:=33) (by decide) 65 _ _ _ _ _ _ _ hfit (r5.grow (g6.trans g7) hh5) r7 _ (k _ trivial)
 exact V7 q1 (fun G g=>bR (q2 G g)) _ fun G zz=>rfl
end L13
open PySem PySem.W PyProof.Rows
namespace L13
end L13
set_option maxHeartbeats 8000000 in
theorem PySem.Challenge.cw_uf010012_13_holds : PySem.Challenge.rw_uf010012_13.Holds := by
 refine holds_law L13.said fun said=>?_
 refine holds_open (q:=L13.vw) (loose:=[]) (Xt:=fun s=>xlAt L13.vw [] s&&recOk [] s) (XP:=XL L13.vw []) (Yf:=Hook.obs Hook.none) (Ya:=Hook.val Hook.none) (YP:=Hook.says Hook.none) (N:=3000) L13.left (Hook.of Hook.none) (Hook.keeps Hook.none) (fun s e=>xl_of s (Bool.and_eq_true_iff.mp e).1) XL.keeps (by rfl) (by rfl) (by rfl) (fun s e=>recFacts_of (Bool.and_eq_true_iff.mp e).2) (by rfl) said (by decide +kernel) ⟨rfl,rfl,rfl,rfl,rfl,by decide +kernel⟩ ?hw ?hc
 case hw=>w_witness2
 intro w s₀ s₁ mg mb G Y fa o pm cd doc dV kV ho hd hcd hD hmg hg args vals as hpre hlay hrd hwl hlo
 exact MiniS.Bo8 (l:=PySem.Challenge.rw_uf010012_13) rfl G.T hg hmg hpre hrd L13.gl L13.prg 100 (by decide) (by decide +kernel) rfl (fun zz=>⟨_,rfl,rfl⟩) (fun ns h=>L13.Cm8 ns h)
