import PyProof.Rows.All
import KE.KItem
import Open.Line
import PySem.Challenge.RW_uf010012_11
set_option tactic.hygienic false
set_option Elab.async false
set_option maxRecDepth 100000
set_option linter.all false
open Eq renaming substr->qz
set_option genSizeOf false
set_option genInjectivity false
universe u v
theorem A3 {α:Type u}{l:List α}{i:Nat}{a:α}(e:l[i]? = some a):∃ h:i<l.length,l[i]=a:=List.getElem?_eq_some_iff.mp e
theorem A4 {n m:Nat}(p:n=m):n≤m:=Nat.le_of_eq p
theorem A6 {n m:Nat}(h:n≤m) (k:Nat):k+n≤k+m:=Nat.add_le_add_left h k
theorem A7 (n m:Nat):n≤m+n:=Nat.le_add_left n m
theorem A8 {α:Type u}{l:List α}{i:Nat}(h:i<l.length):l[i]? = some l[i]:=List.getElem?_eq_getElem h
theorem A9 {α:Type u}{l:List α}{i j:Nat}(h:i≠j) {a:α}:(l.set i a)[j]? = l[j]?:=List.getElem?_set_ne h
theorem B0 {α:Type u}{a b:α}{l:List α}(h:a∈b::l):a=b∨a∈l:=List.mem_cons.mp h
theorem B1 {α:Type u}{a b:α}(h:a∈[b]):a=b:=List.mem_singleton.mp h
theorem B3 {a b c d:Nat}(h:a≤b) (k:c≤d):a+c≤b+d:=Nat.add_le_add h k
theorem B4 {C:Prop}(h:False):C:=h.elim
theorem B5 (n m k:Nat):n+m+k=n+k+m:=Nat.add_right_comm n m k
theorem B6 {x y:Bool}(h:(x&&y)=true):x=true∧y=true:=Bool.and_eq_true_iff.mp h
theorem B8 {p:Prop}(h:¬p → False):p:=Classical.byContradiction h
theorem B9 {α:Type u}{l:List α}{i:Nat}(h:i<l.length) {a:α}:(l.set i a)[i]? = some a:=List.getElem?_set_self h
theorem C0 {α:Type u}{a:α}{s t:List α}(h:a∈s++t):a∈s∨a∈t:=List.mem_append.mp h
theorem C1 {α:Type u}{β:Type v}{f:α → β}{x:Option α}{b:β}(h:x.map f=some b):∃ a,x=some a∧f a=b:=Option.map_eq_some_iff.mp h
theorem C2 (n m k:Nat):n+m+k=n+(m+k):=Nat.add_assoc n m k
theorem C3 {α:Type u}{β:Type v}{f:α → β}{l l2:List α}:(l++l2).map f=l.map f++l2.map f:=List.map_append
theorem C4 {n m:Nat}(h:n≤m) (k:Nat):n+k≤m+k:=Nat.add_le_add_right h k
theorem C5 {α:Type u}(y:α) {a:α}{l:List α}(h:a∈l):a∈y::l:=List.mem_cons_of_mem y h
theorem C6 (n:Nat):0≤(n:Int):=Int.natCast_nonneg n
theorem C7 {α:Type u}{as:List α}{i:Nat}{a:α}:(as.set i a).length=as.length:=List.length_set
theorem C8 {n m:Nat}(h:n≤m):n≤m+1:=Nat.le_succ_of_le h
theorem C9 {n k:Nat}(h:0<k):n<n+k:=Nat.lt_add_of_pos_right h
theorem D0 {α:Sort u}{β:Sort v}{a b:α}(f:α → β) (h:a=b):f a=f b:=congrArg f h
theorem D1 {a b:Nat}(h:a<b):a≠b:=Nat.ne_of_lt h
theorem D2 {n m k:Nat}(h:n≤m) (g:m≤k):n≤k:=Nat.le_trans h g
theorem D3 (a:Nat):a≤a:=Nat.le_refl a
theorem D4 {α:Type u}{as bs:List α}:(as++bs).length=as.length+bs.length:=List.length_append
theorem D5 {α:Type u}(as bs cs:List α):as++bs++cs=as++(bs++cs):=List.append_assoc as bs cs
theorem D6 {a b c:Nat}(h:a<b) (k:b≤c):a<c:=Nat.lt_of_lt_of_le h k
theorem D7 {a b c:Nat}(h:a≤b) (k:b<c):a<c:=Nat.lt_of_le_of_lt h k
theorem D8 (a:Nat):0≤a:=Nat.zero_le a
theorem D9 (a:Nat):a<a+1:=Nat.lt_succ_self a
theorem E0 {a b:Nat}(h:a≤b):a+1≤b+1:=Nat.succ_le_succ h
theorem E1 (a b:Nat):a≤a+b:=Nat.le_add_right a b
theorem E2 {a b:Nat}(h:a<b):a≤b:=Nat.le_of_lt h
theorem E3 {α:Type u}{β:Type v}{l:List α}(f:α → β):(l.map f).length=l.length:=List.length_map f
theorem E4 (a:Nat):a≤a+1:=Nat.le_succ a
theorem E5 {α:Type u}{l:List α}{i:Nat}{a:α}(e:l[i]? = some a):a∈l:=List.mem_of_getElem? e
theorem E6 {α:Type u}{β:Type v}{f:α → β}{l:List α}{i:Nat}:(l.map f)[i]? = (l[i]?).map f:=List.getElem?_map
namespace Aa
theorem xF {P:Prop}(h:false=true):P:=by cases h
theorem xB {P:Prop}(h:true=false):P:=by cases h
theorem xN {α:Type}{x:α}{P:Prop}(h:none=some x):P:=by cases h
theorem xL {α:Type}{x:α}{P:Prop}(h:x∈[]):P:=by cases h
theorem xZ {n:Nat}{P:Prop}(h:0=n+1):P:=by cases h
theorem xE {α:Type}{x:α}{l:List α}{P:Prop}(h:[]=x::l):P:=by cases h
theorem S5 {A B L R:Nat}(h:A<=B) (e:L+B<=R+A:=by simp +arith only):L<=R:=Nat.le_of_add_le_add_right (D2 e (A6 h R))
theorem U1 {a b c d:Nat}(h:a<=b) (k:c<=d):a+c<=b+d:=B3 h k
inductive V where
 | none
 | bool (b:Bool)
 | int (i:Int)
 | str (s:List Nat)
 | ref (a:Nat)
 | tup (vs:List V)
 | Bv (ns:List Int)
abbrev Heap:=List (List V)
abbrev M6:=List (Option V)
noncomputable def P0:Nat:=16777216
inductive Op where
 | add | sub | mul | fdiv | mod | pow
inductive Cmp where
 | eq | ne | lt | le | gt | ge | isin | notin
inductive Cst where
 | none | tt | ff
inductive Ty where
 | str | int | bool | list | tuple
inductive E where
 | none
 | bool (b:Bool)
 | int (i:Int)
 | str (s:List Nat)
 | var (x:Nat)
 | glob (g:String) (i:Int)
 | bin (o:Op) (l r:E)
 | neg (i:Int)
 | cmp (o:Cmp) (l r:E)
 | Dk (o6 o0:Cmp) (a b c:E)
 | is (e:E) (c:Cst)
 | Az (e:E) (c:Cst)
 | and (es:List E)
 | or (es:List E)
 | not (e:E)
 | idx (o i:E)
 | slc (o l h:E)
 | Aw (o l:E)
 | Cp (o h:E)
 | call (f:String) (es:List E)
 | Ae (e:E) (t:Ty)
 | len (e:E)
 | toInt (e:E)
 | ord (e:E)
 | listOf (e:E)
 | append (o e:E)
 | extend (o e:E)
 | pop (o:E)
 | find (o a b:E)
 | replace (o a b:E)
 | join (o a:E)
 | split (o a:E)
 | lstrip (o a:E)
 | list (es:List E)
 | tup (es:List E)
 | comp (i6:E) (x:Nat) (src:E)
set_option genCtorIdx false in
inductive S where
 | assign (x:Nat) (e:E)
 | Bs (o i e:E)
 | expr (e:E)
 | ite (c:E) (t f:List S)
 | Dq (c:E) (b:List S)
 | forIn (x:Nat) (e:E) (b:List S)
 | Dc (x:Nat) (e:E) (b:List S)
 | Bf (x y:Nat) (e:E) (b:List S)
 | ret (e:E)
 | Bm
 | raise (c:String) (m:List Nat)
structure Fn where
 names:List String
 params:Nat
 lits:List Nat:=[]
 bump:Bool:=false
 body:List S
abbrev Prg:=String->Option Fn
noncomputable def R2 (i:Int) (n:Nat):Option Nat :=
 if 0<=i then (if i<n then some i.toNat else none)
 else if -(n:Int)<=i then some (i+n).toNat else none
noncomputable def nU (i:Int) (n:Nat):Nat :=
 if i<0 then (i+n).toNat else min i.toNat n
noncomputable def Ad4 (lo:Option Int) (n:Nat):Nat:=match lo with
 | some i=>nU i n
 | none=>0
noncomputable def wI (hi:Option Int) (n:Nat):Nat:=match hi with
 | some i=>nU i n
 | none=>n
noncomputable def slice {α:Type}(l:List α) (lo hi:Option Int):List α:=(l.take (wI hi l.length)).drop (Ad4 lo l.length)
noncomputable def idx? (c:Nat):List Nat->Option Nat
 | []=>none
 | x::l=>if x=c then some 0 else (idx? c l).map (· + 1)
noncomputable def rS (s:List Nat) (c:Nat) (i:Nat):Int:=match idx? c (s.drop i) with
 | some k=>((i+k:Nat):Int)
 | none=>-1
noncomputable def Y5 (s:List Nat) (a b:Nat):List Nat:=s.map λc=>if c=a then b else c
noncomputable def splitAt (c:Nat):List Nat->List (List Nat)
 | []=>[[]]
 | x::l=>if x=c then []::splitAt c l else match splitAt c l with
  | []=>[[x]]
  | w::r=>(x::w)::r
noncomputable def Ad (sep:List Nat):List (List Nat)->List Nat
 | []=>[]
 | [w]=>w
 | w::r=>w++sep++Ad sep r
noncomputable def Ad0:List V->Option (List (List Nat))
 | []=>some []
 | .str s::r=>(Ad0 r).map (s::·)
 | _::_=>Option.none
noncomputable def Er:List V->Option (List Int)
 | []=>some []
 | .int s::r=>(Er r).map (s::·)
 | _::_=>Option.none
set_option genCtorIdx false in
inductive D where
 | none
 | bool (b:Bool)
 | int (i:Int)
 | str (s:List Nat)
 | list (l:List D)
 | tup (l:List D)
noncomputable def vY (f:V->Option D):List V->Option (List D)
 | []=>some []
 | v::l=>match f v with
  | some d=>(vY f l).map (d::·)
  | Option.none=>Option.none
noncomputable def rd (H:Heap):Nat->V->Option D
 | 0,_=>Option.none
 | n+1,v=>match v with
  | .none=>some .none
  | .bool b=>some (.bool b)
  | .int i=>some (.int i)
  | .str s=>if s.all (λc=>decide (c<1114112)) then some (.str s) else Option.none
  | .tup l=>(vY (rd H n) l).map .tup
  | .ref a=>match H[a]? with
   | some l=>(vY (rd H n) l).map .list
   | Option.none=>Option.none
  | .Bv _=>Option.none
mutual
noncomputable def vZ:D->D->Bool
 | .none,e=>match e with | .none=>true | _=>false
 | .bool a,e=>match e with | .bool b=>a==b | .int j=>(if a then 1 else 0)==j | _=>false
 | .int i,e=>match e with | .int j=>i==j | .bool b=>i==(if b then 1 else 0) | _=>false
 | .str a,e=>match e with | .str b=>a==b | _=>false
 | .list a,e=>match e with | .list b=>Au8 a b | _=>false
 | .tup a,e=>match e with | .tup b=>Au8 a b | _=>false
noncomputable def Au8:List D->List D->Bool
 | [],e=>match e with | []=>true | _=>false
 | x::l,e=>match e with | y::r=>vZ x y&&Au8 l r | _=>false
end
noncomputable def S2:Nat:=100
abbrev Res:=Option (V×Heap)
section
variable {α:Type}
noncomputable def T4 (v:V) (f:Int->Option α):Option α:=match v with
 | .int i=>f i
 | _=>Option.none
noncomputable def An0 (v:V) (f:List Nat->Option α):Option α:=match v with
 | .str i=>f i
 | _=>Option.none
noncomputable def wP (v:V) (f:Nat->Option α):Option α:=match v with
 | .ref i=>f i
 | _=>Option.none
noncomputable def Bf9 (v:V) (f:Bool->Option α):Option α:=match v with
 | .bool i=>f i
 | _=>Option.none
noncomputable def Cg8 (s:List Nat) (f:Nat->Option α):Option α:=match s with
 | [c]=>f c
 | _=>Option.none
theorem O6 {v:V}{f:Int->Option α}{r:α}(h:T4 v f=some r):∃ i,v=.int i/\f i=some r:=by
 cases v with
 | int i=>exact ⟨i,rfl,h⟩
 | _=>exact nomatch (show Option.none=some r from h)
theorem oY {v:V}{f:List Nat->Option α}{r:α}(h:An0 v f=some r):∃ i,v=.str i/\f i=some r:=by
 cases v with
 | str i=>exact ⟨i,rfl,h⟩
 | _=>exact nomatch (show Option.none=some r from h)
theorem jN {v:V}{f:Nat->Option α}{r:α}(h:wP v f=some r):∃ i,v=.ref i/\f i=some r:=by
 cases v with
 | ref i=>exact ⟨i,rfl,h⟩
 | _=>exact nomatch (show Option.none=some r from h)
theorem Ay4 {v:V}{f:Bool->Option α}{r:α}(h:Bf9 v f=some r):∃ i,v=.bool i/\f i=some r:=by
 cases v with
 | bool i=>exact ⟨i,rfl,h⟩
 | _=>exact nomatch (show Option.none=some r from h)
theorem Bn0 {s:List Nat}{f:Nat->Option α}{r:α}(h:Cg8 s f=some r):∃ c,s=[c]/\f c=some r:=by
 match s,h with
 | [c],h=>exact ⟨c,rfl,h⟩
 | [],h=>exact nomatch (show Option.none=some r from h)
 | _::_::_,h=>exact nomatch (show Option.none=some r from h)
theorem bD {c:Prop} [Decidable c] {x r:α}(h:(if c then some x else Option.none)=some r):c/\x=r:=by
 by_cases hc:c
 ·rw [if_pos hc] at h;cases h;exact ⟨hc,rfl⟩
 ·rw [if_neg hc] at h;cases h
end
noncomputable def wH (v:V) (f:Nat->Prop):Prop:=match v with
 | .str [c]=>f c
 | _=>False
noncomputable def Ct5 (v:V) (f:Int->Prop):Prop:=match v with
 | .int c=>f c
 | _=>False
theorem fU {v:V}{f:Nat->Prop}(h:wH v f):∃ c,v=.str [c]/\f c:=by
 cases v with
 | str s =>
  match s,h with
  | [c],h=>exact ⟨c,rfl,h⟩
  | [],h=>exact B4 h
  | _::_::_,h=>exact B4 h
 | _=>exact B4 h
theorem Cv4 {v:V}{f:Nat->Prop}(h:match v with | .str [c]=>f c | _=>False):wH v f:=h
theorem Bz9 {v:V}{f:Int->Prop}(h:Ct5 v f):∃ c,v=.int c/\f c:=by
 cases v with
 | int i=>exact ⟨i,rfl,h⟩
 | _=>exact B4 h
noncomputable def Ct7 (a b:V) (H:Heap):Res:=match a with
 | .int a=>T4 b λb=>some (.int (a+b),H)
 | .str a=>An0 b λb=>if a.length+b.length<=P0 then some (.str (a++b),H) else Option.none
 | .ref a=>wP b λb=>(H[a]?).bind λl=>(H[b]?).bind λr=>if l.length+r.length<=P0 then some (.ref H.length,H++[l++r]) else Option.none
 | _=>Option.none
noncomputable def Ct6 (a b:V) (H:Heap):Res:=match a with
 | .int a=>T4 b λb=>if a.natAbs<1152921504606846976∨b.natAbs<1152921504606846976 then some (.int (a * b),H) else Option.none
 | .str a=>T4 b λn=>if a.length * n.toNat<=P0/\-4611686018427387904<n/\n<4611686018427387904 then some (.str (List.replicate n.toNat a).flatten,H) else Option.none
 | .ref a=>T4 b λn=>(H[a]?).bind λl=>if l.length * n.toNat<=P0/\-4611686018427387904<n/\n<4611686018427387904 then some (.ref H.length,H++[(List.replicate n.toNat l).flatten]) else Option.none
 | _=>Option.none
noncomputable def eR (o:Op) (a b:V) (H:Heap):Res :=
 match o with
 | .add=>Ct7 a b H
 | .sub=>T4 a λa=>T4 b λb=>some (.int (a - b),H)
 | .mul=>Ct6 a b H
 | .fdiv=>T4 a λa=>T4 b λb=>if 0<b/\b<1073741824 then some (.int (a / b),H) else Option.none
 | .mod=>T4 a λa=>T4 b λb=>if 0<b then some (.int (a % b),H) else Option.none
 | .pow=>T4 a λa=>T4 b λb=>if a=10/\b=9 then some (.int 1000000000,H) else Option.none
noncomputable def tM (a b:V):Option Bool:=match a with
 | .int a=>T4 b λb=>some (a==b)
 | .bool a=>Bf9 b λb=>some (a==b)
 | .str a=>An0 b λb=>some (a==b)
 | _=>Option.none
noncomputable def tN (a b:V) (H:Heap):Option Bool:=(rd H S2 a).bind λx=>(rd H S2 b).bind λy=>some (vZ x y)
noncomputable def eqV (a b:V) (H:Heap):Option Bool:=match tM a b with
 | some t=>some t
 | Option.none=>tN a b H
noncomputable def Fq (a t:V) (H:Heap):Option Bool :=
 match rd H S2 a,rd H S2 t with
 | some x,some (.tup l)=>some (l.any λy=>vZ y x)
 | _,_=>Option.none
noncomputable def inV (a b:V) (H:Heap):Option Bool:=match b with
 | .str b=>An0 a λs=>Cg8 s λc=>some (b.contains c)
 | .tup l=>Fq a (.tup l) H
 | _=>Option.none
noncomputable def W5 (o:Cmp) (a b:V) (H:Heap):Option Bool :=
 match o with
 | .eq=>eqV a b H
 | .ne=>(eqV a b H).map (!·)
 | .lt=>T4 a λa=>T4 b λb=>some (decide (a<b))
 | .le=>T4 a λa=>T4 b λb=>some (decide (a<=b))
 | .gt=>T4 a λa=>T4 b λb=>some (decide (b<a))
 | .ge=>T4 a λa=>T4 b λb=>some (decide (b<=a))
 | .isin=>inV a b H
 | .notin=>(inV a b H).map (!·)
noncomputable def isV (a:V) (c:Cst):Bool :=
 match a,c with
 | .none,.none=>true
 | .bool true,.tt=>true
 | .bool false,.ff=>true
 | _,_=>false
noncomputable def dU (a:V) (t:Ty):Bool :=
 match a,t with
 | .str _,.str=>true
 | .int _,.int=>true
 | .bool _,.int=>true
 | .bool _,.bool=>true
 | .ref _,.list=>true
 | .Bv _,.list=>true
 | .tup _,.tuple=>true
 | _,_=>false
noncomputable def qX (a:V) (H:Heap):Option Int :=
 match a with
 | .str s=>some (s.length:Int)
 | .tup l=>some (l.length:Int)
 | .Bv l=>some (l.length:Int)
 | .ref a=>(H[a]?).map λl=>(l.length:Int)
 | _=>Option.none
noncomputable def cL (o i:V) (H:Heap):Option V:=T4 i λi=>match o with
 | .str s=>(R2 i s.length).bind λk=>(s[k]?).map λc=>.str [c]
 | .tup l=>(R2 i l.length).bind λk=>l[k]?
 | .Bv l=>(R2 i l.length).bind λk=>(l[k]?).map .int
 | .ref a=>(H[a]?).bind λl=>(R2 i l.length).bind λk=>l[k]?
 | _=>Option.none
noncomputable def cK (o:V) (lo hi:Option Int) (H:Heap):Res :=
 match o with
 | .str s=>some (.str (slice s lo hi),H)
 | .Bv l=>some (.ref H.length,H++[(slice l lo hi).map .int])
 | .ref a=>(H[a]?).map λl=>(.ref H.length,H++[slice l lo hi])
 | _=>Option.none
noncomputable def Ck6 (o i v:V) (H:Heap):Option Heap:=wP o λa=>T4 i λi =>
 (H[a]?).bind λl=>(R2 i l.length).map λk=>H.set a (l.set k v)
noncomputable def W2 (o v:V) (H:Heap):Option Heap :=
 match o with
 | .ref a=>(H[a]?).bind λl=>if l.length<P0 then some (H.set a (l++[v])) else Option.none
 | _=>Option.none
noncomputable def uP (o v:V) (H:Heap):Option Heap:=wP o λa=>wP v λb =>
 (H[a]?).bind λl=>(H[b]?).bind λr=>if a≠b/\l.length+r.length<=P0 then some (H.set a (l++r)) else Option.none
noncomputable def Ad2 (o:V) (H:Heap):Res :=
 match o with
 | .ref a=>(H[a]?).bind λl=>(l.getLast?).map λv=>(v,H.set a l.dropLast)
 | _=>Option.none
set_option genCtorIdx false in
inductive It where
 | lst (a:Nat)
 | fix (vs:List V)
noncomputable def It.at (it:It) (H:Heap) (i:Nat):Option V :=
 match it with
 | .lst a=>match H[a]? with
  | some l=>l[i]?
  | Option.none=>Option.none
 | .fix vs=>vs[i]?
noncomputable def cP (v:V):Option It :=
 match v with
 | .ref a=>some (.lst a)
 | .Bv l=>some (.fix (l.map .int))
 | .str s=>some (.fix (s.map λc=>.str [c]))
 | _=>Option.none
noncomputable def cF (v:V):Option It :=
 match v with
 | .int n=>@ite _ (-4611686018427387904<=n/\n<4611686018427387904) (Classical.propDecidable _) (some (.fix ((List.range n.toNat).map λk:Nat=>V.int (k:Int)))) Option.none
 | _=>Option.none
abbrev F8:=V->Heap->Prop
abbrev Calls:=String->List V->F8->Heap->Prop
noncomputable def res (r:Res) (Q:F8):Prop:=match r with
 | some (v,H)=>Q v H
 | Option.none=>False
theorem Cn9 {r:Res}{Q:F8}(h:res r Q):∃ v H,r=some (v,H)/\Q v H:=by
 cases r with
 | some p=>exact ⟨p.1,p.2,rfl,h⟩
 | none=>exact B4 h
noncomputable def val (r:Option V) (Q:F8) (H:Heap):Prop:=match r with
 | some v=>Q v H
 | Option.none=>False
noncomputable def Bb (r:Option Bool) (Q:Bool->Heap->Prop) (H:Heap):Prop:=match r with
 | some b=>Q b H
 | Option.none=>False
noncomputable def Cy (r:Option Heap) (Q:F8):Prop:=match r with
 | some H=>Q .none H
 | Option.none=>False
noncomputable def O4 (v:V):Option Bool:=match v with
 | .bool b=>some b
 | _=>Option.none
noncomputable def Bc8 (s:List Nat) (va vb:V) (Q:F8) (H:Heap):Prop:=wH va λc=>Ct5 vb λi=>0<=i/\Q (.int (rS s c i.toNat)) H
noncomputable def jM (s:List Nat) (va vb:V) (Q:F8) (H:Heap):Prop:=wH va λx=>wH vb λy=>x≠y/\s.length<=1000000/\Q (.str (Y5 s x y)) H
noncomputable def lL (s:List Nat) (va:V) (Q:F8) (H:Heap):Prop:=match va with
 | .ref a=>match (H[a]?).bind Ad0 with
  | some l=>(l.map List.length).sum+l.length * s.length<=P0/\Q (.str (Ad s l)) H
  | Option.none=>False
 | _=>False
noncomputable def Ae3 (s:List Nat) (va:V) (Q:F8) (H:Heap):Prop:=wH va λc=>s.length<P0/\Q (.ref H.length) (H++[(splitAt c s).map .str])
noncomputable def Dg2 (s:List Nat) (va:V) (Q:F8) (H:Heap):Prop:=wH va λc=>Q (match idx? c s with
  | some k=>.tup [.str (s.take k),.str [c],.str (s.drop (k+1))]
  | Option.none=>.tup [.str s,.str [],.str []]) H
noncomputable def uL (s:List Nat) (va:V) (Q:F8) (H:Heap):Prop:=wH va λc=>Q (.str (s.dropWhile (· == c))) H
noncomputable def bS (i6:M6->F8->Heap->Prop) (x:Nat) (ρ:M6) (it:It) :
  Nat->Nat->List V->(List V->Heap->Prop)->Heap->Prop
 | 0,_,_,_,_=>False
 | n+1,i,d5,Q,H=>match it.at H i with
  | Option.none=>Q d5 H
  | some v=>i6 (ρ.set x (some v)) (λy Hz=>d5.length<P0/\bS i6 x ρ it n (i+1) (d5++[y]) Q Hz) H
mutual
noncomputable def L0 (C:Calls):E->M6->F8->Heap->Prop
 | .none,_,Q,H=>Q .none H
 | .bool b,_,Q,H=>Q (.bool b) H
 | .int i,_,Q,H=>Q (.int i) H
 | .str s,_,Q,H=>Q (.str s) H
 | .var x,ρ,Q,H=>match ρ[x]? with
  | some (some v)=>Q v H
  | _=>False
 | .glob _ i,_,Q,H=>Q (.int i) H
 | .bin o l r,ρ,Q,H=>L0 C l ρ (λa Hw=>L0 C r ρ (λb Hz=>res (eR o a b Hz) Q) Hw) H
 | .neg i,_,Q,H=>Q (.int (-i)) H
 | .cmp o l r,ρ,Q,H=>L0 C l ρ (λa Hw=>L0 C r ρ (λb Hz=>Bb (W5 o a b Hz) (λb H=>Q (.bool b) H) Hz) Hw) H
 | .Dk o6 o0 a b c,ρ,Q,H=>L0 C a ρ (λva Hw=>L0 C b ρ (λvb Hz=>Bb (W5 o6 va vb Hz) (λt Hz=>match t with
   | true=>L0 C c ρ (λvc Hv=>Bb (W5 o0 vb vc Hv) (λb H=>Q (.bool b) H) Hv) Hz
   | false=>Q (.bool false) Hz) Hz) Hw) H
 | .is e c,ρ,Q,H=>L0 C e ρ (λv Hw=>Q (.bool (isV v c)) Hw) H
 | .Az e c,ρ,Q,H=>L0 C e ρ (λv Hw=>Q (.bool (!isV v c)) Hw) H
 | .and es,ρ,Q,H=>lJ C es ρ Q H
 | .or es,ρ,Q,H=>wF C es ρ Q H
 | .not e,ρ,Q,H=>L0 C e ρ (λv Hw=>Bb (O4 v) (λb H=>Q (.bool (!b)) H) Hw) H
 | .idx o i,ρ,Q,H=>L0 C o ρ (λvo Hw=>L0 C i ρ (λvi Hz=>val (cL vo vi Hz) Q Hz) Hw) H
 | .slc o l h,ρ,Q,H=>L0 C o ρ (λvo Hw=>L0 C l ρ (λvl Hz=>L0 C h ρ (λvh Hv=>match vl,vh with
   | .int a,.int b=>res (cK vo (some a) (some b) Hv) Q
   | _,_=>False) Hz) Hw) H
 | .Aw o l,ρ,Q,H=>L0 C o ρ (λvo Hw=>L0 C l ρ (λvl Hz=>match vl with
   | .int a=>res (cK vo (some a) Option.none Hz) Q
   | _=>False) Hw) H
 | .Cp o h,ρ,Q,H=>L0 C o ρ (λvo Hw=>L0 C h ρ (λvh Hz=>match vh with
   | .int a=>res (cK vo Option.none (some a) Hz) Q
   | _=>False) Hw) H
 | .call f es,ρ,Q,H=>V2 C es ρ (λvs Hw=>C f vs Q Hw) H
 | .Ae e t,ρ,Q,H=>L0 C e ρ (λv Hw=>Q (.bool (dU v t)) Hw) H
 | .len e,ρ,Q,H=>L0 C e ρ (λv Hw=>val ((qX v Hw).map .int) Q Hw) H
 | .toInt e,ρ,Q,H=>L0 C e ρ (λv Hw=>match v with
   | .bool b=>Q (.int (if b then 1 else 0)) Hw
   | _=>False) H
 | .ord e,ρ,Q,H=>L0 C e ρ (λv Hw=>match v with
   | .str [c]=>Q (.int (c:Int)) Hw
   | _=>False) H
 | .listOf e,ρ,Q,H=>L0 C e ρ (λv Hw=>match v with
   | .ref a=>match Hw[a]? with
    | some l=>Q (.ref Hw.length) (Hw++[l])
    | Option.none=>False
   | .tup l=>Q (.ref Hw.length) (Hw++[l])
   | _=>False) H
 | .append o e,ρ,Q,H=>L0 C o ρ (λvo Hw=>match vo with
   | .ref a=>L0 C e ρ (λv Hz=>Cy (W2 (.ref a) v Hz) Q) Hw
   | _=>False) H
 | .extend o e,ρ,Q,H=>L0 C o ρ (λvo Hw=>match vo with
   | .ref a=>L0 C e ρ (λv Hz=>Cy (uP (.ref a) v Hz) Q) Hw
   | _=>False) H
 | .pop o,ρ,Q,H=>L0 C o ρ (λvo Hw=>match vo with
   | .ref a=>res (Ad2 (.ref a) Hw) Q
   | _=>False) H
 | .find o a b,ρ,Q,H=>L0 C o ρ (λvo Hw=>match vo with
   | .str s=>L0 C a ρ (λva Hz=>L0 C b ρ (λvb Hv=>Bc8 s va vb Q Hv) Hz) Hw
   | _=>False) H
 | .replace o a b,ρ,Q,H=>L0 C o ρ (λvo Hw=>match vo with
   | .str s=>L0 C a ρ (λva Hz=>L0 C b ρ (λvb Hv=>jM s va vb Q Hv) Hz) Hw
   | _=>False) H
 | .join o a,ρ,Q,H=>L0 C o ρ (λvo Hw=>match vo with
   | .str s=>L0 C a ρ (λva Hz=>lL s va Q Hz) Hw
   | _=>False) H
 | .split o a,ρ,Q,H=>L0 C o ρ (λvo Hw=>match vo with
   | .str s=>L0 C a ρ (λva Hz=>Ae3 s va Q Hz) Hw
   | _=>False) H
 | .lstrip o a,ρ,Q,H=>L0 C o ρ (λvo Hw=>match vo with
   | .str s=>L0 C a ρ (λva Hz=>uL s va Q Hz) Hw
   | _=>False) H
 | .list es,ρ,Q,H=>V2 C es ρ (λvs Hw=>Q (.ref Hw.length) (Hw++[vs])) H
 | .tup es,ρ,Q,H=>V2 C es ρ (λvs Hw=>Q (.tup vs) Hw) H
 | .comp i6 x src,ρ,Q,H=>L0 C src ρ (λv Hw=>match cP v with
   | some it=>∃ n,bS (L0 C i6) x ρ it n 0 [] (λvs Hz=>Q (.ref Hz.length) (Hz++[vs])) Hw
   | Option.none=>False) H
noncomputable def V2 (C:Calls):List E->M6->(List V->Heap->Prop)->Heap->Prop
 | [],_,Q,H=>Q [] H
 | e::es,ρ,Q,H=>L0 C e ρ (λv Hw=>V2 C es ρ (λvs Hz=>Q (v::vs) Hz) Hw) H
noncomputable def lJ (C:Calls):List E->M6->F8->Heap->Prop
 | [],_,_,_=>False
 | e::es,ρ,Q,H=>match es with
  | []=>L0 C e ρ Q H
  | _::_=>L0 C e ρ (λv Hw=>Bb (O4 v) (λb Hw=>match b with
   | true=>lJ C es ρ Q Hw
   | false=>Q v Hw) Hw) H
noncomputable def wF (C:Calls):List E->M6->F8->Heap->Prop
 | [],_,_,_=>False
 | e::es,ρ,Q,H=>match es with
  | []=>L0 C e ρ Q H
  | _::_=>L0 C e ρ (λv Hw=>Bb (O4 v) (λb Hw=>match b with
   | true=>Q v Hw
   | false=>wF C es ρ Q Hw) Hw) H
end
inductive gO where
 | next
 | ret (v:V)
abbrev O3:=gO->M6->Heap->Prop
noncomputable def kE (test:M6->F8->Heap->Prop) (body:M6->O3->Heap->Prop):Nat->M6->O3->Heap->Prop
 | 0,_,_,_=>False
 | n+1,ρ,Q,H=>test ρ (λv Hw=>Bb (O4 v) (λb Hw=>match b with
   | true=>body ρ (λfl ρ' Hz=>match fl with
    | .ret v=>Q (.ret v) ρ' Hz
    | _=>kE test body n ρ' Q Hz) Hw
   | false=>Q .next ρ Hw) Hw) H
noncomputable def cM (body:M6->O3->Heap->Prop) (x:Nat) (it:It):Nat->Nat->M6->O3->Heap->Prop
 | 0,_,_,_,_=>False
 | n+1,i,ρ,Q,H=>match it.at H i with
  | Option.none=>Q .next ρ H
  | some v=>body (ρ.set x (some v)) (λfl ρ' Hz=>match fl with
    | .ret v=>Q (.ret v) ρ' Hz
    | _=>cM body x it n (i+1) ρ' Q Hz) H
noncomputable def lM (body:M6->O3->Heap->Prop) (x y:Nat) (it:It):Nat->Nat->M6->O3->Heap->Prop
 | 0,_,_,_,_=>False
 | n+1,i,ρ,Q,H=>match it.at H i with
  | Option.none=>Q .next ρ H
  | some v=>body ((ρ.set x (some (.int (i:Int)))).set y (some v)) (λfl ρ' Hz=>match fl with
    | .ret v=>Q (.ret v) ρ' Hz
    | _=>lM body x y it n (i+1) ρ' Q Hz) H
mutual
noncomputable def lE (C:Calls):S->M6->O3->Heap->Prop
 | .assign x e,ρ,Q,H=>L0 C e ρ (λv Hw=>Q .next (ρ.set x (some v)) Hw) H
 | .Bs o i e,ρ,Q,H=>L0 C e ρ (λv Hw=>L0 C o ρ (λvo Hz=>L0 C i ρ (λvi Hv=>Cy (Ck6 vo vi v Hv) (λZ Hy=>Q .next ρ Hy)) Hz) Hw) H
 | .expr e,ρ,Q,H=>L0 C e ρ (λZ Hw=>Q .next ρ Hw) H
 | .ite c t f,ρ,Q,H=>L0 C c ρ (λv Hw=>Bb (O4 v) (λb Hw=>match b with
   | true=>K1 C t ρ Q Hw
   | false=>K1 C f ρ Q Hw) Hw) H
 | .Dq c b,ρ,Q,H=>∃ n,kE (L0 C c) (K1 C b) n ρ Q H
 | .forIn x e b,ρ,Q,H=>L0 C e ρ (λv Hw=>match cP v with
   | some it=>∃ n,cM (K1 C b) x it n 0 ρ Q Hw
   | Option.none=>False) H
 | .Dc x e b,ρ,Q,H=>L0 C e ρ (λv Hw=>match cF v with
   | some it=>∃ n,cM (K1 C b) x it n 0 ρ Q Hw
   | Option.none=>False) H
 | .Bf x y e b,ρ,Q,H=>L0 C e ρ (λv Hw=>match v with
   | .ref a=>∃ n,lM (K1 C b) x y (.lst a) n 0 ρ Q Hw
   | _=>False) H
 | .ret e,ρ,Q,H=>L0 C e ρ (λv Hw=>Q (.ret v) ρ Hw) H
 | .Bm,ρ,Q,H=>Q (.ret .none) ρ H
 | .raise _ _,_,_,_=>False
noncomputable def K1 (C:Calls):List S->M6->O3->Heap->Prop
 | [],ρ,Q,H=>Q .next ρ H
 | s::ss,ρ,Q,H=>lE C s ρ (λfl ρ' Hw=>match fl with
   | .next=>K1 C ss ρ' Q Hw
   | fl=>Q fl ρ' Hw) H
end
noncomputable def frame (f:Fn) (vs:List V):M6:=vs.map some++List.replicate (f.names.length - f.params) Option.none
noncomputable def Ac (P:Prg):Nat->Calls
 | 0,_,_,_,_=>False
 | n+1,f,vs,Q,H=>match P f with
  | some fn=>vs.length=fn.params/\K1 (Ac P n) fn.body (frame fn vs) (λfl Z Hw=>match fl with
   | .ret v=>Q v Hw
   | _=>Q .none Hw) H
  | Option.none=>False
theorem Ah {G:Prop}(h:∀ g:Prop,(G->g)->g):G:=h G id
end Aa
namespace Aa
open PySem (Expr Stmt Str NameKind Scope Const Operator CmpOp BoolOp UnaryOp Arguments Comprehension Keyword Pos ExceptHandler)
noncomputable def bH (re:PySem.Expr) (q:BoolOp->List Expr->Pos->Bool):Bool:=if h:re.ctorIdx=0 then PySem.Expr.BoolOp.elim (motive_1:=λZ=>Bool) re h q else false
theorem eH {q:BoolOp->List Expr->Pos->Bool}(h:bH re q=true):re.ctorIdx=0:=B8 λhk=>by rw [bH,dif_neg hk] at h;cases h
theorem fO {q:BoolOp->List Expr->Pos->Bool}{P:Prop}(h:bH re q=true) (k:∀ op es p,re=.BoolOp op es p->q op es p=true->P):P:=by
 have hk:=eH h
 revert h k
 exact PySem.Expr.BoolOp.elim (motive_1:=λre=>bH re q=true->(∀ op es p,re=.BoolOp op es p->q op es p=true->P)->P) re hk (λop es p h k=>k op es p rfl h)
noncomputable def iX (re:PySem.Expr) (q:Expr->Operator->Expr->Pos->Bool):Bool:=if h:re.ctorIdx=2 then PySem.Expr.BinOp.elim (motive_1:=λZ=>Bool) re h q else false
theorem lY {q:Expr->Operator->Expr->Pos->Bool}(h:iX re q=true):re.ctorIdx=2:=B8 λhk=>by rw [iX,dif_neg hk] at h;cases h
theorem Aj5 {q:Expr->Operator->Expr->Pos->Bool}{P:Prop}(h:iX re q=true) (k:∀ l o r p,re=.BinOp l o r p->q l o r p=true->P):P:=by
 have hk:=lY h
 revert h k
 exact PySem.Expr.BinOp.elim (motive_1:=λre=>iX re q=true->(∀ l o r p,re=.BinOp l o r p->q l o r p=true->P)->P) re hk (λl o r p h k=>k l o r p rfl h)
noncomputable def bW (re:PySem.Expr) (q:UnaryOp->Expr->Pos->Bool):Bool:=if h:re.ctorIdx=3 then PySem.Expr.UnaryOp.elim (motive_1:=λZ=>Bool) re h q else false
theorem lW {q:UnaryOp->Expr->Pos->Bool}(h:bW re q=true):re.ctorIdx=3:=B8 λhk=>by rw [bW,dif_neg hk] at h;cases h
theorem pX {q:UnaryOp->Expr->Pos->Bool}{P:Prop}(h:bW re q=true) (k:∀ o e p,re=.UnaryOp o e p->q o e p=true->P):P:=by
 have hk:=lW h
 revert h k
 exact PySem.Expr.UnaryOp.elim (motive_1:=λre=>bW re q=true->(∀ o e p,re=.UnaryOp o e p->q o e p=true->P)->P) re hk (λo e p h k=>k o e p rfl h)
noncomputable def oG (re:PySem.Expr) (q:Expr->List Comprehension->Scope->Pos->Bool):Bool:=if h:re.ctorIdx=8 then PySem.Expr.ListComp.elim (motive_1:=λZ=>Bool) re h q else false
theorem qA {q:Expr->List Comprehension->Scope->Pos->Bool}(h:oG re q=true):re.ctorIdx=8:=B8 λhk=>by rw [oG,dif_neg hk] at h;cases h
theorem Ay3 {q:Expr->List Comprehension->Scope->Pos->Bool}{P:Prop}(h:oG re q=true) (k:∀ e g sc p,re=.ListComp e g sc p->q e g sc p=true->P):P:=by
 have hk:=qA h
 revert h k
 exact PySem.Expr.ListComp.elim (motive_1:=λre=>oG re q=true->(∀ e g sc p,re=.ListComp e g sc p->q e g sc p=true->P)->P) re hk (λe g sc p h k=>k e g sc p rfl h)
noncomputable def X6 (re:PySem.Expr) (q:Expr->List CmpOp->List Expr->Pos->Bool):Bool:=if h:re.ctorIdx=15 then PySem.Expr.Compare.elim (motive_1:=λZ=>Bool) re h q else false
theorem W0 {q:Expr->List CmpOp->List Expr->Pos->Bool}(h:X6 re q=true):re.ctorIdx=15:=B8 λhk=>by rw [X6,dif_neg hk] at h;cases h
theorem aP {q:Expr->List CmpOp->List Expr->Pos->Bool}{P:Prop}(h:X6 re q=true) (k:∀ l os rs p,re=.Compare l os rs p->q l os rs p=true->P):P:=by
 have hk:=W0 h
 revert h k
 exact PySem.Expr.Compare.elim (motive_1:=λre=>X6 re q=true->(∀ l os rs p,re=.Compare l os rs p->q l os rs p=true->P)->P) re hk (λl os rs p h k=>k l os rs p rfl h)
noncomputable def aI (re:PySem.Expr) (q:Expr->List Expr->List Keyword->Pos->Bool):Bool:=if h:re.ctorIdx=16 then PySem.Expr.Call.elim (motive_1:=λZ=>Bool) re h q else false
theorem P3 {q:Expr->List Expr->List Keyword->Pos->Bool}(h:aI re q=true):re.ctorIdx=16:=B8 λhk=>by rw [aI,dif_neg hk] at h;cases h
theorem aU {q:Expr->List Expr->List Keyword->Pos->Bool}{P:Prop}(h:aI re q=true) (k:∀ f as ks p,re=.Call f as ks p->q f as ks p=true->P):P:=by
 have hk:=P3 h
 revert h k
 exact PySem.Expr.Call.elim (motive_1:=λre=>aI re q=true->(∀ f as ks p,re=.Call f as ks p->q f as ks p=true->P)->P) re hk (λf as ks p h k=>k f as ks p rfl h)
noncomputable def W1 (re:PySem.Expr) (q:Const->Nat->Pos->Bool):Bool:=if h:re.ctorIdx=19 then PySem.Expr.Constant.elim (motive_1:=λZ=>Bool) re h q else false
theorem aD {q:Const->Nat->Pos->Bool}(h:W1 re q=true):re.ctorIdx=19:=B8 λhk=>by rw [W1,dif_neg hk] at h;cases h
theorem X1 {q:Const->Nat->Pos->Bool}{P:Prop}(h:W1 re q=true) (k:∀ c u p,re=.Constant c u p->q c u p=true->P):P:=by
 have hk:=aD h
 revert h k
 exact PySem.Expr.Constant.elim (motive_1:=λre=>W1 re q=true->(∀ c u p,re=.Constant c u p->q c u p=true->P)->P) re hk (λc u p h k=>k c u p rfl h)
noncomputable def oH (re:PySem.Expr) (q:Expr->Str->Pos->Bool):Bool:=if h:re.ctorIdx=20 then PySem.Expr.Attribute.elim (motive_1:=λZ=>Bool) re h q else false
theorem Aj6 {q:Expr->Str->Pos->Bool}(h:oH re q=true):re.ctorIdx=20:=B8 λhk=>by rw [oH,dif_neg hk] at h;cases h
theorem Ay5 {q:Expr->Str->Pos->Bool}{P:Prop}(h:oH re q=true) (k:∀ e a p,re=.Attribute e a p->q e a p=true->P):P:=by
 have hk:=Aj6 h
 revert h k
 exact PySem.Expr.Attribute.elim (motive_1:=λre=>oH re q=true->(∀ e a p,re=.Attribute e a p->q e a p=true->P)->P) re hk (λe a p h k=>k e a p rfl h)
noncomputable def iN (re:PySem.Expr) (q:Expr->Expr->Pos->Bool):Bool:=if h:re.ctorIdx=21 then PySem.Expr.Subscript.elim (motive_1:=λZ=>Bool) re h q else false
theorem dH {q:Expr->Expr->Pos->Bool}(h:iN re q=true):re.ctorIdx=21:=B8 λhk=>by rw [iN,dif_neg hk] at h;cases h
theorem fI {q:Expr->Expr->Pos->Bool}{P:Prop}(h:iN re q=true) (k:∀ e i p,re=.Subscript e i p->q e i p=true->P):P:=by
 have hk:=dH h
 revert h k
 exact PySem.Expr.Subscript.elim (motive_1:=λre=>iN re q=true->(∀ e i p,re=.Subscript e i p->q e i p=true->P)->P) re hk (λe i p h k=>k e i p rfl h)
noncomputable def U2 (re:PySem.Expr) (q:Str->Pos->Bool):Bool:=if h:re.ctorIdx=23 then PySem.Expr.Name.elim (motive_1:=λZ=>Bool) re h q else false
theorem iD {q:Str->Pos->Bool}(h:U2 re q=true):re.ctorIdx=23:=B8 λhk=>by rw [U2,dif_neg hk] at h;cases h
theorem R9 {q:Str->Pos->Bool}{P:Prop}(h:U2 re q=true) (k:∀ i p,re=.Name i p->q i p=true->P):P:=by
 have hk:=iD h
 revert h k
 exact PySem.Expr.Name.elim (motive_1:=λre=>U2 re q=true->(∀ i p,re=.Name i p->q i p=true->P)->P) re hk (λi p h k=>k i p rfl h)
noncomputable def oE (re:PySem.Expr) (q:List Expr->Pos->Bool):Bool:=if h:re.ctorIdx=24 then PySem.Expr.List.elim (motive_1:=λZ=>Bool) re h q else false
theorem pZ {q:List Expr->Pos->Bool}(h:oE re q=true):re.ctorIdx=24:=B8 λhk=>by rw [oE,dif_neg hk] at h;cases h
theorem Ay0 {q:List Expr->Pos->Bool}{P:Prop}(h:oE re q=true) (k:∀ es p,re=.List es p->q es p=true->P):P:=by
 have hk:=pZ h
 revert h k
 exact PySem.Expr.List.elim (motive_1:=λre=>oE re q=true->(∀ es p,re=.List es p->q es p=true->P)->P) re hk (λes p h k=>k es p rfl h)
noncomputable def fV (re:PySem.Expr) (q:List Expr->Nat->Pos->Bool):Bool:=if h:re.ctorIdx=25 then PySem.Expr.Tuple.elim (motive_1:=λZ=>Bool) re h q else false
theorem lX {q:List Expr->Nat->Pos->Bool}(h:fV re q=true):re.ctorIdx=25:=B8 λhk=>by rw [fV,dif_neg hk] at h;cases h
theorem pY {q:List Expr->Nat->Pos->Bool}{P:Prop}(h:fV re q=true) (k:∀ es u p,re=.Tuple es u p->q es u p=true->P):P:=by
 have hk:=lX h
 revert h k
 exact PySem.Expr.Tuple.elim (motive_1:=λre=>fV re q=true->(∀ es u p,re=.Tuple es u p->q es u p=true->P)->P) re hk (λes u p h k=>k es u p rfl h)
noncomputable def dS (re:PySem.Expr) (q:Option Expr->Option Expr->Option Expr->Pos->Bool):Bool:=if h:re.ctorIdx=26 then PySem.Expr.Slice.elim (motive_1:=λZ=>Bool) re h q else false
theorem zY {q:Option Expr->Option Expr->Option Expr->Pos->Bool}(h:dS re q=true):re.ctorIdx=26:=B8 λhk=>by rw [dS,dif_neg hk] at h;cases h
theorem iC {q:Option Expr->Option Expr->Option Expr->Pos->Bool}{P:Prop}(h:dS re q=true) (k:∀ l u st p,re=.Slice l u st p->q l u st p=true->P):P:=by
 have hk:=zY h
 revert h k
 exact PySem.Expr.Slice.elim (motive_1:=λre=>dS re q=true->(∀ l u st p,re=.Slice l u st p->q l u st p=true->P)->P) re hk (λl u st p h k=>k l u st p rfl h)
noncomputable def bG (re:PySem.Stmt) (q:Option Expr->Pos->Bool):Bool:=if h:re.ctorIdx=3 then PySem.Stmt.Return.elim (motive_2:=λZ=>Bool) re h q else false
theorem vH {q:Option Expr->Pos->Bool}(h:bG re q=true):re.ctorIdx=3:=B8 λhk=>by rw [bG,dif_neg hk] at h;cases h
theorem fN {q:Option Expr->Pos->Bool}{P:Prop}(h:bG re q=true) (k:∀ v p,re=.Return v p->q v p=true->P):P:=by
 have hk:=vH h
 revert h k
 exact PySem.Stmt.Return.elim (motive_2:=λre=>bG re q=true->(∀ v p,re=.Return v p->q v p=true->P)->P) re hk (λv p h k=>k v p rfl h)
noncomputable def bI (re:PySem.Stmt) (q:List Expr->Expr->Pos->Bool):Bool:=if h:re.ctorIdx=5 then PySem.Stmt.Assign.elim (motive_2:=λZ=>Bool) re h q else false
theorem vL {q:List Expr->Expr->Pos->Bool}(h:bI re q=true):re.ctorIdx=5:=B8 λhk=>by rw [bI,dif_neg hk] at h;cases h
theorem lZ {q:List Expr->Expr->Pos->Bool}{P:Prop}(h:bI re q=true) (k:∀ ts v p,re=.Assign ts v p->q ts v p=true->P):P:=by
 have hk:=vL h
 revert h k
 exact PySem.Stmt.Assign.elim (motive_2:=λre=>bI re q=true->(∀ ts v p,re=.Assign ts v p->q ts v p=true->P)->P) re hk (λts v p h k=>k ts v p rfl h)
noncomputable def nJ (re:PySem.Stmt) (q:Expr->Expr->List Stmt->List Stmt->Pos->Bool):Bool:=if h:re.ctorIdx=9 then PySem.Stmt.For.elim (motive_2:=λZ=>Bool) re h q else false
theorem Ay1 {q:Expr->Expr->List Stmt->List Stmt->Pos->Bool}(h:nJ re q=true):re.ctorIdx=9:=B8 λhk=>by rw [nJ,dif_neg hk] at h;cases h
theorem oZ {q:Expr->Expr->List Stmt->List Stmt->Pos->Bool}{P:Prop}(h:nJ re q=true) (k:∀ t i b o p,re=.For t i b o p->q t i b o p=true->P):P:=by
 have hk:=Ay1 h
 revert h k
 exact PySem.Stmt.For.elim (motive_2:=λre=>nJ re q=true->(∀ t i b o p,re=.For t i b o p->q t i b o p=true->P)->P) re hk (λt i b o p h k=>k t i b o p rfl h)
noncomputable def iV (re:PySem.Stmt) (q:Expr->List Stmt->List Stmt->Pos->Bool):Bool:=if h:re.ctorIdx=11 then PySem.Stmt.While.elim (motive_2:=λZ=>Bool) re h q else false
theorem zX {q:Expr->List Stmt->List Stmt->Pos->Bool}(h:iV re q=true):re.ctorIdx=11:=B8 λhk=>by rw [iV,dif_neg hk] at h;cases h
theorem Aj2 {q:Expr->List Stmt->List Stmt->Pos->Bool}{P:Prop}(h:iV re q=true) (k:∀ t b o p,re=.While t b o p->q t b o p=true->P):P:=by
 have hk:=zX h
 revert h k
 exact PySem.Stmt.While.elim (motive_2:=λre=>iV re q=true->(∀ t b o p,re=.While t b o p->q t b o p=true->P)->P) re hk (λt b o p h k=>k t b o p rfl h)
noncomputable def Au7 (re:PySem.Stmt) (q:Expr->List Stmt->List Stmt->Pos->Bool):Bool:=if h:re.ctorIdx=12 then PySem.Stmt.If.elim (motive_2:=λZ=>Bool) re h q else false
theorem Bn1 {q:Expr->List Stmt->List Stmt->Pos->Bool}(h:Au7 re q=true):re.ctorIdx=12:=B8 λhk=>by rw [Au7,dif_neg hk] at h;cases h
theorem Ap8 {q:Expr->List Stmt->List Stmt->Pos->Bool}{P:Prop}(h:Au7 re q=true) (k:∀ t b o p,re=.If t b o p->q t b o p=true->P):P:=by
 have hk:=Bn1 h
 revert h k
 exact PySem.Stmt.If.elim (motive_2:=λre=>Au7 re q=true->(∀ t b o p,re=.If t b o p->q t b o p=true->P)->P) re hk (λt b o p h k=>k t b o p rfl h)
noncomputable def iW (re:PySem.Stmt) (q:Option Expr->Option Expr->Pos->Bool):Bool:=if h:re.ctorIdx=16 then PySem.Stmt.Raise.elim (motive_2:=λZ=>Bool) re h q else false
theorem zZ {q:Option Expr->Option Expr->Pos->Bool}(h:iW re q=true):re.ctorIdx=16:=B8 λhk=>by rw [iW,dif_neg hk] at h;cases h
theorem Aj3 {q:Option Expr->Option Expr->Pos->Bool}{P:Prop}(h:iW re q=true) (k:∀ e c p,re=.Raise e c p->q e c p=true->P):P:=by
 have hk:=zZ h
 revert h k
 exact PySem.Stmt.Raise.elim (motive_2:=λre=>iW re q=true->(∀ e c p,re=.Raise e c p->q e c p=true->P)->P) re hk (λe c p h k=>k e c p rfl h)
noncomputable def wO (re:PySem.Stmt) (q:List Stmt->List ExceptHandler->List Stmt->List Stmt->Pos->Bool):Bool:=if h:re.ctorIdx=17 then PySem.Stmt.Try.elim (motive_2:=λZ=>Bool) re h q else false
theorem Ax9 {q:List Stmt->List ExceptHandler->List Stmt->List Stmt->Pos->Bool}(h:wO re q=true):re.ctorIdx=17:=B8 λhk=>by rw [wO,dif_neg hk] at h;cases h
theorem Bm9 {q:List Stmt->List ExceptHandler->List Stmt->List Stmt->Pos->Bool}{P:Prop}(h:wO re q=true) (k:∀ b hs o f p,re=.Try b hs o f p->q b hs o f p=true->P):P:=by
 have hk:=Ax9 h
 revert h k
 exact PySem.Stmt.Try.elim (motive_2:=λre=>wO re q=true->(∀ b hs o f p,re=.Try b hs o f p->q b hs o f p=true->P)->P) re hk (λb hs o f p h k=>k b hs o f p rfl h)
noncomputable def oF (re:PySem.Stmt) (q:Expr->Pos->Bool):Bool:=if h:re.ctorIdx=24 then PySem.Stmt.Expr.elim (motive_2:=λZ=>Bool) re h q else false
theorem Aj4 {q:Expr->Pos->Bool}(h:oF re q=true):re.ctorIdx=24:=B8 λhk=>by rw [oF,dif_neg hk] at h;cases h
theorem Ay2 {q:Expr->Pos->Bool}{P:Prop}(h:oF re q=true) (k:∀ v p,re=.Expr v p->q v p=true->P):P:=by
 have hk:=Aj4 h
 revert h k
 exact PySem.Stmt.Expr.elim (motive_2:=λre=>oF re q=true->(∀ v p,re=.Expr v p->q v p=true->P)->P) re hk (λv p h k=>k v p rfl h)
end Aa
namespace Aa
open PySem (Expr Stmt Str NameKind Scope Const Operator CmpOp BoolOp UnaryOp Arguments Comprehension Keyword Pos)
structure Gl where
 Er:List (String×Int)
 fns:List (String×List Nat)
 lits:List Nat:=[]
 pos:Bool:=true
noncomputable def Y3 (sc:List (Str×NameKind)) (id:Str):Bool:=match sc.lookup id with
 | some .local=>true
 | some .cell=>true
 | some .free=>true
 | _=>false
noncomputable def V6 (sc:List (Str×NameKind)) (id:Str):Bool:=match sc.lookup id with
 | some .globalImplicit=>true
 | _=>false
noncomputable def R3 (id:Str):Bool:=!(id==("__debug__" : Str))&&!(id==("__classdict__" : Str))
noncomputable def Cv3 (s:List Nat) (x:Str):Bool:=s==x.cps.toList
noncomputable def W7 (sc:List (Str×NameKind)) (n:String) (e:Expr):Bool:=U2 e λid Z=>id==Str.ofString n&&V6 sc id
noncomputable def one? {α:Type}(l:List α) (q:α->Bool):Bool:=match l with
 | [x]=>q x
 | _=>false
theorem W6 {α:Type}{l:List α}{q:α->Bool}(h:one? l q=true) {P:Prop}(k:∀ x,l=[x]->q x=true->P):P:=by
 match l,h,k with
 | [x],h,k=>exact k x rfl h
noncomputable def two? {α:Type}(l:List α) (q:α->α->Bool):Bool:=match l with
 | [x,y]=>q x y
 | _=>false
theorem gZ {α:Type}{l:List α}{q:α->α->Bool}(h:two? l q=true) {P:Prop}(k:∀ x y,l=[x,y]->q x y=true->P):P:=by
 match l,h,k with
 | [x,y],h,k=>exact k x y rfl h
theorem V5 {α:Type}{l:List α}(h:l.isEmpty=true):l=[]:=List.isEmpty_iff.mp h
theorem E7 (h:(a&&b)=true):a=true/\b=true:=by
 cases a
 ·cases h
 ·exact ⟨rfl,h⟩
theorem a3 (h:(a&&b&&c)=true):(a=true/\b=true)/\c=true:=⟨E7 (E7 h).1,(E7 h).2⟩
theorem a4 (h:(a&&b&&c&&d)=true):((a=true/\b=true)/\c=true)/\d=true:=⟨a3 (E7 h).1,(E7 h).2⟩
theorem a5 (h:(a&&b&&c&&d&&e)=true):(((a=true/\b=true)/\c=true)/\d=true)/\e=true:=⟨a4 (E7 h).1,(E7 h).2⟩
theorem a6 (h:(a&&b&&c&&d&&e&&f)=true):((((a=true/\b=true)/\c=true)/\d=true)/\e=true)/\f=true:=⟨a5 (E7 h).1,(E7 h).2⟩
theorem An2 (h:(!b)=true):b=false:=by
 cases b
 ·rfl
 ·cases h
noncomputable def some? {α:Type}(o:Option α) (q:α->Bool):Bool:=match o with
 | some x=>q x
 | none=>false
theorem bV {α:Type}{o:Option α}{q:α->Bool}(h:some? o q=true) {P:Prop}(k:∀ x,o=some x->q x=true->P):P:=by
 match o,h,k with
 | some x,h,k=>exact k x rfl h
theorem bX {α:Type}{o:Option α}(h:o.isNone=true):o=none:=by
 match o,h with
 | none,_=>rfl
noncomputable def uM:Const->Bool
 | .none=>true
 | _=>false
noncomputable def iY (b:Bool):Const->Bool
 | .bool c=>b==c
 | _=>false
noncomputable def Ae8 (i:Int):Const->Bool
 | .int j=>i==j
 | _=>false
noncomputable def Ae7 (s:List Nat):Const->Bool
 | .str x=>Cv3 s x&&decide (s.length<=P0)
 | _=>false
theorem qB (h:uM c=true):c=.none:=by
 cases c with
 | none=>rfl
 | _=>exact xF (show false=true from h)
theorem iF (h:iY b c=true):c=.bool b:=by
 cases c with
 | bool x=>exact D0 _ (eq_of_beq h).symm
 | _=>exact xF (show false=true from h)
theorem sJ (h:Ae8 i c=true):c=.int i:=by
 cases c with
 | int x=>exact D0 _ (eq_of_beq h).symm
 | _=>exact xF (show false=true from h)
theorem sI (h:Ae7 s c=true) {P:Prop}(k:∀ x,c=.str x->s=x.cps.toList->s.length<=P0->P):P:=by
 cases c with
 | str x=>exact k _ rfl (eq_of_beq (E7 h).1) (of_decide_eq_true (E7 h).2)
 | _=>exact xF (show false=true from h)
noncomputable def wG (e:Expr):Bool:=!(aI e λZ as ks Z=>as.isEmpty&&ks.isEmpty)
noncomputable def hV (e:E):Bool:=e.ctorIdx==3
noncomputable def tQ (gl:Gl) (f:String) (es:List E):Bool:=match gl.fns.lookup f with
 | some l=>(gl.pos||l.isEmpty)&&l.all λj=>(es[j]?).any hV
 | none=>false
noncomputable def An3 (gl:Gl) (e:E):Bool:=(hV e&&gl.pos)||(if h:e.ctorIdx=4 then E.var.elim (motive_1:=λZ=>Bool) e h λx=>gl.lits.contains x else false)
noncomputable def Dd2:Op->Operator
 | .add=>.Add
 | .sub=>.Sub
 | .mul=>.Mult
 | .fdiv=>.FloorDiv
 | .mod=>.Mod
 | .pow=>.Pow
noncomputable def Ck7 (o:Op) (o':Operator):Bool:=o'==Dd2 o
noncomputable def Cw0:Cmp->CmpOp
 | .eq=>.Eq
 | .ne=>.NotEq
 | .lt=>.Lt
 | .le=>.LtE
 | .gt=>.Gt
 | .ge=>.GtE
 | .isin=>.In
 | .notin=>.NotIn
noncomputable def nS (o:Cmp) (o':CmpOp):Bool:=o'==Cw0 o
noncomputable def cstC:Cst->Const->Bool
 | .none=>uM
 | .tt=>iY true
 | .ff=>iY false
noncomputable def nO (c:Cst) (e:Expr):Bool:=W1 e λk Z Z=>cstC c k
noncomputable def Ae2:Ty->String
 | .str => "str"
 | .int => "int"
 | .bool => "bool"
 | .list => "list"
 | .tuple => "tuple"
noncomputable def eK (sc names:List (Str×NameKind)):List (Str×NameKind) :=
 names.map λ(n,k)=>if k==.free&&sc.lookup n==some .cell then (n,.cell) else (n,k)
noncomputable def aW (sc:List (Str×NameKind)) (nm:List Str) (id:Str) (scope:Scope):Bool :=
 scope.kind==.function&&scope.names.lookup id==some .local &&
 scope.names.all (λx=>x.2 != .cell&&(x.2 != .local||(scope.names.lookup x.1==some .local&&(x.1==id||!nm.contains x.1)))) &&
 scope.names.all (λx=>x.2 != .free||(nm.contains x.1&&(sc.lookup x.1==some .cell||sc.lookup x.1==some .free)))
theorem dW {ks:List Keyword}(h1:as=as') (h2:ks=[]):Expr.Call f as ks p=.Call f as' [] p:=qz h1 (qz h2 rfl)
theorem tO {rs j9:List Expr}(h1:os=os') (h2:rs=j9):Expr.Compare l os rs p=.Compare l os' j9 p:=qz h1 (qz h2 rfl)
theorem Ae4 (h:i=.Slice a b c q) (h1:a=a') (h2:b=b') (h3:c=none):Expr.Subscript o i p=.Subscript o (.Slice a' b' none q) p:=qz h (qz h1 (qz h2 (qz h3 rfl)))
noncomputable def Ad3 (sc:List (Str×NameKind)) (n:String) (re:Expr) (q:Expr->Bool):Bool:=aI re λf as ks Z=>W7 sc n f&&ks.isEmpty&&one? as q
theorem fW {sc n re q}(h0:Ad3 sc n re q=true) {P:Prop}(k:∀ f e p,re=.Call f [e] [] p->W7 sc n f=true->q e=true->P):P :=
 aU h0 λf Z Z p e1 h=>W6 (E7 h).2 λe e3 h3=>k f e p (e1.trans (dW e3 (V5 (E7 (E7 h).1).2))) (E7 (E7 h).1).1 h3
noncomputable def Dg3 (sc:List (Str×NameKind)) (re:Expr) (q:Expr->Bool):Bool:=aI re λf as ks Z=>W7 sc "sorted" f&&(one? ks λk=>k.arg==some (Str.ofString "reverse")&&W1 k.value λc Z Z=>iY true c)&&one? as q
noncomputable def onM (n:String) (re:Expr) (q:Expr->List Expr->Bool):Bool:=aI re λf as ks p=>ks.isEmpty&&oH f λo a ap=>a==Str.ofString n&&ap.endLine==p.line&&wG o&&q o as
theorem tH {n re q}(h0:onM n re q=true) {P:Prop}(k:∀ o as ap p,re=.Call (.Attribute o (Str.ofString n) ap) as [] p->(ap.endLine==p.line)=true->wG o=true->q o as=true->P):P :=
 aU h0 λZ as Z p e1 h=>Ay5 (E7 h).2 λo Z ap e2 h4 =>
  k o as ap p (e1.trans (qz e2 (qz (eq_of_beq (E7 (E7 (E7 h4).1).1).1) (qz (V5 (E7 h).1) rfl)))) (E7 (E7 (E7 h4).1).1).2 (E7 (E7 h4).1).2 (E7 h4).2
noncomputable def Ch0 (g:List Comprehension) (q:Str->Expr->List Expr->Bool):Bool:=one? g λc=>c.is_async==0&&U2 c.target λid Z=>q id c.iter c.ifs
theorem Bn3 {g q}(h:Ch0 g q=true) {P:Prop}(k:∀ id p it ifs,g=[⟨.Name id p,it,ifs,0⟩]->q id it ifs=true->P):P :=
 W6 h λc e0 h=>R9 (E7 h).2 λid p e h2=>k id p c.iter c.ifs (e0.trans (by
  have e3:c.is_async=0:=eq_of_beq (E7 h).1
  obtain ⟨t,it,ifs,n⟩:=c
  obtain rfl:t=_:=e
  obtain rfl:n=0:=e3
  rfl)) h2
mutual
noncomputable def K2 (gl:Gl) (sc:List (Str×NameKind)) (nm:List Str):E->Expr->Bool
 | .none,re=>W1 re λc Z Z=>uM c
 | .bool b,re=>W1 re λc Z Z=>iY b c
 | .int i,re=>W1 re λc Z Z=>Ae8 i c
 | .str s,re=>W1 re λc Z Z=>Ae7 s c
 | .var x,re=>U2 re λid Z=>nm[x]? == some id&&Y3 sc id&&R3 id
 | .glob g i,re=>U2 re λid Z=>id==Str.ofString g&&gl.Er.contains (g,i)&&V6 sc id&&R3 id
 | .bin o l r,re=>iX re λl' o' r' Z=>Ck7 o o'&&K2 gl sc nm l l'&&K2 gl sc nm r r'
 | .neg i,re=>bW re λo e Z=>o==.USub&&W1 e λc Z Z=>Ae8 i c
 | .cmp o l r,re=>X6 re λl' os rs Z=>one? os λo'=>one? rs λr'=>nS o o'&&K2 gl sc nm l l'&&K2 gl sc nm r r'
 | .Dk o p a b c,re=>X6 re λa' os rs Z=>two? os λo' p'=>two? rs λb' c'=>nS o o'&&nS p p'&&K2 gl sc nm a a'&&K2 gl sc nm b b'&&K2 gl sc nm c c'
 | .is e c,re=>X6 re λe' os rs Z=>one? os λo'=>one? rs λr=>o'==.Is&&(K2 gl sc nm e e'&&nO c r)
 | .Az e c,re=>X6 re λe' os rs Z=>one? os λo'=>one? rs λr=>o'==.IsNot&&(K2 gl sc nm e e'&&nO c r)
 | .and es,re=>bH re λo b9 Z=>o==.And&&S0 gl sc nm es b9
 | .or es,re=>bH re λo b9 Z=>o==.Or&&S0 gl sc nm es b9
 | .not e,re=>bW re λo e' Z=>o==.Not&&K2 gl sc nm e e'
 | .idx o i,re=>iN re λo' i' Z=>K2 gl sc nm o o'&&K2 gl sc nm i i'
 | .slc o l h,re=>iN re λo' i' Z=>dS i' λa b c Z=>c.isNone&&some? a λl'=>some? b λh'=>K2 gl sc nm o o'&&K2 gl sc nm l l'&&K2 gl sc nm h h'
 | .Aw o l,re=>iN re λo' i' Z=>dS i' λa b c Z=>b.isNone&&c.isNone&&some? a λl'=>K2 gl sc nm o o'&&K2 gl sc nm l l'
 | .Cp o h,re=>iN re λo' i' Z=>dS i' λa b c Z=>a.isNone&&c.isNone&&some? b λh'=>K2 gl sc nm o o'&&K2 gl sc nm h h'
 | .call f es,re=>aI re λg b9 ks Z=>ks.isEmpty&&U2 g λid Z=>id==Str.ofString f&&tQ gl f es&&V6 sc id&&R3 id&&S0 gl sc nm es b9
 | .Ae e t,re=>aI re λfn as ks Z=>ks.isEmpty&&two? as λe' ty=>W7 sc "isinstance" fn&&W7 sc (Ae2 t) ty&&K2 gl sc nm e e'
 | .len e,re=>Ad3 sc "len" re λe'=>K2 gl sc nm e e'
 | .toInt e,re=>Ad3 sc "int" re λe'=>K2 gl sc nm e e'
 | .ord e,re=>Ad3 sc "ord" re λe'=>K2 gl sc nm e e'
 | .listOf e,re=>Ad3 sc "list" re λe'=>K2 gl sc nm e e'
 | .append o e,re=>onM "append" re λo' as=>one? as λe'=>K2 gl sc nm o o'&&K2 gl sc nm e e'
 | .extend o e,re=>onM "extend" re λo' as=>one? as λe'=>K2 gl sc nm o o'&&K2 gl sc nm e e'
 | .pop o,re=>onM "pop" re λo' as=>as.isEmpty&&K2 gl sc nm o o'
 | .find o x y,re=>onM "find" re λo' as=>two? as λx' y'=>K2 gl sc nm o o'&&K2 gl sc nm x x'&&K2 gl sc nm y y'
 | .replace o x y,re=>onM "replace" re λo' as=>two? as λx' y'=>An3 gl x&&hV y&&K2 gl sc nm o o'&&K2 gl sc nm x x'&&K2 gl sc nm y y'
 | .join o x,re=>onM "join" re λo' as=>one? as λx'=>K2 gl sc nm o o'&&K2 gl sc nm x x'
 | .split o x,re=>onM "split" re λo' as=>one? as λx'=>K2 gl sc nm o o'&&K2 gl sc nm x x'
 | .lstrip o x,re=>onM "lstrip" re λo' as=>one? as λx'=>K2 gl sc nm o o'&&K2 gl sc nm x x'
 | .list es,re=>oE re λb9 Z=>S0 gl sc nm es b9&&decide (es.length<=P0)
 | .tup es,re=>fV re λb9 Z Z=>S0 gl sc nm es b9&&decide (es.length<=P0)
 | .comp i6 x src,re=>oG re λelt' g scope Z=>Ch0 g λid it ifs'=>nm[x]? == some id&&!gl.lits.contains x&&aW sc nm id scope&&K2 gl sc nm src it &&
   K2 gl (eK sc scope.names) nm i6 elt'&&ifs'.isEmpty
noncomputable def S0 (gl:Gl) (sc:List (Str×NameKind)) (nm:List Str):List E->List Expr->Bool
 | [],b9=>b9.isEmpty
 | e::es,b9=>match b9 with
  | []=>false
  | e'::b9=>K2 gl sc nm e e'&&S0 gl sc nm es b9
end
noncomputable def dT (e:E):Bool:=!(e.ctorIdx==35)
mutual
noncomputable def cN (gl:Gl) (sc:List (Str×NameKind)) (nm:List Str):S->Stmt->Bool
 | .assign x e,re=>bI re λts e' Z=>one? ts λt=>U2 t λid Z=>nm[x]? == some id&&Y3 sc id&&sc.lookup id != some .free&&!gl.lits.contains x&&K2 gl sc nm e e'&&dT e
 | .Bs o i e,re=>bI re λts e' Z=>one? ts λt=>iN t λo' i' Z=>K2 gl sc nm o o'&&K2 gl sc nm i i'&&K2 gl sc nm e e'
 | .expr e,re=>oF re λe' Z=>dT e&&K2 gl sc nm e e'
 | .ite c t f,re=>Au7 re λc' t' f' Z=>K2 gl sc nm c c'&&S8 gl sc nm t t'&&S8 gl sc nm f f'
 | .Dq c b,re=>iV re λc' b' o Z=>o.isEmpty&&(K2 gl sc nm c c'&&S8 gl sc nm b b')
 | .forIn x e b,re=>nJ re λt e' b' o Z=>o.isEmpty&&U2 t λid Z=>nm[x]? == some id&&Y3 sc id&&sc.lookup id != some .free&&!gl.lits.contains x&&K2 gl sc nm e e'&&S8 gl sc nm b b'
 | .Dc x e b,re=>nJ re λt it b' o Z=>o.isEmpty&&U2 t λid Z=>Ad3 sc "range" it λe'=>nm[x]? == some id&&Y3 sc id&&sc.lookup id != some .free&&!gl.lits.contains x&&K2 gl sc nm e e'&&S8 gl sc nm b b'
 | .ret e,re=>bG re λv Z=>some? v λe'=>K2 gl sc nm e e'
 | .Bm,re=>bG re λv Z=>v.isNone
 | .raise c m,re=>iW re λx y Z=>y.isNone&&some? x λe=>aI e λf as ks Z=>ks.isEmpty&&one? as (λa=>W1 a λk Z Z=>Ae7 m k)&&U2 f λid Z=>id==Str.ofString c&&V6 sc id&&R3 id
 | .Bf x y e b,re=>nJ re λt it b' o Z=>o.isEmpty&&fV t λts Z Z=>two? ts λt1 t2=>U2 t1 λid Z=>U2 t2 λl7 Z=>Ad3 sc "enumerate" it λe'=>(nm[x]? == some id&&Y3 sc id&&sc.lookup id != some .free&&!gl.lits.contains x)&&(nm[y]? == some l7&&Y3 sc l7&&sc.lookup l7 != some .free&&!gl.lits.contains y)&&K2 gl sc nm e e'&&S8 gl sc nm b b'
noncomputable def S8 (gl:Gl) (sc:List (Str×NameKind)) (nm:List Str):List S->List Stmt->Bool
 | [],ss'=>ss'.isEmpty
 | s::ss,ss'=>match ss' with
  | []=>false
  | s'::ss'=>cN gl sc nm s s'&&S8 gl sc nm ss ss'
end
section
variable {gl:Gl}{sc:List (Str×NameKind)}{nm:List Str}{re:Expr}
theorem Bn6 (h:K2 gl sc nm .none re=true) {P:Prop}(k:∀ k p,re=.Constant .none k p->P):P :=
 X1 h λZ u p e h =>
 k u p (e.trans (D0 (Expr.Constant · u p) (qB h)))
theorem xX {b}(h:K2 gl sc nm (.bool b) re=true) {P:Prop}(k:∀ k p,re=.Constant (.bool b) k p->P):P :=
 X1 h λZ u p e h =>
 k u p (e.trans (D0 (Expr.Constant · u p) (iF h)))
theorem Ca4 {i}(h:K2 gl sc nm (.int i) re=true) {P:Prop}(k:∀ k p,re=.Constant (.int i) k p->P):P :=
 X1 h λZ u p e h =>
 k u p (e.trans (D0 (Expr.Constant · u p) (sJ h)))
theorem uN {s}(h:K2 gl sc nm (.str s) re=true) {P:Prop}(k:∀ x k p,re=.Constant (.str x) k p->s=x.cps.toList->s.length<=P0->P):P :=
 X1 h λZ u p e h =>
 sI h λx e2 h h2 =>
 k x u p (e.trans (D0 (Expr.Constant · u p) e2)) h h2
theorem Ap9 {x}(h:K2 gl sc nm (.var x) re=true) {P:Prop}(k:∀ id p,re=.Name id p->(nm[x]? == some id&&Y3 sc id&&R3 id)=true->P):P:=R9 h k
theorem Bn8 {g i}(h:K2 gl sc nm (.glob g i) re=true) {P:Prop}(k:∀ id p,re=.Name id p->(id==Str.ofString g&&gl.Er.contains (g,i)&&V6 sc id&&R3 id)=true->P):P:=R9 h k
theorem Ca6 {o l r}(h:K2 gl sc nm (.bin o l r) re=true) {P:Prop}(k:∀ l' o' r' p,re=.BinOp l' o' r' p->(Ck7 o o'&&K2 gl sc nm l l'&&K2 gl sc nm r r')=true->P):P:=Aj5 h k
theorem Aq2 {i}(h:K2 gl sc nm (.neg i) re=true) {P:Prop}(k:∀ k p q,re=.UnaryOp .USub (.Constant (.int i) k p) q->P):P :=
 pX h λZ Z p e h =>
 X1 (E7 h).2 λZ u q e2 h3 =>
 k u q p (e.trans (qz e2 (qz (sJ h3) (qz (eq_of_beq (E7 h).1) rfl))))
theorem Aq3 {o l r}(h:K2 gl sc nm (.cmp o l r) re=true) {P:Prop}(k:∀ l' o' r' p,re=.Compare l' [o'] [r'] p->(nS o o'&&K2 gl sc nm l l'&&K2 gl sc nm r r')=true->P):P :=
 aP h λl' Z Z p e h =>
 W6 h λo' e2 h =>
 W6 h λr' e3 h =>
 k l' o' r' p (e.trans (tO e2 e3)) h
theorem xV {o p a b c}(h:K2 gl sc nm (.Dk o p a b c) re=true) {P:Prop}(k:∀ a' o' p' b' c' q,re=.Compare a' [o',p'] [b',c'] q->(nS o o'&&nS p p'&&K2 gl sc nm a a'&&K2 gl sc nm b b'&&K2 gl sc nm c c')=true->P):P :=
 aP h λl' Z Z q e h =>
 gZ h λo' p' e2 h =>
 gZ h λb' c' e3 h =>
 k l' o' p' b' c' q (e.trans (tO e2 e3)) h
theorem Bg6 {e c}(h:K2 gl sc nm (.is e c) re=true) {P:Prop}(k:∀ e' r p,re=.Compare e' [.Is] [r] p->(K2 gl sc nm e e'&&nO c r)=true->P):P :=
 aP h λl' Z Z q e h =>
 W6 h λZ e2 h =>
 W6 h λr' e3 h =>
 k l' r' q (e.trans (tO (e2.trans (D0 (λx=>[x]) (eq_of_beq (E7 h).1))) e3)) ((E7 h).2)
theorem sK {e c}(h:K2 gl sc nm (.Az e c) re=true) {P:Prop}(k:∀ e' r p,re=.Compare e' [.IsNot] [r] p->(K2 gl sc nm e e'&&nO c r)=true->P):P :=
 aP h λl' Z Z q e h =>
 W6 h λZ e2 h =>
 W6 h λr' e3 h =>
 k l' r' q (e.trans (tO (e2.trans (D0 (λx=>[x]) (eq_of_beq (E7 h).1))) e3)) ((E7 h).2)
theorem Aq4 {es}(h:K2 gl sc nm (.and es) re=true) {P:Prop}(k:∀ b9 p,re=.BoolOp .And b9 p->S0 gl sc nm es b9=true->P):P :=
 fO h λZ b9 p e h =>
 k b9 p (e.trans (D0 (Expr.BoolOp · b9 p) (eq_of_beq (E7 h).1))) ((E7 h).2)
theorem Bg5 {es}(h:K2 gl sc nm (.or es) re=true) {P:Prop}(k:∀ b9 p,re=.BoolOp .Or b9 p->S0 gl sc nm es b9=true->P):P :=
 fO h λZ b9 p e h =>
 k b9 p (e.trans (D0 (Expr.BoolOp · b9 p) (eq_of_beq (E7 h).1))) ((E7 h).2)
theorem Aq1 {e}(h:K2 gl sc nm (.not e) re=true) {P:Prop}(k:∀ e' p,re=.UnaryOp .Not e' p->K2 gl sc nm e e'=true->P):P :=
 pX h λZ b9 p e h =>
 k b9 p (e.trans (D0 (Expr.UnaryOp · b9 p) (eq_of_beq (E7 h).1))) ((E7 h).2)
theorem Ca5 {o i}(h:K2 gl sc nm (.idx o i) re=true) {P:Prop}(k:∀ o' i' p,re=.Subscript o' i' p->(K2 gl sc nm o o'&&K2 gl sc nm i i')=true->P):P:=fI h k
theorem Ca2 {o l u}(h:K2 gl sc nm (.slc o l u) re=true) {P:Prop}(k:∀ o' l' h' q p,re=.Subscript o' (.Slice (some l') (some h') none q) p->(K2 gl sc nm o o'&&K2 gl sc nm l l'&&K2 gl sc nm u h')=true->P):P :=
 fI h λo' Z p e h =>
 iC h λZ Z Z q e2 h =>
 bV (E7 h).2 λl' e3 h2 =>
 bV h2 λh' e4 h2 =>
 k o' l' h' q p (e.trans (Ae4 e2 e3 e4 (bX (E7 h).1))) h2
theorem Bn4 {o l}(h:K2 gl sc nm (.Aw o l) re=true) {P:Prop}(k:∀ o' l' q p,re=.Subscript o' (.Slice (some l') none none q) p->(K2 gl sc nm o o'&&K2 gl sc nm l l')=true->P):P :=
 fI h λo' Z p e h =>
 iC h λZ Z Z q e2 h =>
 bV (E7 h).2 λl' e3 h2 =>
 have h:=E7 (E7 h).1
 k o' l' q p (e.trans (Ae4 e2 e3 (bX h.1) (bX h.2))) h2
theorem Bn5 {o u}(h:K2 gl sc nm (.Cp o u) re=true) {P:Prop}(k:∀ o' h' q p,re=.Subscript o' (.Slice none (some h') none q) p->(K2 gl sc nm o o'&&K2 gl sc nm u h')=true->P):P :=
 fI h λo' Z p e h =>
 iC h λZ Z Z q e2 h =>
 bV (E7 h).2 λl' e3 h2 =>
 have h:=E7 (E7 h).1
 k o' l' q p (e.trans (Ae4 e2 (bX h.1) e3 (bX h.2))) h2
theorem xW {f es}(h:K2 gl sc nm (.call f es) re=true) {P:Prop}(k:∀ id p0 b9 p,re=.Call (.Name id p0) b9 [] p->(id==Str.ofString f&&tQ gl f es&&V6 sc id&&R3 id&&S0 gl sc nm es b9)=true->P):P :=
 aU h λZ b9 Z p e h =>
 R9 (E7 h).2 λid p0 e2 h2 =>
 k id p0 b9 p ((e.trans (dW rfl (V5 (E7 h).1))).trans (D0 (Expr.Call · b9 [] p) e2)) h2
theorem Aj8 {e t}(h:K2 gl sc nm (.Ae e t) re=true) {P:Prop}(k:∀ fn e' ty p,re=.Call fn [e',ty] [] p->(W7 sc "isinstance" fn&&W7 sc (Ae2 t) ty&&K2 gl sc nm e e')=true->P):P :=
 aU h λf Z Z p e h =>
 gZ (E7 h).2 λe' ty e2 h2 =>
 k f e' ty p (e.trans (dW e2 (V5 (E7 h).1))) h2
theorem m1 {n:String}(h:onM n re (λo' as=>one? as λe'=>K2 gl sc nm o o'&&K2 gl sc nm e e')=true) {P:Prop}(k:∀ o' e' ap p,re=.Call (.Attribute o' (Str.ofString n) ap) [e'] [] p->(ap.endLine==p.line)=true->wG o'=true->K2 gl sc nm o o'=true->K2 gl sc nm e e'=true->P):P :=
 tH h λo' Z ap p e1 h2 h3 h =>
 W6 h λe' e2 h =>
 k o' e' ap p (e1.trans (dW e2 rfl)) h2 h3 (E7 h).1 (E7 h).2
theorem Ca3 {o}(h:K2 gl sc nm (.pop o) re=true) {P:Prop}(k:∀ o' ap p,re=.Call (.Attribute o' (Str.ofString "pop") ap) [] [] p->(ap.endLine==p.line)=true->wG o'=true->K2 gl sc nm o o'=true->P):P :=
 tH h λo' Z ap p e1 h2 h3 h =>
 k o' ap p (e1.trans (dW (V5 (E7 h).1) rfl)) h2 h3 ((E7 h).2)
theorem Bo0 {o x y}(h:K2 gl sc nm (.find o x y) re=true) {P:Prop}(k:∀ o' x' y' ap p,re=.Call (.Attribute o' (Str.ofString "find") ap) [x',y'] [] p->(ap.endLine==p.line)=true->wG o'=true->K2 gl sc nm o o'=true->K2 gl sc nm x x'=true->K2 gl sc nm y y'=true->P):P :=
 tH h λo' Z ap p e1 h2 h3 h =>
 gZ h λx' y' e2 h =>
 have h6:=E7 h
 have h5:=E7 h6.1
 k o' x' y' ap p (e1.trans (dW e2 rfl)) h2 h3 h5.1 h5.2 h6.2
theorem Aa1 {o x y}(h:K2 gl sc nm (.replace o x y) re=true) {P:Prop}(k:∀ o' x' y' ap p,re=.Call (.Attribute o' (Str.ofString "replace") ap) [x',y'] [] p->(ap.endLine==p.line)=true->wG o'=true->An3 gl x=true->hV y=true->K2 gl sc nm o o'=true->K2 gl sc nm x x'=true->K2 gl sc nm y y'=true->P):P :=
 tH h λo' Z ap p e1 h2 h3 h =>
 gZ h λx' y' e2 h =>
 have h6:=E7 h
 have h5:=E7 h6.1
 have h4:=E7 h5.1
 have h7:=E7 h4.1
 k o' x' y' ap p (e1.trans (dW e2 rfl)) h2 h3 h7.1 h7.2 h4.2 h5.2 h6.2
theorem Bn7 {es}(h:K2 gl sc nm (.list es) re=true) {P:Prop}(k:∀ b9 p,re=.List b9 p->(S0 gl sc nm es b9&&decide (es.length<=P0))=true->P):P:=Ay0 h k
theorem Ca1 {es}(h:K2 gl sc nm (.tup es) re=true) {P:Prop}(k:∀ b9 k p,re=.Tuple b9 k p->(S0 gl sc nm es b9&&decide (es.length<=P0))=true->P):P:=pY h k
theorem Bo1 {i6 x src}(h:K2 gl sc nm (.comp i6 x src) re=true) {P:Prop}(k:∀ elt' id px it scope p,re=.ListComp elt' [⟨.Name id px,it,[],0⟩] scope p->(nm[x]? == some id&&!gl.lits.contains x&&aW sc nm id scope&&K2 gl sc nm src it&&K2 gl (eK sc scope.names) nm i6 elt')=true->P):P :=
 Ay3 h λelt' Z scope p e h =>
 Bn3 h λid px it ifs' e2 h =>
 k elt' id px it scope p (e.trans (D0 (Expr.ListComp elt' · scope p) (e2.trans (qz (List.isEmpty_iff.mp (E7 h).2) rfl)))) (E7 h).1
theorem Aj9 {b9}(h:S0 gl sc nm [] b9=true):b9=[]:=V5 h
theorem Aa3 {e es b9}(h:S0 gl sc nm (e::es) b9=true):∃ re rest,b9=re::rest/\K2 gl sc nm e re=true/\S0 gl sc nm es rest=true:=by
 match b9,h with
 | re::rest,h=>exact ⟨re,rest,rfl,E7 h⟩
theorem iE {e es re rest}(h:K2 gl sc nm e re=true) (h2:S0 gl sc nm es rest=true):S0 gl sc nm (e::es) (re::rest)=true:=by
 show (K2 gl sc nm e re&&S0 gl sc nm es rest)=true
 refine qz h (qz h2 ?_);rfl
noncomputable def Ch2:List Nat:=[0,2,3,8,15,16,19,20,21,23,24,25]
noncomputable def Bf8 (re:Expr):Bool:=![0,15].contains re.ctorIdx&&!(bW re λo Z Z=>o==.Not)
noncomputable def Bx (e:E):Bool:=![8,9,10,11,12,13,14].contains e.ctorIdx
structure KOk (e:E) (re:Expr):Prop where
 Dt:Ch2.contains re.ctorIdx=true
 comp:dT e=true->(re.ctorIdx==8)=false
 test:Bx e=true->Bf8 re=true
theorem KOk.of (h:re.ctorIdx=k) (h1:Ch2.contains k=true) (h2:dT e=true->(k==8)=false) (h3:Bx e=true->[0,3,15].contains k=false):KOk e re:=by
 refine ⟨h▸h1,h▸h2,λhp=>?_⟩
 have h4:=h3 hp
 rw [<- h] at h4
 have h5:re.ctorIdx≠3:=λe=>by rw [e] at h4;cases h4
 have h6:[0,15].contains re.ctorIdx=false:=by
  simp only [List.contains_cons,List.contains_nil,Bool.or_eq_false_iff] at h4 ⊢
  exact ⟨h4.1,h4.2.2.1,trivial⟩
 unfold Bf8 bW
 refine qz (dif_neg h5) (qz h6 ?_);rfl
theorem lK:∀ {e:E},K2 gl sc nm e re=true->KOk e re
 | .none=>λh=>.of (k:=19) (aD h) rfl (λZ=>rfl) (λZ=>rfl)
 | .bool _=>λh=>.of (k:=19) (aD h) rfl (λZ=>rfl) (λZ=>rfl)
 | .int _=>λh=>.of (k:=19) (aD h) rfl (λZ=>rfl) (λZ=>rfl)
 | .str _=>λh=>.of (k:=19) (aD h) rfl (λZ=>rfl) (λZ=>rfl)
 | .var _=>λh=>.of (k:=23) (iD h) rfl (λZ=>rfl) (λZ=>rfl)
 | .glob _ _=>λh=>.of (k:=23) (iD h) rfl (λZ=>rfl) (λZ=>rfl)
 | .bin _ _ _=>λh=>.of (k:=2) (lY h) rfl (λZ=>rfl) (λZ=>rfl)
 | .neg _=>λh=>Aq2 h λZ Z Z e=>e▸⟨rfl,λZ=>rfl,λZ=>rfl⟩
 | .cmp _ _ _=>λh=>.of (k:=15) (W0 h) rfl (λZ=>rfl) (λh=>xF h)
 | .Dk _ _ _ _ _=>λh=>.of (k:=15) (W0 h) rfl (λZ=>rfl) (λh=>xF h)
 | .is _ _=>λh=>.of (k:=15) (W0 h) rfl (λZ=>rfl) (λh=>xF h)
 | .Az _ _=>λh=>.of (k:=15) (W0 h) rfl (λZ=>rfl) (λh=>xF h)
 | .and _=>λh=>.of (k:=0) (eH h) rfl (λZ=>rfl) (λh=>xF h)
 | .or _=>λh=>.of (k:=0) (eH h) rfl (λZ=>rfl) (λh=>xF h)
 | .not _=>λh=>.of (k:=3) (lW h) rfl (λZ=>rfl) (λh=>xF h)
 | .idx _ _=>λh=>.of (k:=21) (dH h) rfl (λZ=>rfl) (λZ=>rfl)
 | .slc _ _ _=>λh=>.of (k:=21) (dH h) rfl (λZ=>rfl) (λZ=>rfl)
 | .Aw _ _=>λh=>.of (k:=21) (dH h) rfl (λZ=>rfl) (λZ=>rfl)
 | .Cp _ _=>λh=>.of (k:=21) (dH h) rfl (λZ=>rfl) (λZ=>rfl)
 | .call _ _=>λh=>.of (k:=16) (P3 h) rfl (λZ=>rfl) (λZ=>rfl)
 | .Ae _ _=>λh=>.of (k:=16) (P3 h) rfl (λZ=>rfl) (λZ=>rfl)
 | .len _=>λh=>.of (k:=16) (P3 h) rfl (λZ=>rfl) (λZ=>rfl)
 | .toInt _=>λh=>.of (k:=16) (P3 h) rfl (λZ=>rfl) (λZ=>rfl)
 | .ord _=>λh=>.of (k:=16) (P3 h) rfl (λZ=>rfl) (λZ=>rfl)
 | .listOf _=>λh=>.of (k:=16) (P3 h) rfl (λZ=>rfl) (λZ=>rfl)
 | .append _ _=>λh=>.of (k:=16) (P3 h) rfl (λZ=>rfl) (λZ=>rfl)
 | .extend _ _=>λh=>.of (k:=16) (P3 h) rfl (λZ=>rfl) (λZ=>rfl)
 | .pop _=>λh=>.of (k:=16) (P3 h) rfl (λZ=>rfl) (λZ=>rfl)
 | .find _ _ _=>λh=>.of (k:=16) (P3 h) rfl (λZ=>rfl) (λZ=>rfl)
 | .replace _ _ _=>λh=>.of (k:=16) (P3 h) rfl (λZ=>rfl) (λZ=>rfl)
 | .join _ _=>λh=>.of (k:=16) (P3 h) rfl (λZ=>rfl) (λZ=>rfl)
 | .split _ _=>λh=>.of (k:=16) (P3 h) rfl (λZ=>rfl) (λZ=>rfl)
 | .list _=>λh=>.of (k:=24) (pZ h) rfl (λZ=>rfl) (λZ=>rfl)
 | .tup _=>λh=>.of (k:=25) (lX h) rfl (λZ=>rfl) (λZ=>rfl)
 | .comp _ _ _=>λh=>.of (k:=8) (qA h) rfl (λh=>xF h) (λZ=>rfl)
 | .lstrip _ _=>λh=>.of (k:=16) (P3 h) rfl (λZ=>rfl) (λZ=>rfl)
theorem Ay6 (h:An3 gl e=true):((hV e&&gl.pos)=true)∨∃ x,e=.var x/\gl.lits.contains x=true:=by
 cases h1:(hV e&&gl.pos)
 ·right
  unfold An3 at h
  rw [h1,Bool.false_or] at h
  by_cases hk:e.ctorIdx=4
  ·revert h
   exact E.var.elim (motive_1:=λe=>(if h:e.ctorIdx=4 then E.var.elim (motive_1:=λZ=>Bool) e h λx=>gl.lits.contains x else false)=true->∃ x,e=.var x/\gl.lits.contains x=true) e hk λx h=>⟨x,rfl,h⟩
  ·rw [dif_neg hk] at h;cases h
 ·exact Or.inl rfl
theorem mM (h:hV e=true):∃ l,e=.str l :=
 E.str.elim (motive_1:=λe=>∃ l,e=.str l) e (eq_of_beq h) λl=>⟨l,rfl⟩
end
section
variable {gl:Gl}{sc:List (Str×NameKind)}{nm:List Str}{re:Stmt}
theorem Ak0 {x e}(h:cN gl sc nm (.assign x e) re=true) {P:Prop}(k:∀ id p e' p',re=.Assign [.Name id p] e' p'->(nm[x]? == some id&&Y3 sc id&&sc.lookup id != some .free&&!gl.lits.contains x&&K2 gl sc nm e e'&&dT e)=true->P):P :=
 lZ h λZ e' p' e1 h =>
 W6 h λZ e2 h =>
 R9 h λid p e3 h =>
 k id p e' p' (e1.trans (D0 (Stmt.Assign · e' p') (e2.trans (D0 (λx=>[x]) e3)))) h
theorem Aj7 {o i e}(h:cN gl sc nm (.Bs o i e) re=true) {P:Prop}(k:∀ o' i' p e' p',re=.Assign [.Subscript o' i' p] e' p'->(K2 gl sc nm o o'&&K2 gl sc nm i i'&&K2 gl sc nm e e')=true->P):P :=
 lZ h λZ e' p' e1 h =>
 W6 h λZ e2 h =>
 fI h λo' i' p e3 h =>
 k o' i' p e' p' (e1.trans (D0 (Stmt.Assign · e' p') (e2.trans (D0 (λx=>[x]) e3)))) h
theorem xU {e}(h:cN gl sc nm (.expr e) re=true) {P:Prop}(k:∀ e' p,re=.Expr e' p->(dT e&&K2 gl sc nm e e')=true->P):P:=Ay2 h k
theorem uO {c t f}(h:cN gl sc nm (.ite c t f) re=true) {P:Prop}(k:∀ c' t' f' p,re=.If c' t' f' p->(K2 gl sc nm c c'&&S8 gl sc nm t t'&&S8 gl sc nm f f')=true->P):P:=Ap8 h k
theorem Ca0 {c b}(h:cN gl sc nm (.Dq c b) re=true) {P:Prop}(k:∀ c' b' p,re=.While c' b' [] p->(K2 gl sc nm c c'&&S8 gl sc nm b b')=true->P):P :=
 Aj2 h λc' b' Z p e h =>
 k c' b' p (e.trans (D0 (Stmt.While c' b' · p) (V5 (E7 h).1))) ((E7 h).2)
theorem Ae9 (h1:t=t') (h2:it=it') (h3:o=[]):Stmt.For t it b o p=.For t' it' b [] p:=qz h1 (qz h2 (qz h3 rfl))
theorem Ay8 {x e b}(h:cN gl sc nm (.forIn x e b) re=true) {P:Prop}(k:∀ id p e' b' p',re=.For (.Name id p) e' b' [] p'->(nm[x]? == some id&&Y3 sc id&&sc.lookup id != some .free&&!gl.lits.contains x&&K2 gl sc nm e e'&&S8 gl sc nm b b')=true->P):P :=
 oZ h λZ e' b' Z p' e1 h =>
 R9 (E7 h).2 λid p e2 h2 =>
 k id p e' b' p' (e1.trans (Ae9 e2 rfl (V5 (E7 h).1))) h2
theorem Bn9 {x e b}(h:cN gl sc nm (.Dc x e b) re=true) {P:Prop}(k:∀ id p fn e' pp b' p',re=.For (.Name id p) (.Call fn [e'] [] pp) b' [] p'->W7 sc "range" fn=true->(nm[x]? == some id&&Y3 sc id&&sc.lookup id != some .free&&!gl.lits.contains x&&K2 gl sc nm e e'&&S8 gl sc nm b b')=true->P):P :=
 oZ h λZ Z b' Z p' e1 h =>
 R9 (E7 h).2 λid p e2 h2 =>
 fW h2 λfn n' pp e3 h1 h3 =>
 k id p fn n' pp b' p' (e1.trans (Ae9 e2 e3 (V5 (E7 h).1))) h1 h3
theorem Aa2 {x y e b}(h:cN gl sc nm (.Bf x y e b) re=true) {P:Prop}(k:∀ id p l7 p' u pt fn e' pp b' p'',re=.For (.Tuple [.Name id p,.Name l7 p'] u pt) (.Call fn [e'] [] pp) b' [] p''->W7 sc "enumerate" fn=true->((nm[x]? == some id&&Y3 sc id&&sc.lookup id != some .free&&!gl.lits.contains x)&&(nm[y]? == some l7&&Y3 sc l7&&sc.lookup l7 != some .free&&!gl.lits.contains y)&&K2 gl sc nm e e'&&S8 gl sc nm b b')=true->P):P :=
 oZ h λZ Z b' Z p'' e1 h =>
 pY (E7 h).2 λZ u pt e2 h2 =>
 gZ h2 λZ Z e3 h3 =>
 R9 h3 λid p e4 h4 =>
 R9 h4 λl7 p' e5 h5 =>
 fW h5 λfn n' pp e6 h1 h6 =>
 k id p l7 p' u pt fn n' pp b' p'' (e1.trans (Ae9 (qz e2 (qz e3 (qz e4 (qz e5 rfl)))) e6 (V5 (E7 h).1))) h1 h6
theorem Aq0 {e}(h:cN gl sc nm (.ret e) re=true) {P:Prop}(k:∀ e' p,re=.Return (some e') p->K2 gl sc nm e e'=true->P):P :=
 fN h λZ p e1 h =>
 bV h λe' e2 h =>
 k e' p (e1.trans (D0 (Stmt.Return · p) e2)) h
theorem Aa0 (h:cN gl sc nm .Bm re=true) {P:Prop}(k:∀ p,re=.Return none p->P):P :=
 fN h λZ p e1 h =>
 k p (e1.trans (D0 (Stmt.Return · p) (bX h)))
theorem qC {b9}(h:S8 gl sc nm [] b9=true):b9=[]:=V5 h
theorem V1 {e es b9}(h:S8 gl sc nm (e::es) b9=true):∃ re rest,b9=re::rest/\cN gl sc nm e re=true/\S8 gl sc nm es rest=true:=by
 match b9,h with
 | re::rest,h=>exact ⟨re,rest,rfl,E7 h⟩
end
noncomputable def tJ:List Str->Bool
 | []=>true
 | x::l=>!l.contains x&&tJ l
noncomputable def Bg4 (scope:Scope):Bool:=scope.kind==.function&&!scope.isGenerator&&!scope.isCoroutine&&scope.names.all λx=>x.2 != .free
noncomputable def xY (params:Arguments) (scope:Scope):Bool:=match params.args with
 | a::_=>scope.names.lookup a.arg==some .local
 | []=>false
noncomputable def iO (gl:Gl) (fn:Fn) (params:Arguments) (body:List Stmt) (scope:Scope):Bool :=
 Bg4 scope&&tJ (fn.names.map Str.ofString)&&decide (fn.params<=fn.names.length) &&
 params.posonlyargs.isEmpty&&params.vararg.isNone&&params.kwonlyargs.isEmpty&&params.kwarg.isNone&&params.defaults.isEmpty&&params.kw_defaults.isEmpty &&
 (params.args.map (·.arg)==(fn.names.take fn.params).map Str.ofString)&&(params.args.all λa=>scope.names.lookup a.arg==some .local||scope.names.lookup a.arg==some .cell) &&
 fn.lits.all (λj=>decide (j<fn.params))&&(!fn.bump||xY params scope)&&S8 { gl with lits:=fn.lits } scope.names (fn.names.map Str.ofString) fn.body body
end Aa
namespace Aa
abbrev aK:=String->List V->(Heap->Prop)->Heap->Prop
noncomputable def rzE (C:Calls) (RC:aK) (e:E) (ρ:M6) (R:Heap->Prop) (H:Heap):Prop:=∃ f es,e=.call f es/\V2 C es ρ (λvs Hw=>RC f vs R Hw) H
noncomputable def rzS (C:Calls) (RC:aK) (c:String) (st:S) (ρ:M6) (R:Heap->Prop) (H:Heap):Prop :=
 (∃ e,st=.expr e/\rzE C RC e ρ R H)∨∃ e m,st=.ite e [.raise c m] []/\L0 C e ρ (λv Hw=>Bb (O4 v) (λb Hw=>b=true/\R Hw) Hw) H
noncomputable def Ad1 (C:Calls) (RC:aK) (c:String):List S->M6->(Heap->Prop)->Heap->Prop
 | []=>λZ Z Z=>False
 | s::ss=>λρ R H=>rzS C RC c s ρ R H∨lE C s ρ (λfl ρ' Hw=>fl=.next/\Ad1 C RC c ss ρ' R Hw) H
noncomputable def cE (P:Prg) (c:String):Nat->aK
 | 0,_,_,_,_=>False
 | n+1,f,vs,R,H=>match P f with
  | some fn=>vs.length=fn.params/\Ad1 (Ac P n) (cE P c n) c fn.body (frame fn vs) R H
  | Option.none=>False
noncomputable def Au6 (C:Calls) (RC:aK) (pre:List S) (t e1 e2:E) (ρ:M6) (R:Heap->Prop) (H:Heap):Prop :=
 K1 C pre ρ (λfl ρ' Hw=>fl=.next/\L0 C t ρ' (λv Hz=>Bb (O4 v) (λb Hz=>match b with
  | true=>rzE C RC e1 ρ' R Hz
  | false=>rzE C RC e2 ρ' R Hz) Hz) Hw) H
noncomputable def Ck9 (P:Prg) (c:String) (n:Nat) (pre:List S) (t:E) (fn:Fn) (tr e1 e2:E) (es:List E) (e3:E) (rest:List S) (ρ:M6) (Q:F8) (H:Heap):Prop :=
 K1 (Ac P (n+1)) pre ρ (λfl ρ' Hw=>fl=.next/\L0 (Ac P (n+1)) t ρ' (λv Hz=>Bb (O4 v) (λb Hz=>match b with
  | true=>V2 (Ac P (n+1)) es ρ' (λvs Hv=>vs.length=fn.params/\Au6 (Ac P n) (cE P c n) fn.body tr e1 e2 (frame fn vs) (λHy=>L0 (Ac P (n+1)) e3 ρ' Q Hy) Hv) Hz
  | false=>K1 (Ac P (n+1)) rest ρ' (λfl Z Hv=>∃ v,fl=.ret v/\Q v Hv) Hz) Hz) Hw) H
section
variable {C:Calls}{RC:aK}{c:String}{ρ:M6}{R:Heap->Prop}{H:Heap}
theorem uK (h:rzS C RC c s ρ R H):Ad1 C RC c (s::ss) ρ R H:=Or.inl h
theorem mO (h:V2 C es ρ (λvs Hw=>RC f vs R Hw) H):rzE C RC (.call f es) ρ R H:=⟨f,es,rfl,h⟩
theorem Cn8 (h:L0 C e ρ (λv Hw=>Bb (O4 v) (λb Hw=>b=true/\R Hw) Hw) H):rzS C RC c (.ite e [.raise c m] []) ρ R H:=Or.inr ⟨e,m,rfl,h⟩
end
end Aa
namespace Aa
open PySem (Expr Stmt Str NameKind Scope Const Operator CmpOp BoolOp UnaryOp Arguments Comprehension Keyword Pos ExceptHandler)
theorem Ay7 {gl:Gl}(h:cN gl sc nm (.raise c m) re=true) {P:Prop}
  (k:∀ id np x k cp cpos pos,re=.Raise (some (.Call (.Name id np) [.Constant (.str x) k cp] [] cpos)) none pos->id=Str.ofString c->V6 sc id=true->R3 id=true->x.cps.toList.length<=P0->P):P :=
 Aj3 h λa b pos e1 h1 =>
 bV (E7 h1).2 λe e2 h2 =>
 aU h2 λf as ks cpos e3 h3 =>
 W6 (E7 (E7 h3).1).2 λa1 e4 h4 =>
 X1 h4 λkk u cp e5 h5 =>
 sI h5 λx e6 h6 h7 =>
 R9 (E7 h3).2 λid np e7 h8 =>
 k id np x u cp cpos pos (e1.trans (by rw [bX (E7 h1).1,e2,e3,e4,e5,e6,e7,V5 (E7 (E7 h3).1).1])) (eq_of_beq (E7 (E7 h8).1).1) (E7 (E7 h8).1).2 (E7 h8).2 (by rw [<- h6];exact h7)
noncomputable def Cg9 (x:ExceptHandler) (q:Option Expr->Option Str->List Stmt->Bool):Bool:=match x with
 | .ExceptHandler t n b _=>q t n b
theorem Bn2 {x:ExceptHandler}{q:Option Expr->Option Str->List Stmt->Bool}{P:Prop}(h:Cg9 x q=true) (k:∀ t n b p,x=.ExceptHandler t n b p->q t n b=true->P):P:=by
 cases x with
 | ExceptHandler t n b p=>exact k t n b p rfl h
noncomputable def tP (gl:Gl) (sc:List (Str×NameKind)) (nm:List Str) (c:String) (b:S) (h post:List S) (ss:List Stmt):Bool:=match ss with
 | st::rest=>wO st (λb' hs o f Z=>one? b' (λb1=>cN gl sc nm b b1)&&o.isEmpty&&f.isEmpty&&one? hs λx=>Cg9 x λt n hb=>n.isNone&&S8 gl sc nm h hb&&!hb.isEmpty&&some? t λte=>U2 te λid Z=>id==Str.ofString c&&V6 sc id&&R3 id)&&S8 gl sc nm post rest
 | []=>false
theorem Az0 {gl:Gl}(hc:tP gl sc nm c b h post ss=true) {P:Prop}
  (k:∀ b1 id np h0 hs hp p rest,ss=.Try [b1] [.ExceptHandler (some (.Name id np)) none (h0::hs) hp] [] [] p::rest->cN gl sc nm b b1=true->id=Str.ofString c->V6 sc id=true->R3 id=true->S8 gl sc nm h (h0::hs)=true->S8 gl sc nm post rest=true->P):P:=by
 cases ss with
 | nil=>exact xF (show false=true from hc)
 | cons st rest =>
  replace hc:=E7 hc
  refine Bm9 hc.1 λb' hs o f p e1 h1=>?_
  replace h1:=E7 h1
  refine W6 (E7 (E7 h1.1).1).1 λb1 e2 h2=>?_
  refine W6 h1.2 λx e3 h3=>?_
  refine Bn2 h3 λt n hb hp e4 h4=>?_
  replace h4:=E7 h4
  refine bV h4.2 λte e5 h5=>?_
  refine R9 h5 λid np e6 h6=>?_
  have h7:=E7 h4.1
  have h8:=E7 h7.1
  cases hb with
  | nil=>exact xF (show false=true from h7.2)
  | cons h0 hs' =>
   exact k b1 id np h0 hs' hp p rest (by rw [e1,e2,e3,e4,e5,e6,bX h8.1,V5 (E7 (E7 h1.1).1).2,V5 (E7 h1.1).2]) h2 (eq_of_beq (E7 (E7 h6).1).1) (E7 (E7 h6).1).2 (E7 h6).2 h8.2 hc.2
end Aa
namespace Aa
section
variable {C:Calls}{ρ:M6}{Q:F8}{H:Heap}
theorem Bf3 {x}(h:L0 C (.var x) ρ Q H):match ρ[x]? with
  | some (some v)=>Q v H
  | _=>False:=h
theorem Bz4 {a0 i}(h:L0 C (.glob a0 i) ρ Q H):Q (.int i) H:=h
theorem Cn6 {o l r}(h:L0 C (.bin o l r) ρ Q H):L0 C l ρ (λa Hw=>L0 C r ρ (λb Hz=>res (eR o a b Hz) Q) Hw) H:=h
theorem Cn3 {i}(h:L0 C (.neg i) ρ Q H):Q (.int (-i)) H:=h
theorem Bf5 {o l r}(h:L0 C (.cmp o l r) ρ Q H):L0 C l ρ (λa Hw=>L0 C r ρ (λb Hz=>Bb (W5 o a b Hz) (λb H=>Q (.bool b) H) Hz) Hw) H:=h
theorem Ap7 {o6 o0 a b c}(h:L0 C (.Dk o6 o0 a b c) ρ Q H):L0 C a ρ (λva Hw=>L0 C b ρ (λvb Hz=>Bb (W5 o6 va vb Hz) (λt Hz=>match t with
   | true=>L0 C c ρ (λvc Hv=>Bb (W5 o0 vb vc Hv) (λb H=>Q (.bool b) H) Hv) Hz
   | false=>Q (.bool false) Hz) Hz) Hw) H:=h
theorem Cg7 {e c}(h:L0 C (.is e c) ρ Q H):L0 C e ρ (λv Hw=>Q (.bool (isV v c)) Hw) H:=h
theorem xR {e c}(h:L0 C (.Az e c) ρ Q H):L0 C e ρ (λv Hw=>Q (.bool (!isV v c)) Hw) H:=h
theorem Bf6 {es}(h:L0 C (.and es) ρ Q H):lJ C es ρ Q H:=h
theorem Cg6 {es}(h:L0 C (.or es) ρ Q H):wF C es ρ Q H:=h
theorem Bf4 {e}(h:L0 C (.not e) ρ Q H):L0 C e ρ (λv Hw=>Bb (O4 v) (λb H=>Q (.bool (!b)) H) Hw) H:=h
theorem Cn5 {o i}(h:L0 C (.idx o i) ρ Q H):L0 C o ρ (λvo Hw=>L0 C i ρ (λvi Hz=>val (cL vo vi Hz) Q Hz) Hw) H:=h
theorem Cn0 {o l u}(h:L0 C (.slc o l u) ρ Q H):L0 C o ρ (λvo Hw=>L0 C l ρ (λvl Hz=>L0 C u ρ (λvh Hv=>match vl,vh with
   | .int a,.int b=>res (cK vo (some a) (some b) Hv) Q
   | _,_=>False) Hz) Hw) H:=h
theorem Bz0 {o l}(h:L0 C (.Aw o l) ρ Q H):L0 C o ρ (λvo Hw=>L0 C l ρ (λvl Hz=>match vl with
   | .int a=>res (cK vo (some a) Option.none Hz) Q
   | _=>False) Hw) H:=h
theorem Bz1 {o u}(h:L0 C (.Cp o u) ρ Q H):L0 C o ρ (λvo Hw=>L0 C u ρ (λvh Hz=>match vh with
   | .int a=>res (cK vo Option.none (some a) Hz) Q
   | _=>False) Hw) H:=h
theorem Bz7 {f es}(h:L0 C (.call f es) ρ Q H):V2 C es ρ (λvs Hw=>C f vs Q Hw) H:=h
theorem Ax4 {e t}(h:L0 C (.Ae e t) ρ Q H):L0 C e ρ (λv Hw=>Q (.bool (dU v t)) Hw) H:=h
theorem Cn4 {e}(h:L0 C (.len e) ρ Q H):L0 C e ρ (λv Hw=>val ((qX v Hw).map .int) Q Hw) H:=h
theorem Bm4 {e}(h:L0 C (.toInt e) ρ Q H):L0 C e ρ (λv Hw=>match v with
   | .bool b=>Q (.int (if b then 1 else 0)) Hw
   | _=>False) H:=h
theorem Cn2 {e}(h:L0 C (.ord e) ρ Q H):L0 C e ρ (λv Hw=>match v with
   | .str [c]=>Q (.int (c:Int)) Hw
   | _=>False) H:=h
theorem Ax3 {e}(h:L0 C (.listOf e) ρ Q H):L0 C e ρ (λv Hw=>match v with
   | .ref a=>match Hw[a]? with
    | some l=>Q (.ref Hw.length) (Hw++[l])
    | Option.none=>False
   | .tup l=>Q (.ref Hw.length) (Hw++[l])
   | _=>False) H:=h
theorem Ax6 {o e}(h:L0 C (.append o e) ρ Q H):L0 C o ρ (λvo Hw=>match vo with
   | .ref a=>L0 C e ρ (λv Hz=>Cy (W2 (.ref a) v Hz) Q) Hw
   | _=>False) H:=h
theorem Ax5 {o e}(h:L0 C (.extend o e) ρ Q H):L0 C o ρ (λvo Hw=>match vo with
   | .ref a=>L0 C e ρ (λv Hz=>Cy (uP (.ref a) v Hz) Q) Hw
   | _=>False) H:=h
theorem Cn1 {o}(h:L0 C (.pop o) ρ Q H):L0 C o ρ (λvo Hw=>match vo with
   | .ref a=>res (Ad2 (.ref a) Hw) Q
   | _=>False) H:=h
theorem Bz5 {o a b}(h:L0 C (.find o a b) ρ Q H):L0 C o ρ (λvo Hw=>match vo with
   | .str s=>L0 C a ρ (λva Hz=>L0 C b ρ (λvb Hv=>Bc8 s va vb Q Hv) Hz) Hw
   | _=>False) H:=h
theorem Aj1 {o a b}(h:L0 C (.replace o a b) ρ Q H):L0 C o ρ (λvo Hw=>match vo with
   | .str s=>L0 C a ρ (λva Hz=>L0 C b ρ (λvb Hv=>jM s va vb Q Hv) Hz) Hw
   | _=>False) H:=h
theorem Bz3 {o a}(h:L0 C (.join o a) ρ Q H):L0 C o ρ (λvo Hw=>match vo with
   | .str s=>L0 C a ρ (λva Hz=>lL s va Q Hz) Hw
   | _=>False) H:=h
theorem Bm5 {o a}(h:L0 C (.split o a) ρ Q H):L0 C o ρ (λvo Hw=>match vo with
   | .str s=>L0 C a ρ (λva Hz=>Ae3 s va Q Hz) Hw
   | _=>False) H:=h
theorem Ax2 {o a}(h:L0 C (.lstrip o a) ρ Q H):L0 C o ρ (λvo Hw=>match vo with
   | .str s=>L0 C a ρ (λva Hz=>uL s va Q Hz) Hw
   | _=>False) H:=h
theorem Bz2 {es}(h:L0 C (.list es) ρ Q H):V2 C es ρ (λvs Hw=>Q (.ref Hw.length) (Hw++[vs])) H:=h
theorem Cm9 {es}(h:L0 C (.tup es) ρ Q H):V2 C es ρ (λvs Hw=>Q (.tup vs) Hw) H:=h
theorem Bz6 {i6 x src}(h:L0 C (.comp i6 x src) ρ Q H):L0 C src ρ (λv Hw=>match cP v with
   | some it=>∃ n,bS (L0 C i6) x ρ it n 0 [] (λvs Hz=>Q (.ref Hz.length) (Hz++[vs])) Hw
   | Option.none=>False) H:=h
end
section
variable {C:Calls}{ρ:M6}{Q:O3}{H:Heap}
theorem Ax1 {x e}(h:lE C (.assign x e) ρ Q H):L0 C e ρ (λv Hw=>Q .next (ρ.set x (some v)) Hw) H:=h
theorem Ax0 {o i e}(h:lE C (.Bs o i e) ρ Q H):L0 C e ρ (λv Hw=>L0 C o ρ (λvo Hz=>L0 C i ρ (λvi Hv=>Cy (Ck6 vo vi v Hv) (λZ Hy=>Q .next ρ Hy)) Hz) Hw) H:=h
theorem By9 {e}(h:lE C (.expr e) ρ Q H):L0 C e ρ (λZ Hw=>Q .next ρ Hw) H:=h
theorem Cm8 {c t f}(h:lE C (.ite c t f) ρ Q H):L0 C c ρ (λv Hw=>Bb (O4 v) (λb Hw=>match b with
   | true=>K1 C t ρ Q Hw
   | false=>K1 C f ρ Q Hw) Hw) H:=h
theorem Cm6 {c b}(h:lE C (.Dq c b) ρ Q H):∃ n,kE (L0 C c) (K1 C b) n ρ Q H:=h
theorem Bm3 {x e b}(h:lE C (.forIn x e b) ρ Q H):L0 C e ρ (λv Hw=>match cP v with
   | some it=>∃ n,cM (K1 C b) x it n 0 ρ Q Hw
   | Option.none=>False) H:=h
theorem By8 {x e b}(h:lE C (.Dc x e b) ρ Q H):L0 C e ρ (λv Hw=>match cF v with
   | some it=>∃ n,cM (K1 C b) x it n 0 ρ Q Hw
   | Option.none=>False) H:=h
theorem Aj0 {x y e b}(h:lE C (.Bf x y e b) ρ Q H):L0 C e ρ (λv Hw=>match v with
   | .ref a=>∃ n,lM (K1 C b) x y (.lst a) n 0 ρ Q Hw
   | _=>False) H:=h
theorem Cm7 {e}(h:lE C (.ret e) ρ Q H):L0 C e ρ (λv Hw=>Q (.ret v) ρ Hw) H:=h
theorem Ai9 (h:lE C .Bm ρ Q H):Q (.ret .none) ρ H:=h
theorem Bm2 {a0 a1}(h:lE C (.raise a0 a1) ρ Q H):False:=h
theorem Bf2 (h:K1 C [] ρ Q H):Q .next ρ H:=h
theorem Ap6 {s ss}(h:K1 C (s::ss) ρ Q H):lE C s ρ (λfl ρ' Hw=>match fl with
   | .next=>K1 C ss ρ' Q Hw
   | fl=>Q fl ρ' Hw) H:=h
theorem Cn7 {Q:List V->Heap->Prop}(h:V2 C [] ρ Q H):Q [] H:=h
theorem Bz8 {Q:List V->Heap->Prop}{e es}(h:V2 C (e::es) ρ Q H):L0 C e ρ (λv Hw=>V2 C es ρ (λvs Hz=>Q (v::vs) Hz) Hw) H:=h
end
end Aa
namespace L11
open PySem PySem.W PyProof.Rows
noncomputable abbrev pr:Program:=PySem.Challenge.pw_uf010012_11
noncomputable def plainS (s:Stmt):Bool:=!(Aa.bI s λts Z Z=>Aa.one? ts λt=>Aa.U2 t λid Z=>id==Str.ofString "__name__")
noncomputable def vw:Program:={ pr with main:={ pr.main with body:=pr.main.body.filter plainS } }
theorem Cy3 {σ A1 A2 A5 B:Type}{o:Option σ}{c1:σ->A1}{c2:σ->A2}{c3 c4:σ->Bool}{c5:σ->A5}{y:σ->B}{a1:A1}{a2:A2}{a5:A5}{b:B}(hA:o.map (λs=>(c1 s,c2 s))=some (a1,a2)) (hB:o.map c3=some true) (hT:o.map c4=some true) (hC:o.map (λs=>(c5 s,y s))=some (a5,b)):o.map (λs=>((c1 s,c2 s,c3 s,c4 s,c5 s),y s))=some ((a1,a2,true,true,a5),b):=by
 cases o with
 | none=>cases hB
 | some s =>
  obtain ⟨e1,e2⟩:=Prod.mk.inj (Option.some.inj hA)
  obtain ⟨e5,e6⟩:=Prod.mk.inj (Option.some.inj hC)
  have e3:c3 s=true:=Option.some.inj hB
  have e4:c4 s=true:=Option.some.inj hT
  show some ((c1 s,c2 s,c3 s,c4 s,c5 s),y s)=_
  rw [e1,e2,e3,e4,e5,e6]
theorem Cy4 {o:Option Shared}{α B:Type}{l:List α}{f:α->Str}{g:α->Option FnShape}{u:List OwnSpec}{y:Shared->B}{b:B}(n:Nat) (h:o.map (λs=>(l.take n).map λd=>s.heap.shapeAt mainGlobals (f d))=some ((l.take n).map g)) (k:o.map (λs=>(seen ((l.drop n).map f) u [] { s with gens:=#[] },y s))=some (⟨(l.drop n).map g,true,[],true,true,true,0⟩,b)):o.map (λs=>(seen (l.map f) u [] { s with gens:=#[] },y s))=some (⟨l.map g,true,[],true,true,true,0⟩,b):=by
 cases o with
 | none=>cases h
 | some s =>
  obtain ⟨e2,e3⟩:=Prod.mk.inj (Option.some.inj k)
  have e1:(l.take n).map (λd=>s.heap.shapeAt mainGlobals (f d))=(l.take n).map g:=Option.some.inj h
  have e4:(seen (l.map f) u [] { s with gens:=#[] }).defs=l.map g:=by
   show (l.map f).map (s.heap.shapeAt mainGlobals)=l.map g
   have e5:((l.drop n).map f).map (s.heap.shapeAt mainGlobals)=(l.drop n).map g:=D0 Seen.defs e2
   rw [List.map_map] at e5 ⊢
   rw [<- List.take_append_drop n l,C3,C3,<- e5,<- e1];rfl
  show some (seen (l.map f) u [] { s with gens:=#[] },y s)=_
  rw [show seen (l.map f) u [] { s with gens:=#[] }={ seen ((l.drop n).map f) u [] { s with gens:=#[] } with defs:=(seen (l.map f) u [] { s with gens:=#[] }).defs } from rfl,e4,e2,e3]
theorem Cq0 (w:World):(openEnds treeTable pr w 3000).map (λs=>((recsOf vw).take 46).map λd=>s.heap.shapeAt mainGlobals d.name)=some (((recsOf vw).take 46).map λd=>some d.shape):=by kernel_rfl
theorem Cp9 (w:World):(openEnds treeTable pr w 3000).map (λs=>(seen (((recsOf vw).drop 46).map (·.name)) (ownsOf vw) [] { s with gens:=#[] },s.heap.bltView))=some (⟨((recsOf vw).drop 46).map λd=>some d.shape,true,[],true,true,true,0⟩,bltViewBooted):=by kernel_rfl
theorem Cx9 (w:World):(openEnds treeTable pr w 3000).map (λs=>(seen ((recsOf vw).map (·.name)) (ownsOf vw) [] { s with gens:=#[] },s.heap.bltView))=some (expectedOf vw,bltViewBooted):=Cy4 46 (Cq0 w) (Cp9 w)
theorem Cj2 {σ:Type}{o:Option σ}{k:σ->Bool}(g:Bool->σ->Bool) (h1:o.map k=some true) (h2:o.map (λs=>g true s)=some true):o.map (λs=>g (k s) s)=some true:=by
 cases o with
 | none=>cases h1
 | some s=>rw [show (some s).map (λs=>g (k s) s)=some (g (k s) s) from rfl,show k s=true from Option.some.inj h1];exact h2
theorem Cr9 {α:Type}(n:Nat) (l:List α) (f:α->Bool):l.all f=((l.take n).all f&&(l.drop n).all f):=by rw [<- List.all_append,List.take_append_drop]
theorem Cp8 (w:World):(openEnds treeTable pr w 3000).map (λs=>s.heap.keysOk (looseW vw []) ((recsOf vw).map (·.name)) ((litsOf vw).map (·.1)) ((clssOf vw (looseW vw [])).map (·.name)))=some true:=by kernel_rfl
theorem Cp7 (w:World):(openEnds treeTable pr w 3000).map (λs=>true&&s.heap.accountedOkI (importedModules pr.main.body)&&s.heap.isNs mainGlobals&&s.heap.isNs builtinsNs&&tablesOk vw s.heap&&(xlAt vw [] s&&recOk [] s)&&(if true then s.gens.size==0 else !leftWithCleanup s.gens))=some true:=by kernel_rfl
theorem Cx8 (w:World):(openEnds treeTable pr w 3000).map (λs=>s.heap.keysOk (looseW vw []) ((recsOf vw).map (·.name)) ((litsOf vw).map (·.1)) ((clssOf vw (looseW vw [])).map (·.name))&&s.heap.accountedOkI (importedModules pr.main.body)&&s.heap.isNs mainGlobals&&s.heap.isNs builtinsNs&&tablesOk vw s.heap&&(xlAt vw [] s&&recOk [] s)&&(if true then s.gens.size==0 else !leftWithCleanup s.gens))=some true:=Cj2 (λ(b:Bool) (s:Shared)=>b&&s.heap.accountedOkI (importedModules pr.main.body)&&s.heap.isNs mainGlobals&&s.heap.isNs builtinsNs&&tablesOk vw s.heap&&(xlAt vw [] s&&recOk [] s)&&(if true then s.gens.size==0 else !leftWithCleanup s.gens)) (Cp8 w) (Cp7 w)
theorem Cp6 (w:World):(openEnds treeTable pr w 3000).map (λs=>((recsOf vw).take 48).all (λd=>s.heap.tab0Ok d.name))=some true:=by kernel_rfl
theorem Cp5 (w:World):(openEnds treeTable pr w 3000).map (λs=>true&&((recsOf vw).drop 48).all (λd=>s.heap.tab0Ok d.name)&&s.heap.bmainOk&&valsOk vw s.heap&&(!importsNone vw||s.heap.noSeerOk))=some true:=by kernel_rfl
theorem Cx6 (w:World):(openEnds treeTable pr w 3000).map (λs=>tabsOk vw s)=some true:=by
 rw [show (λs=>tabsOk vw s)=λs=>((recsOf vw).take 48).all (λd=>s.heap.tab0Ok d.name)&&((recsOf vw).drop 48).all (λd=>s.heap.tab0Ok d.name)&&s.heap.bmainOk&&valsOk vw s.heap&&(!importsNone vw||s.heap.noSeerOk) from funext λs=>by unfold tabsOk;rw [Cr9 48]]
 exact Cj2 (λ(b:Bool) (s:Shared)=>b&&((recsOf vw).drop 48).all (λd=>s.heap.tab0Ok d.name)&&s.heap.bmainOk&&valsOk vw s.heap&&(!importsNone vw||s.heap.noSeerOk)) (Cp6 w) (Cp5 w)
theorem Cx7 (w:World):(openEnds treeTable pr w 3000).map (λs=>((pinSeenD vw (drecsOf vw) s,plainSeenE vw (looseW vw []) s,plainSeenD vw [] s,wideSeen vw s,clsSeenW vw [] s),Hook.obs Hook.none s))=some ((pinGoodD (drecsOf vw),plainGoodE vw (looseW vw []),plainGoodD vw [],wideGood vw,clsGoodW vw []),Hook.val Hook.none w):=by kernel_rfl
theorem left:LeftO pr vw [] (λs=>xlAt vw [] s&&recOk [] s) (Hook.obs Hook.none) (Hook.val Hook.none) 3000:=λw=>Cy3 (Cx9 w) (Cx8 w) (Cx6 w) (Cx7 w)
theorem Cx0:PySem.Challenge.rw_uf010012_11.row.wellSaid=true:=by decide +kernel
theorem said:PySem.Challenge.rw_uf010012_11.wellSaid=true:=by unfold OpenLaw.wellSaid;rw [Cx0];decide +kernel
end L11
namespace Bq
open PySem PySem.Calls PyProof.Rows
open Aa (V D)
theorem Ah {G:Prop}(h:∀ g:Prop,(G->g)->g):G:=h G id
noncomputable def dO:List Int->List Value->Prop
 | [],[]=>True
 | i::l,x::r=>(∃ t,x=.int i t)/\dO l r
 | _,_=>False
mutual
noncomputable def L8 (h₀:Heap) (φ:List Addr) (h:Heap):V->Value->Prop
 | .none,x=>x=.none
 | .bool b,x=>x=.bool b
 | .int i,x=>∃ t,x=.int i t
 | .str l,x=>l.length<=Aa.P0/\∃ t,x=.str ⟨l.toArray⟩ t
 | .ref i,x=>∃ a,φ[i]? = some a/\x=.ref a
 | .tup l,x=>l.length<=Aa.P0/\∃ a vs,x=.ref a/\IsTup h a vs.toArray/\H8 h₀ φ h l vs
 | .Bv ns,x=>ns.length<=Aa.P0/\∃ a vs,x=.ref a/\h₀.IsList a vs.toArray/\dO ns vs
noncomputable def H8 (h₀:Heap) (φ:List Addr) (h:Heap):List V->List Value->Prop
 | [],[]=>True
 | v::l,x::r=>L8 h₀ φ h v x/\H8 h₀ φ h l r
 | _,_=>False
end
theorem H8.length {h₀ φ h}:∀ {l:List V}{vs:List Value},H8 h₀ φ h l vs->l.length=vs.length
 | [],[]=>λZ=>rfl
 | _::_,_::_=>λH=>by
  simp [H8.length H.2]
 | [],_::_=>λH=>B4 H
 | _::_,[]=>λH=>B4 H
theorem H8.get {h₀ φ h}:∀ {l:List V}{vs:List Value},H8 h₀ φ h l vs->∀ {k:Nat}{v:V},l[k]? = some v->∃ x,vs[k]? = some x/\L8 h₀ φ h v x
 | [],_,_,_=>λe=>by simp at e
 | _::_,[],H,_=>λZ=>B4 H
 | v::l,x::r,H,0=>λe=>by
  simp at e;subst e
  exact ⟨x,by simp,H.1⟩
 | v::l,x::r,H,k+1=>λe=>by
  simp at e
  obtain ⟨y,hy,hr⟩:=H8.get H.2 e
  exact ⟨y,by simpa using hy,hr⟩
theorem H8.append {h₀ φ h}:∀ {l:List V}{vs:List Value}{l':List V}{vs':List Value},H8 h₀ φ h l vs->H8 h₀ φ h l' vs'->H8 h₀ φ h (l++l') (vs++vs')
 | [],[]=>λZ H'=>H'
 | _::_,_::_=>λH H'=>by
  simp only [List.cons_append]
  exact ⟨H.1,H8.append H.2 H'⟩
 | [],_::_=>λH Z=>B4 H
 | _::_,[]=>λH Z=>B4 H
theorem H8.one {h₀ φ h}{x:Value}(H:L8 h₀ φ h v x):H8 h₀ φ h [v] [x]:=⟨H,by trivial⟩
theorem H8.nil {h₀ φ h}:H8 h₀ φ h [] []:=by trivial
theorem H8.cons {h₀ φ h}{x:Value}(H:L8 h₀ φ h v x) (H':H8 h₀ φ h l vs):H8 h₀ φ h (v::l) (x::vs):=⟨H,H'⟩
theorem H8.Ax {h₀ φ h}(H:H8 h₀ φ h (v::l) vs):∃ x r,vs=x::r/\L8 h₀ φ h v x/\H8 h₀ φ h l r:=by
 cases vs with
 | nil=>exact B4 H
 | cons x r=>exact ⟨x,r,rfl,H.1,H.2⟩
theorem H8.Bo {h₀ φ h}(H:H8 h₀ φ h [] vs):vs=[]:=by
 cases vs with
 | nil=>rfl
 | cons x r=>exact B4 H
noncomputable def T6 (o:Obj):Prop:=o.cls=.type "tuple" /\ ∃ items n,o.data=.seq items n
mutual
theorem L8.mono (hφ:∀ (i:Nat) (a:Addr),φ[i]? = some a->φ'[i]? = some a)
  (hk:∀ a o,T6 o->h.get? a=some o->h'.get? a=some o):∀ (v:V) {x:Value},L8 h₀ φ h v x->L8 h₀ φ' h' v x
 | .none=>λH=>H
 | .bool _=>λH=>H
 | .int _=>λH=>H
 | .str _=>λH=>H
 | .ref i=>λH=>by
  obtain ⟨a,e,r⟩:=H
  exact ⟨a,hφ i a e,r⟩
 | .tup l=>λH=>by
  obtain ⟨hl,a,vs,e,⟨o,ho,hc,n,hd⟩,r⟩:=H
  exact ⟨hl,a,vs,e,⟨o,hk a o ⟨hc,_,_,hd⟩ ho,hc,n,hd⟩,H8.mono hφ hk l r⟩
 | .Bv _=>λH=>H
theorem H8.mono (hφ:∀ (i:Nat) (a:Addr),φ[i]? = some a->φ'[i]? = some a)
  (hk:∀ a o,T6 o->h.get? a=some o->h'.get? a=some o):∀ (l:List V) {vs:List Value},H8 h₀ φ h l vs->H8 h₀ φ' h' l vs
 | [],[]=>λZ=>by trivial
 | v::l,x::r=>λH=>by
  exact ⟨L8.mono hφ hk v H.1,H8.mono hφ hk l H.2⟩
 | [],_::_=>λH=>B4 H
 | _::_,[]=>λH=>B4 H
end
structure Ok (h₀:Heap) (φ:List Addr) (H:Aa.Heap) (h:Heap):Prop where
 base:∀ b o,h₀.get? b=some o->h.get? b=some o
 len:φ.length=H.length
 nodup:φ.Nodup
 above:∀ a∈φ,h₀.objs.size<=a
 small:∀ l∈H,l.length<=Aa.P0
 room:h₀.objs.size<=h.objs.size
 lists:∀ (i:Nat) (a:Addr) (l:List V),φ[i]? = some a->H[i]? = some l->∃ vs,h.PlainList a vs.toArray/\H8 h₀ φ h l vs
theorem Ok.mem {h₀ φ H h}(K:Ok h₀ φ H h) (ha:a∈φ):∃ vs n,h.get? a=some { cls:=.type "list",data:=.seq vs n }:=by
 obtain ⟨i,hi⟩:=List.getElem?_of_mem ha
 have hl:i<H.length:=by
  exact qz K.len.symm ((A3 hi).1)
 obtain ⟨vs,⟨n,e⟩,_⟩:=K.lists i a _ hi (A8 hl)
 exact ⟨_,n,e⟩
theorem Ok.lt {h₀ φ H h}(K:Ok h₀ φ H h) (ha:a∈φ):a<h.objs.size:=by
 obtain ⟨_,_,e⟩:=K.mem ha
 exact Heap.lt_size e
structure Dc9 (φ:List Addr) (s s':Shared):Prop where
 same:∃ h' tk,s'={ s with heap:=h',toks:=tk }
 keep:∀ b o,b ∉ φ->s.heap.get? b=some o->s'.heap.get? b=some o
 size:s.heap.objs.size<=s'.heap.objs.size
 toks:s.toks<=s'.toks
structure O8 (h₀:Heap) (φ:List Addr) (s:Shared) (φ':List Addr) (H':Aa.Heap) (s':Shared):Prop where
 step:Dc9 φ s s'
 grow:∃ ψ,φ'=φ++ψ/\∀ a∈ψ,s.heap.objs.size<=a
 ok:Ok h₀ φ' H' s'.heap
theorem O8.refl {h₀ φ s H}(K:Ok h₀ φ H s.heap):O8 h₀ φ s φ H s :=
 ⟨⟨⟨s.heap,s.toks,rfl⟩,λZ Z Z e=>e,D3 _,D3 _⟩,⟨[],by simp,by simp⟩,K⟩
theorem O8.trans {h₀ φ s φ0 Hw s9 φ8 Hz sy}(a:O8 h₀ φ s φ0 Hw s9) (b:O8 h₀ φ0 s9 φ8 Hz sy):O8 h₀ φ s φ8 Hz sy:=by
 apply Ah;intro g9 k9
 obtain ⟨⟨⟨h1,t1,e1⟩,k1,z1,w1⟩,⟨ψ1,g1,m1⟩,o1⟩:=a
 obtain ⟨⟨⟨h2,t2,e2⟩,k2,z2,w2⟩,⟨ψ2,g2,m2⟩,o2⟩:=b
 apply k9
 refine ⟨⟨⟨h2,t2,by rw [e2,e1]⟩,λb o hb e=>?_,D2 z1 z2,D2 w1 w2⟩,⟨ψ1++ψ2,by refine qz g2 (qz g1 ?_);rw [D5],λa ha=>?_⟩,o2⟩
 ·refine k2 b o ?_ (k1 b o hb e)
  refine qz g1 ?_;rw [List.mem_append,not_or]
  exact ⟨hb,λhm=>absurd (Heap.lt_size e) (Nat.not_lt.mpr (m1 b hm))⟩
 ·rcases C0 ha with q|q
  ·exact m1 a q
  ·exact D2 z1 (m2 a q)
theorem O8.idx {h₀ φ s φ' H' s'}(F:O8 h₀ φ s φ' H' s'):∀ (i:Nat) (a:Addr),φ[i]? = some a->φ'[i]? = some a:=by
 obtain ⟨_,⟨ψ,e,_⟩,_⟩:=F
 intro i a hi
 exact qz e (qz (List.getElem?_append_left (A3 hi).1) hi)
theorem O8.Bu {h₀ φ s φ' H H' s'}(K:Ok h₀ φ H s.heap) (F:O8 h₀ φ s φ' H' s'):∀ a o,T6 o->s.heap.get? a=some o->s'.heap.get? a=some o:=by
 intro a o hc ho
 refine F.step.keep a o (λhm=>?_) ho
 obtain ⟨vs,n,e⟩:=K.mem hm
 rw [e] at ho;cases ho
 simp [T6] at hc
theorem O8.val {h₀ φ s φ' H H' s'}(K:Ok h₀ φ H s.heap) (F:O8 h₀ φ s φ' H' s') {x:Value}(r:L8 h₀ φ s.heap v x):L8 h₀ φ' s'.heap v x :=
 L8.mono F.idx (F.Bu K) v r
theorem O8.vals {h₀ φ s φ' H H' s'}(K:Ok h₀ φ H s.heap) (F:O8 h₀ φ s φ' H' s') {x:List Value}(r:H8 h₀ φ s.heap v x):H8 h₀ φ' s'.heap v x :=
 H8.mono F.idx (F.Bu K) v r
theorem Ok.ext {h₀ φ H h h'}(K:Ok h₀ φ H h) (hk:∀ b o,h.get? b=some o->h'.get? b=some o) (hz:h.objs.size<=h'.objs.size):Ok h₀ φ H h' :=
 ⟨λb o e=>hk b o (K.base b o e),K.len,K.nodup,K.above,K.small,D2 K.room hz,λi a l hi hl=>by
  obtain ⟨vs,⟨n,e⟩,r⟩:=K.lists i a l hi hl
  exact ⟨vs,⟨n,hk _ _ e⟩,H8.mono (λZ Z q=>q) (λa o Z q=>hk a o q) l r⟩⟩
theorem O8.ext {h₀ φ s H h'}(K:Ok h₀ φ H s.heap) (hk:∀ b o,s.heap.get? b=some o->h'.get? b=some o) (hz:s.heap.objs.size<=h'.objs.size) (ht:s.toks<=tk) :
  O8 h₀ φ s φ H { s with heap:=h',toks:=tk } :=
 ⟨⟨⟨h',tk,rfl⟩,λb o Z e=>hk b o e,hz,ht⟩,⟨[],by simp,by simp⟩,K.ext hk hz⟩
theorem O8.tok {h₀ φ s H}(K:Ok h₀ φ H s.heap) (ht:s.toks<=tk):O8 h₀ φ s φ H { s with toks:=tk } :=
 O8.ext (h':=s.heap) K (λZ Z e=>e) (D3 _) ht
theorem O8.push {h₀ φ s H}(K:Ok h₀ φ H s.heap) (ht:s.toks<=tk):O8 h₀ φ s φ H { s with heap:=s.heap.push ob,toks:=tk } :=
 O8.ext K (λZ Z e=>Heap.get?_push_of_some _ e) (qz (Heap.size_push _ _) (E4 _)) ht
theorem O8.Ez {h₀ φ s H}(K:Ok h₀ φ H s.heap) (r:H8 h₀ φ s.heap l vs) (hl:l.length<=Aa.P0)
  (ha:s.heap.objs.size<=a) (hk:∀ b o,s.heap.get? b=some o->h'.get? b=some o) (hp:h'.PlainList a vs.toArray) (ht:s.toks<=tk) :
  O8 h₀ φ s (φ++[a]) (H++[l]) { s with heap:=h',toks:=tk }:=by
 have hi:∀ (i:Nat) (b:Addr),φ[i]? = some b->(φ++[a])[i]? = some b:=λi b e=>by
  exact qz (List.getElem?_append_left (A3 e).1) e
 have hz:s.heap.objs.size<=h'.objs.size:=by
  obtain ⟨n,e⟩:=hp
  exact D2 ha (E2 (Heap.lt_size e))
 refine ⟨⟨⟨_,_,rfl⟩,λb o Z e=>hk b o e,hz,ht⟩,⟨[a],rfl,by simpa using ha⟩,?_⟩
 refine ⟨λb o e=>hk b o (K.base b o e),by simp [K.len],?_,?_,?_,D2 K.room hz,?_⟩
 ·rw [List.nodup_append]
  refine ⟨K.nodup,by simp,λb hb c hc=>?_⟩
  simp at hc;subst hc
  exact D1 (D6 (K.lt hb) ha)
 ·intro b hb
  rcases C0 hb with q|q
  ·exact K.above b q
  ·simp at q;subst q;exact D2 K.room ha
 ·intro l' hl'
  rcases C0 hl' with q|q
  ·exact K.small l' q
  ·simp at q;subst q;exact hl
 ·intro i b l' e el
  by_cases hlt:i<φ.length
  ·rw [List.getElem?_append_left hlt] at e
   rw [List.getElem?_append_left (qz K.len.symm hlt)] at el
   obtain ⟨vs',⟨n',p⟩,r'⟩:=K.lists i b l' e el
   exact ⟨vs',⟨n',hk _ _ p⟩,H8.mono hi (λa o Z q=>hk a o q) l' r'⟩
  ·have d6:φ.length<=i:=Nat.le_of_not_lt hlt
   rw [List.getElem?_append_right d6] at e
   rw [List.getElem?_append_right (qz K.len.symm d6)] at el
   have:i - φ.length=0:=by
    cases h:i - φ.length with
    | zero=>rfl
    | succ k=>rw [h] at e;simp at e
   rw [this] at e
   rw [<- K.len,this] at el
   simp at e el
   subst e;subst el
   exact ⟨vs,hp,H8.mono hi (λa o Z q=>hk a o q) _ r⟩
theorem O8.alloc {h₀ φ s H}{n tk:Nat}(K:Ok h₀ φ H s.heap) (r:H8 h₀ φ s.heap l vs) (hl:l.length<=Aa.P0) (ht:s.toks<=tk) :
  O8 h₀ φ s (φ++[s.heap.objs.size]) (H++[l]) { s with heap:=s.heap.push { cls:=.type "list",data:=.seq vs.toArray n },toks:=tk } :=
 O8.Ez K r hl (D3 _) (λZ Z e=>Heap.get?_push_of_some _ e) ⟨n,Heap.get?_push_size _ rfl⟩ ht
theorem O8.change {h₀ φ s H}(K:Ok h₀ φ H s.heap) (hi:φ[i]? = some a)
  (p7:Heap.SameBut a s.heap h') (hp:h'.PlainList a vs'.toArray) (r:H8 h₀ φ s.heap l' vs') (hl:l'.length<=Aa.P0) (ht:s.toks<=tk) :
  O8 h₀ φ s φ (H.set i l') { s with heap:=h',toks:=tk }:=by
 have ham:a∈φ:=E5 hi
 obtain ⟨vs0,n1,ew⟩:=K.mem ham
 have keep:∀ b o,b≠a->s.heap.get? b=some o->h'.get? b=some o:=λb o hb e=>(p7.2 b hb).trans e
 have Bu:∀ b o,T6 o->s.heap.get? b=some o->h'.get? b=some o:=λb o hc e=>keep b o (by
  rintro rfl
  rw [ew] at e;cases e;simp [T6] at hc) e
 refine ⟨⟨⟨_,_,rfl⟩,λb o hb e=>keep b o (λq=>hb (q▸ham)) e,A4 p7.1.symm,ht⟩,⟨[],by simp,by simp⟩,?_⟩
 refine ⟨λb o e=>keep b o (λq=>?_) (K.base b o e),by simp [K.len],K.nodup,K.above,?_,D2 K.room (A4 p7.1.symm),?_⟩
 ·subst q
  exact absurd (Heap.lt_size e) (Nat.not_lt.mpr (K.above _ ham))
 ·intro l hm
  rcases List.mem_or_eq_of_mem_set hm with q|q
  ·exact K.small l q
  ·subst q;exact hl
 ·intro j b l e el
  by_cases hij:j=i
  ·subst hij
   rw [hi] at e;cases e
   have hjl:j<H.length:=by
    exact qz K.len.symm ((A3 hi).1)
   rw [B9 hjl] at el
   cases el
   exact ⟨vs',hp,H8.mono (λZ Z q=>q) Bu _ r⟩
  ·rw [A9 (Ne.symm hij)] at el
   obtain ⟨vs,⟨n,p⟩,r'⟩:=K.lists j b l e el
   have hb:b≠a:=by
    rintro rfl
    exact hij ((List.getElem?_inj (A3 e).1 K.nodup).mp (e.trans hi.symm))
   exact ⟨vs,⟨n,keep b _ hb p⟩,H8.mono (λZ Z q=>q) Bu _ r'⟩
noncomputable def oC (h₀:Heap) (φ:List Addr) (h:Heap):Option V->Option Value->Prop
 | some v,o=>∃ x,o=some x/\L8 h₀ φ h v x
 | none,_=>True
structure Cx where
 prog:Program
 w:World
 h₀:Heap
 gl:Aa.Gl
 P:Aa.Prg
 mg:Str->Option Value
 mb:Str->Option Value
noncomputable def kD (ls:List Nat) (i tk:Nat) (o:Option Value):Prop:=i∈ls->∀ x,o=some x->∃ l t,x=.str l t/\0<t/\t<tk
theorem kD.mono (h:kD ls i tk o) (ht:tk<=tk'):kD ls i tk' o:=λhi x hx =>
 let ⟨l,t,e,h1,h2⟩:=h hi x hx;⟨l,t,e,h1,D6 h2 ht⟩
structure L9 (X:Cx) (φ:List Addr) (nm:List Str) (env:Env) (ρ:Aa.M6) (s:Shared):Prop where
 kind:env.scope.kind=.function
 glob:env.globals=mainGlobals
 blt:env.builtins=builtinsNs
 len:ρ.length=nm.length
 nodup:nm.Nodup
 pos:X.gl.pos=true->0<s.toks
 locals:∃ m,s.heap.Ns env.locals m/\∀ (i:Nat) (x:Str),nm[i]? = some x->env.kindOf x=some .local->oC X.h₀ φ s.heap ((ρ[i]?).getD none) (m x)/\kD X.gl.lits i s.toks (m x)
 cells:∀ (i:Nat) (x:Str),nm[i]? = some x->(env.kindOf x=some .cell∨env.kindOf x=some .free)->∃ c ov,env.cells.lookup x=some c/\s.heap.IsCell c ov/\oC X.h₀ φ s.heap ((ρ[i]?).getD none) ov/\kD X.gl.lits i s.toks ov
 above:X.h₀.objs.size<=env.locals
 Bj:∀ x c,env.cells.lookup x=some c->X.h₀.objs.size<=c
 As:∀ x c,env.cells.lookup x=some c->∃ ov,s.heap.IsCell c ov
 apart:∀ x y c,env.cells.lookup x=some c->env.cells.lookup y=some c->x=y
theorem oC.mono {h₀ φ φ' h h'}(r:oC h₀ φ h v o) (hr:∀ v x,L8 h₀ φ h v x->L8 h₀ φ' h' v x):oC h₀ φ' h' v o:=by
 cases v with
 | none=>trivial
 | some v=>obtain ⟨x,e,q⟩:=r;exact ⟨x,e,hr _ _ q⟩
theorem L9.fwd {X φ nm env ρ s φ' H H' s'}(L:L9 X φ nm env ρ s) (K:Ok X.h₀ φ H s.heap) (F:O8 X.h₀ φ s φ' H' s'):L9 X φ' nm env ρ s':=by
 have hr:∀ v x,L8 X.h₀ φ s.heap v x->L8 X.h₀ φ' s'.heap v x:=λv x r=>F.val K r
 refine ⟨L.kind,L.glob,L.blt,L.len,L.nodup,λhp=>D6 (L.pos hp) F.step.toks,?_,?_,L.above,L.Bj,?_,L.apart⟩
 ·apply Ah;intro g9 k9
  obtain ⟨m,⟨o,es,ep,ho,hd,q⟩,hm⟩:=L.locals
  apply k9
  have hn:env.locals ∉ φ:=λhm=>by
   obtain ⟨vs,n,e⟩:=K.mem hm
   rw [e] at ho;cases ho;simp at hd
  exact ⟨m,⟨o,es,ep,F.step.keep _ _ hn ho,hd,q⟩,λi x hx hk=>⟨(hm i x hx hk).1.mono hr,(hm i x hx hk).2.mono F.step.toks⟩⟩
 ·intro i x hx hk
  apply Ah;intro g9 k9
  obtain ⟨c,ov,hc,⟨o,ho,hd⟩,r,lr⟩:=L.cells i x hx hk
  apply k9
  have hn:c ∉ φ:=λhm=>by
   obtain ⟨vs,n,e⟩:=K.mem hm
   rw [e] at ho;cases ho;simp at hd
  exact ⟨c,ov,hc,⟨o,F.step.keep _ _ hn ho,hd⟩,r.mono hr,lr.mono F.step.toks⟩
 ·intro x c hc
  obtain ⟨ov,o,ho,hd⟩:=L.As x c hc
  have hn:c ∉ φ:=λhm=>by
   obtain ⟨vs,n,e⟩:=K.mem hm
   rw [e] at ho;cases ho;simp at hd
  exact ⟨ov,o,F.step.keep _ _ hn ho,hd⟩
noncomputable def fC:List String:=["len", "isinstance", "ord", "sorted"]
noncomputable def fB:List String:=["str", "int", "bool", "list", "tuple", "range", "enumerate"]
structure eU (X:Cx):Prop where
 g:X.h₀.Ns mainGlobals X.mg
 b:X.h₀.Ns builtinsNs X.mb
 nolimit:X.h₀.NoLimit
 globs:∀ g i,(g,i)∈X.gl.Er->∃ t,X.mg (Str.ofString g)=some (.int i t)
 fns:∀ f ls,X.gl.fns.lookup f=some ls->∃ fn fa o params body scope pm cd doc,X.P f=some fn/\fn.lits=ls/\X.mg (Str.ofString f)=some (.ref fa)/\X.h₀.get? fa=some o/\o.data=.func (docDef (Str.ofString f) params body scope pm cd doc)/\X.h₀.CodeRec cd (Str.ofString f)/\Aa.iO X.gl fn params body scope=true
 bf:∀ n∈fC,X.mg (Str.ofString n)=none/\X.mb (Str.ofString n)=some (.builtin n)
 bt:∀ n∈fB,X.mg (Str.ofString n)=none/\X.mb (Str.ofString n)=some (.type n)
abbrev S9 (X:Cx):Model:=model X.prog X.w
noncomputable def aG (X:Cx) (Q:V->Aa.Heap->Prop) (φ:List Addr) (s:Shared) (K:Value->Shared->Prop):Prop :=
 ∀ v H' φ' x s',Q v H'->O8 X.h₀ φ s φ' H' s'->L8 X.h₀ φ' s'.heap v x->K x s'
noncomputable def L7 (X:Cx) (A:Around) (C:Aa.Calls) (e:Aa.E):Prop :=
 ∀ (re:Expr) (env:Env) (nm:List Str) (ρ:Aa.M6) (Q:V->Aa.Heap->Prop) (H:Aa.Heap) (φ:List Addr) (s:Shared) (K EX:Value->Shared->Prop),
  Aa.K2 X.gl env.scope.names nm e re=true->L9 X φ nm env ρ s->Ok X.h₀ φ H s.heap->Aa.L0 C e ρ Q H->aG X Q φ s K ->
  wpAny (S9 X) A (eval re env) K EX s
section
variable {X:Cx}{A:Around}{C:Aa.Calls}
theorem Bi9:L7 X A C .none:=by
 intro re env nm ρ Q H φ s K EX hc L O h k
 refine Aa.Bn6 hc λk9 p e9=>?_
 clear hc;subst e9
 ·exact wpAny_pure (k _ _ _ _ _ h (O8.refl O) (by rfl))
theorem Bk3:L7 X A C (.bool b):=by
 intro re env nm ρ Q H φ s K EX hc L O h k
 refine Aa.xX hc λk9 p e9=>?_
 clear hc;subst e9
 ·exact wpAny_pure (k _ _ _ _ _ h (O8.refl O) (by rfl))
theorem Bx1:L7 X A C (.int i):=by
 intro re env nm ρ Q H φ s K EX hc L O h k
 refine Aa.Ca4 hc λk9 p e9=>?_
 clear hc;subst e9
 ·exact wpAny_Constant_int (k _ _ _ _ _ h (O8.tok O (E4 _)) (by exact ⟨_,rfl⟩))
theorem Bw0:L7 X A C (.str l):=by
 intro re env nm ρ Q H φ s K EX hc L O h k
 refine Aa.uN hc λx k9 p e9 hx9 hl=>?_
 clear hc;subst e9
 ·subst hx9
  exact Constant_str (k _ _ _ _ _ h (O8.tok O (E4 _)) (by exact ⟨hl,s.toks,by simp⟩))
theorem xG {env:Env}{nm:List Str}{φ:List Addr}{s:Shared}{K EX:Value->Shared->Prop}{id:Str}{x:Nat}
  (L:L9 X φ nm env ρ s) (hx:nm[x]? = some id) (hl:Aa.Y3 env.scope.names id=true) (hv:ρ[x]? = some (some v))
  (k:∀ y,L8 X.h₀ φ s.heap v y->kD X.gl.lits x s.toks (some y)->K y s) (g8:(id==("__classdict__" : Str))=false):wpAny (S9 X) A (loadName env id) K EX s:=by
 have d9:env.kindOf id=env.scope.names.lookup id:=rfl
 unfold Aa.Y3 at hl
 split at hl
 ·rename_i e
  obtain ⟨m,i7,hm⟩:=L.locals
  have r:=hm x id hx (d9.trans e)
  rw [hv] at r
  obtain ⟨⟨y,ey,q⟩,lr⟩:=r
  exact wpAny_loadName_local L.kind (d9.trans e) i7 ey (k y q (ey▸lr))
 ·rename_i e
  obtain ⟨c,ov,hc,hcell,r,lr⟩:=L.cells x id hx (Or.inl (d9.trans e))
  rw [hv] at r
  obtain ⟨y,ey,q⟩:=r
  subst ey
  exact wpAny_loadName_cell L.kind (d9.trans e) hc hcell (k y q lr)
 ·rename_i e
  obtain ⟨c,ov,hc,hcell,r,lr⟩:=L.cells x id hx (Or.inr (d9.trans e))
  rw [hv] at r
  obtain ⟨y,ey,q⟩:=r
  subst ey
  exact wpAny_loadName_free L.kind (d9.trans e) hc hcell (k y q lr) g8
 ·cases hl
theorem free {α:Type}{M:Model}{A:Around}{t:Sem α}{K:α->Shared->Prop}{EX:Value->Shared->Prop}{s:Shared}
  (h:wpAny M A t (λx s'=>s.toks<=s'.toks->K x s') EX s):wpAny M A t K EX s :=
 wpAny_mono (wpAny_toks_of (D3 s.toks) h) (λZ Z q=>q.2 q.1) λZ Z q=>q.2
end
section
variable {X:Cx}{A:Around}{C:Aa.Calls}
theorem aG.after {Q:V->Aa.Heap->Prop}{K:Value->Shared->Prop}
  (k:aG X Q φ s K) (F:O8 X.h₀ φ s φ0 Hw s9):aG X Q φ0 s9 K :=
 λv H' φ' x s' q F' r=>k v H' φ' x s' q (F.trans F') r
set_option tactic.hygienic true in
theorem Bv8 {x:Nat}:L7 X A C (.var x):=by
 intro re env nm ρ Q H φ s K EX hc L O h k
 refine Aa.Ap9 hc λid p e9 Af=>?_
 clear hc;subst e9
 ·replace Af:=Aa.a3 Af
  obtain ⟨⟨h1,h2⟩,h3⟩:=Af
  replace h1:=eq_of_beq h1
  simp only [Aa.R3,Bool.and_eq_true,Bool.not_eq_true'] at h3
  replace h:=Aa.Bf3 h
  split at h
  ·rename_i v hv
   exact wpAny_Name (xG L h1 h2 hv (λy r Z=>k _ _ _ _ _ h (O8.refl O) r) h3.2) h3.1
  ·exact h.elim
theorem aS (G:eU X) {env:Env}{nm:List Str}{φ:List Addr}{H:Aa.Heap}{s:Shared}{K EX:Value->Shared->Prop}{id:Str}
  (L:L9 X φ nm env ρ s) (O:Ok X.h₀ φ H s.heap) (hg:Aa.V6 env.scope.names id=true) (hd:(id==("__debug__" : Str))=false) (hv:X.mg id=some v) (k:K v s) :
  wpAny (S9 X) A (eval (.Name id p) env) K EX s:=by
 have d9:env.kindOf id=some .globalImplicit:=by
  show env.scope.names.lookup id=_
  unfold Aa.V6 at hg
  split at hg
  ·assumption
  ·cases hg
 exact Name_function_global L.kind d9 (loadGlobal_global (qz L.glob (G.g.keeps O.base)) hv k) hd
theorem xH (G:eU X) {env:Env}{nm:List Str}{φ:List Addr}{H:Aa.Heap}{s:Shared}{K EX:Value->Shared->Prop}{id:Str}
  (L:L9 X φ nm env ρ s) (O:Ok X.h₀ φ H s.heap) (hg:Aa.V6 env.scope.names id=true) (hd:(id==("__debug__" : Str))=false) (hn:X.mg id=none) (hv:X.mb id=some v) (k:K v s) :
  wpAny (S9 X) A (eval (.Name id p) env) K EX s:=by
 have d9:env.kindOf id=some .globalImplicit:=by
  show env.scope.names.lookup id=_
  unfold Aa.V6 at hg
  split at hg
  ·assumption
  ·cases hg
 exact Name_function_global L.kind d9 (loadGlobal_builtin (qz L.glob (G.g.keeps O.base)) hn (qz L.blt (G.b.keeps O.base)) hv k) hd
theorem Bj5 (G:eU X) {g:String}{i:Int}:L7 X A C (.glob g i):=by
 intro re env nm ρ Q H φ s K EX hc L O h k
 refine Aa.Bn8 hc λid p e9 Af=>?_
 clear hc;subst e9
 ·replace Af:=Aa.a4 Af
  obtain ⟨⟨⟨h1,h2⟩,h3⟩,h4⟩:=Af
  replace h1:=eq_of_beq h1
  subst h1
  simp only [Aa.R3,Bool.and_eq_true,Bool.not_eq_true'] at h4
  obtain ⟨t,ht⟩:=G.globs g i (by simpa using h2)
  replace h:=Aa.Bz4 h
  exact aS G L O h3 h4.1 ht (k _ _ _ _ _ h (O8.refl O) (by exact ⟨_,rfl⟩))
theorem M2:sizeLine=Aa.P0:=by decide +kernel
theorem gV (h:a.natAbs<1152921504606846976):Builtin.Int.intBits a<=64:=by
 unfold Builtin.Int.intBits
 split
 ·exact (by simp +arith only)
 ·rename_i h0
  have h0:a.natAbs≠0:=by simpa using h0
  have:a.natAbs.log2<60:=(Nat.log2_lt h0).mpr (by simpa using h)
  exact Aa.S5 this
theorem K9 {h₀ φ h}{x:Value}(r:L8 h₀ φ h (.int i) x):∃ t,x=.int i t:=by exact r
theorem N0 {h₀ φ h}{x:Value}(r:L8 h₀ φ h (.str l) x):∃ t,x=.str ⟨l.toArray⟩ t:=by exact r.2
theorem len_str {h₀ φ h}{x:Value}(r:L8 h₀ φ h (.str l) x):l.length<=Aa.P0:=by exact r.1
theorem uG {h₀ φ h}{x:Value}(r:L8 h₀ φ h (.tup l) x):l.length<=Aa.P0:=by exact r.1
theorem fF {h₀ φ h}{x:Value}(r:L8 h₀ φ h (.Bv l) x):l.length<=Aa.P0/\∃ a vs,x=.ref a/\h₀.IsList a vs.toArray/\dO l vs:=by exact r
theorem Q3 {h₀ φ h}{x:Value}(r:L8 h₀ φ h (.ref i) x):∃ a,φ[i]? = some a/\x=.ref a:=by exact r
theorem aQ {h₀ φ h}{x:Value}(r:L8 h₀ φ h (.bool b) x):x=.bool b:=by exact r
theorem kM {h₀ φ h}{x:Value}(r:L8 h₀ φ h .none x):x=.none:=by exact r
theorem fE {h₀ φ h}{x:Value}(r:L8 h₀ φ h (.tup l) x):∃ a vs,x=.ref a/\IsTup h a vs.toArray/\H8 h₀ φ h l vs:=by exact r.2
theorem U8 {h₀ φ h}:L8 h₀ φ h (.int i) (.int i t):=by exact ⟨_,rfl⟩
theorem dQ {h₀ φ h}:L8 h₀ φ h (.bool b) (.bool b):=by rfl
theorem dM {h₀ φ h}(hl:l.length<=Aa.P0):L8 h₀ φ h (.str l) (.str ⟨l.toArray⟩ t):=by exact ⟨hl,_,rfl⟩
theorem mK {h₀ φ h}{x:Str}(e:x=⟨l.toArray⟩) (hl:l.length<=Aa.P0):L8 h₀ φ h (.str l) (.str x t):=by subst e;exact dM hl
theorem fA {h₀ φ h}(e:φ[i]? = some a):L8 h₀ φ h (.ref i) (.ref a):=by exact ⟨_,e,rfl⟩
theorem Aw5 (l:List (List Nat)):∀ a:List Nat,(l.map List.toArray).foldl (· ++ ·) a.toArray=(a++l.flatten).toArray:=by
 induction l with
 | nil=>intro a;simp
 | cons x r ih=>intro a;simp only [List.map_cons,List.foldl_cons,List.append_toArray,ih,List.flatten_cons,D5]
theorem Bv6 (l:List Nat) (n:Int):Txt.mul ⟨l.toArray⟩ n=⟨(List.replicate n.toNat l).flatten.toArray⟩:=by
 unfold Txt.mul
 split
 ·have:n.toNat=0:=by lia
  refine qz this ?_;rfl
 ·split
  ·rename_i h1 h2
   simp only [Bool.or_eq_true,beq_iff_eq] at h2
   rcases h2 with h2|h2
   ·subst h2;simp
   ·have:l=[]:=by simpa [Str.length] using h2
    subst this;simp
  ·have:=Aw5 (List.replicate n.toNat l) []
   simp only [List.map_replicate,List.nil_append] at this
   exact D0 Str.mk this
theorem Ai8 (l:List (List Value)):∀ a:List Value,(l.map List.toArray).foldl (λx y=>x++y) a.toArray=(a++l.flatten).toArray:=by
 induction l with
 | nil=>intro a;simp
 | cons x r ih=>intro a;simp only [List.map_cons,List.foldl_cons,List.append_toArray,ih,List.flatten_cons,D5]
theorem H8.replicate {h₀ φ h}(r:H8 h₀ φ h l vs):∀ n:Nat,H8 h₀ φ h (List.replicate n l).flatten (List.replicate n vs).flatten:=by
 intro n
 induction n with
 | zero =>
  simpa using H8.nil
 | succ n ih =>
  simp only [List.replicate_succ,List.flatten_cons]
  exact r.append (ih)
theorem O8.Ge {h₀ φ s H}(_:O8 h₀ φ s (φ++[s.heap.objs.size]) (H++[l]) { s with heap:=s.heap.push ob,toks:=tk }) (O:Ok h₀ φ H s.heap) :
  L8 h₀ (φ++[s.heap.objs.size]) (s.heap.push ob) (.ref H.length) (.ref s.heap.objs.size) :=
 fA (by refine qz O.len.symm ?_;simp)
theorem Bk5 {x y:Value}{Q:V->Aa.Heap->Prop}{K EX:Value->Shared->Prop}
  (O:Ok X.h₀ φ H s.heap) (ra:L8 X.h₀ φ s.heap a x) (rb:L8 X.h₀ φ s.heap b y) (h:Aa.Ct7 a b H=some (v,H')) (q:Q v H') (k:aG X Q φ s K) :
  wpAny (S9 X) A (binaryOp .Add x y) K EX s:=by
 cases a with
 | int a0 =>
  replace h:=Aa.O6 h;obtain ⟨j,rfl,h⟩:=h
  cases h
  obtain ⟨t,rfl⟩:=K9 ra
  obtain ⟨u,rfl⟩:=K9 rb
  exact add_int (k _ _ _ _ _ q (O8.tok O (E4 _)) U8)
 | str a0 =>
  replace h:=Aa.oY h;obtain ⟨j,rfl,h⟩:=h
  obtain ⟨hc,h⟩:=Aa.bD h
  cases h
  obtain ⟨t,rfl⟩:=N0 ra
  obtain ⟨u,rfl⟩:=N0 rb
  refine free (PyProof.Rows.add_str (λt' tk ht=>k _ _ _ _ _ q (O8.tok O ht) (mK ?_ (by simpa using hc))) ?_)
  ·show Str.append _ _=_
   simp [Str.append]
  ·simpa [Str.length,M2] using hc
 | ref a0 =>
  replace h:=Aa.jN h;obtain ⟨j,rfl,h⟩:=h
  obtain ⟨pa,ea,rfl⟩:=Q3 ra
  obtain ⟨pb,eb,rfl⟩:=Q3 rb
  obtain ⟨l,hl,h⟩:=Option.bind_eq_some_iff.mp h
  obtain ⟨r,hr,h⟩:=Option.bind_eq_some_iff.mp h
  obtain ⟨hc,h⟩:=Aa.bD h
  cases h
  apply Ah;intro g9 k9
  obtain ⟨vs,⟨n,e⟩,q1⟩:=O.lists _ _ _ ea hl
  obtain ⟨vs',⟨n',e'⟩,q2⟩:=O.lists _ _ _ eb hr
  apply k9
  have F:=O8.alloc (n:=0) (tk:=s.toks) O (q1.append q2) (by simpa using hc) (D3 _)
  refine P.add_list (n:=n) (n2:=n') e e' ?_ ?_
  ·have:(vs.toArray++vs'.toArray)=(vs++vs').toArray:=by simp
   exact qz this (k _ _ _ _ _ q F (O8.Ge F O))
  ·refine qz M2 ?_;simp [<- q1.length,<- q2.length];exact hc
 | _=>exact Aa.xN (show Option.none=some _ from h)
theorem Bj0 {x y:Value}{Q:V->Aa.Heap->Prop}{K EX:Value->Shared->Prop}
  (O:Ok X.h₀ φ H s.heap) (ra:L8 X.h₀ φ s.heap a x) (rb:L8 X.h₀ φ s.heap b y) (h:Aa.Ct6 a b H=some (v,H')) (q:Q v H') (k:aG X Q φ s K) :
  wpAny (S9 X) A (binaryOp .Mult x y) K EX s:=by
 cases a with
 | int a0 =>
  replace h:=Aa.O6 h;obtain ⟨j,rfl,h⟩:=h
  obtain ⟨hc,h⟩:=Aa.bD h
  cases h
  obtain ⟨t,rfl⟩:=K9 ra
  obtain ⟨u,rfl⟩:=K9 rb
  refine mul_int (k _ _ _ _ _ q (O8.tok O (E4 _)) U8) ?_
  rcases hc with hc|hc
  ·exact IntMulOk.of_left (gV hc)
  ·exact IntMulOk.of_right (gV hc)
 | str a =>
  replace h:=Aa.O6 h;obtain ⟨n,rfl,h⟩:=h
  obtain ⟨hc,h⟩:=Aa.bD h
  cases h
  obtain ⟨t,rfl⟩:=N0 ra
  obtain ⟨u,rfl⟩:=K9 rb
  refine free (SB.mul ?_ (λt' tk ht=>k _ _ _ _ _ q (O8.tok O ht) (mK (Bv6 _ _) (by simpa [Nat.mul_comm] using hc.1))))
  obtain ⟨h1,h2,h3⟩:=hc
  refine ⟨by simp;lia,λhn Z=>?_,λhn Z=>?_⟩
  ·have hn:1<=n:=by lia
   simp only [Str.length,List.size_toArray]
   intro hgt
   have h4:(a.length:Int) * n<=Aa.P0:=by
    have:(n.toNat:Int)=n:=by lia
    refine qz this.symm ?_;exact_mod_cast h1
   have h5:(2 ^ 63 - 1:Int) / n<a.length:=hgt
   have h6:(2 ^ 63 - 1:Int)<a.length * n:=Int.lt_mul_of_ediv_lt (by lia) h5
   have:(Aa.P0:Int)=16777216:=rfl
   lia
  ·simp only [Str.length,List.size_toArray,Builtin.Str.tooLong,decide_eq_false_iff_not,Nat.not_lt]
   exact qz M2 h1
 | ref a0 =>
  replace h:=Aa.O6 h;obtain ⟨n,rfl,h⟩:=h
  obtain ⟨pa,ea,rfl⟩:=Q3 ra
  obtain ⟨u,rfl⟩:=K9 rb
  obtain ⟨l,hl,h⟩:=Option.bind_eq_some_iff.mp h
  obtain ⟨hc,h⟩:=Aa.bD h
  cases h
  obtain ⟨h1,h2,h3⟩:=hc
  obtain ⟨vs,⟨m,e⟩,q1⟩:=O.lists _ _ _ ea hl
  have FF:=O8.alloc (n:=0) (tk:=s.toks) O (H8.replicate q1 n.toNat) (by simpa [Nat.mul_comm] using h1) (D3 _)
  have hz9:vs.toArray.size * n.toNat<=16777216:=qz List.size_toArray (qz q1.length.symm h1)
  refine wpAny_binaryOp_repeat_ref (T := "list") (U := "int") (by decide) ⟨_,e,rfl⟩ (λs'=>typeIs_int s' n u) noFill_list_mul F.fills_int_mul F.slot_int_rmul repeat_list F.slot_int_index.lookup
   (call_meets F.slot_int_rmul (typeIs_int s n u) F.entry_int_rmul (F.args_int_rmul_2 _ _) (int___rmul___int_list n u pa _ m)
    ⟨e,rfl,⟨_,e,rfl⟩,call_meets F.slot_list_mul ⟨_,e,rfl⟩ F.entry_list_mul (F.args_list_mul_2 _ _)
     (AutoListH.list___mul___list_int_3 pa _ m n u (by simp [Builtin.List.listFitsIndex];lia) (by lia) ?_)
     ⟨e,?_⟩⟩)
  ·simp only [Builtin.List.listTooLong,List.size_toArray,<- q1.length,decide_eq_true_eq,Nat.not_lt]
   exact qz M2 h1
  ·have e9:(List.foldl (λx1 x2=>x1++x2) #[] (List.replicate (if vs.toArray.isEmpty=true then 0 else n.toNat) vs.toArray))=(List.replicate n.toNat vs).flatten.toArray:=by
    by_cases hv:vs=[]
    ·subst hv;simp
    ·refine qz (if_neg (by simpa using hv)) ?_
     have:=Ai8 (List.replicate n.toNat vs) []
     simp only [List.map_replicate,List.nil_append] at this
     exact this
   exact qz e9 (k _ _ _ _ _ q FF (O8.Ge FF O))
 | _=>exact Aa.xN (show Option.none=some _ from h)
theorem Bk4 {x y:Value}{Q:V->Aa.Heap->Prop}{K EX:Value->Shared->Prop}
  (ho:Aa.Ck7 o o'=true) (O:Ok X.h₀ φ H s.heap) (ra:L8 X.h₀ φ s.heap a x) (rb:L8 X.h₀ φ s.heap b y) (h:Aa.res (Aa.eR o a b H) Q) (k:aG X Q φ s K) :
  wpAny (S9 X) A (binaryOp o' x y) K EX s:=by
 obtain ⟨v,H',h9,q⟩:=Aa.Cn9 h
 clear h
 have h:=h9
 clear h9
 obtain rfl:o'=_:=eq_of_beq ho
 clear ho
 cases o
 ·exact Bk5 O ra rb h q k
 ·replace h:=Aa.O6 h;obtain ⟨i,rfl,h⟩:=h
  replace h:=Aa.O6 h;obtain ⟨j,rfl,h⟩:=h
  cases h
  obtain ⟨t,rfl⟩:=K9 ra
  obtain ⟨u,rfl⟩:=K9 rb
  exact sub_int (k _ _ _ _ _ q (O8.tok O (E4 _)) U8)
 ·exact Bj0 O ra rb h q k
 ·replace h:=Aa.O6 h;obtain ⟨i,rfl,h⟩:=h
  replace h:=Aa.O6 h;obtain ⟨j,rfl,h⟩:=h
  obtain ⟨hc,h⟩:=Aa.bD h
  cases h
  obtain ⟨t,rfl⟩:=K9 ra
  obtain ⟨u,rfl⟩:=K9 rb
  refine floordiv_int (by lia) ?_ (Or.inl (PyProof.noPylong_small (by lia)))
  exact qz (Int.fdiv_eq_ediv_of_nonneg i (by lia)) (k _ _ _ _ _ q (O8.tok O (E4 _)) U8)
 ·replace h:=Aa.O6 h;obtain ⟨i,rfl,h⟩:=h
  replace h:=Aa.O6 h;obtain ⟨j,rfl,h⟩:=h
  obtain ⟨hc,h⟩:=Aa.bD h
  cases h
  obtain ⟨t,rfl⟩:=K9 ra
  obtain ⟨u,rfl⟩:=K9 rb
  refine mod_int' (by lia) ?_
  exact qz (Int.fmod_eq_emod_of_nonneg i (by lia)) (k _ _ _ _ _ q (O8.tok O (E4 _)) U8)
 ·replace h:=Aa.O6 h;obtain ⟨i,rfl,h⟩:=h
  replace h:=Aa.O6 h;obtain ⟨j,rfl,h⟩:=h
  obtain ⟨hc,h⟩:=Aa.bD h
  obtain ⟨rfl,rfl⟩:=hc
  cases h
  obtain ⟨t,rfl⟩:=K9 ra
  obtain ⟨u,rfl⟩:=K9 rb
  exact AutoIntOps.pow_4 (by decide) (by decide) (by decide) (by decide) (by decide) (k _ _ _ _ _ q (O8.tok O (E4 _)) U8)
end
mutual
noncomputable def gK:D->PyData
 | .none=>.none
 | .bool b=>.bool b
 | .int i=>.int i
 | .str s=>.str ⟨s.toArray⟩
 | .list l=>.list (bA l)
 | .tup l=>.tuple (bA l)
noncomputable def bA:List D->List PyData
 | []=>[]
 | d::l=>gK d::bA l
end
mutual
theorem jL:∀ a b:D,Aa.vZ a b=PyData.eqv (gK a) (gK b)
 | .none=>λb=>by cases b<;>rfl
 | .bool _=>λb=>by cases b<;>rfl
 | .int _=>λb=>by cases b<;>rfl
 | .str x=>λb=>by
  cases b with
  | str y =>
   show (x==y)=((⟨x.toArray⟩:Str)==⟨y.toArray⟩)
   by_cases h:x=y
   ·subst h;simp
   ·have:(x==y)=false:=by simpa using h
    refine qz this ?_
    symm
    simp [h]
  | _=>rfl
 | .list l=>λb=>by
  cases b with
  | list r=>exact kS l r
  | _=>rfl
 | .tup l=>λb=>by
  cases b with
  | tup r=>exact kS l r
  | _=>rfl
theorem kS:∀ a b:List D,Aa.Au8 a b=PyData.eqvAll (bA a) (bA b)
 | []=>λb=>by cases b<;>rfl
 | x::l=>λb=>by
  cases b with
  | nil=>rfl
  | cons y r=>show (Aa.vZ x y&&Aa.Au8 l r)=(PyData.eqv (gK x) (gK y)&&PyData.eqvAll (bA l) (bA r));exact qz (jL x _) (qz (kS l _) rfl)
end
section
variable {h₀:Heap}{φ:List Addr}{H:Aa.Heap}{h:Heap}
theorem Be6 {f:V->Option D}(e:Aa.vY f (v::l)=some ds):∃ d ds',ds=d::ds'/\f v=some d/\Aa.vY f l=some ds':=by
 replace e:(match f v with | some d=>(Aa.vY f l).map (d::·) | none=>none)=some ds:=e
 cases hd:f v with
 | none=>rw [hd] at e;cases e
 | some d =>
  rw [hd] at e
  obtain ⟨ds',h1,h2⟩:=C1 e
  exact ⟨d,ds',h2.symm,rfl,h1⟩
theorem lS {f:V->Option D}(hf:∀ v d x,f v=some d->L8 h₀ φ h v x->∃ as,Reads h x (gK d) as) :
  ∀ (l:List V) (ds:List D) (vs:List Value),Aa.vY f l=some ds->H8 h₀ φ h l vs->∃ as,ReadsAll h vs (bA ds) as:=by
 intro l
 induction l with
 | nil =>
  exact λds vs e r=>by
   have:=r.Bo;subst this
   cases (show some []=some ds from e)
   exact ⟨[],.nil⟩
 | cons v l ih =>
  exact λds vs e r=>by
   obtain ⟨x,vs',rfl,r1,r2⟩:=r.Ax
   obtain ⟨d,ds',rfl,hd,e9⟩:=Be6 e
   obtain ⟨as,ra⟩:=hf v d x hd r1
   obtain ⟨bs,rb⟩:=ih ds' vs' e9 r2
   exact ⟨as++bs,.cons ra rb⟩
theorem Cg1 {n:Nat}(e:Aa.rd H (n+1) v=some d) {R:Prop}(h0:v=.none->d=.none->R) (h1:∀ b,v=.bool b->d=.bool b->R) (h2:∀ i,v=.int i->d=.int i->R) (h3:∀ s,v=.str s->s.all (λc=>decide (c<1114112))=true->d=.str s->R)
  (h4:∀ l ds,v=.tup l->Aa.vY (Aa.rd H n) l=some ds->d=.tup ds->R) (h5:∀ a l ds,v=.ref a->H[a]? = some l->Aa.vY (Aa.rd H n) l=some ds->d=.list ds->R):R:=by
 cases v with
 | none=>exact h0 rfl (Option.some.inj e).symm
 | bool b=>exact h1 b rfl (Option.some.inj e).symm
 | int i=>exact h2 i rfl (Option.some.inj e).symm
 | str s =>
  replace e:(if s.all (λc=>decide (c<1114112)) then some (.str s) else Option.none)=some d:=e
  obtain ⟨q1,q2⟩:=Aa.bD e
  exact h3 s rfl q1 q2.symm
 | tup l =>
  obtain ⟨ds,q1,q2⟩:=C1 (show (Aa.vY (Aa.rd H n) l).map D.tup=some d from e)
  exact h4 l ds rfl q1 q2.symm
 | ref a =>
  replace e:(match H[a]? with | some l=>(Aa.vY (Aa.rd H n) l).map D.list | none=>none)=some d:=e
  cases hl:H[a]? with
  | none=>rw [hl] at e;cases e
  | some l =>
   rw [hl] at e
   obtain ⟨ds,q1,q2⟩:=C1 e
   exact h5 a l ds rfl hl q1 q2.symm
 | Bv _=>exact Aa.xN (show none=some d from e)
theorem cU (O:Ok h₀ φ H h):∀ (n:Nat) (v:V) (d:D) (x:Value),Aa.rd H n v=some d->L8 h₀ φ h v x->∃ as,Reads h x (gK d) as:=by
 intro n
 induction n with
 | zero=>exact λZ Z Z e Z=>Aa.xN (show none=some _ from e)
 | succ n ih =>
  exact λv d x e r=>by
   refine Cg1 e (λe1 e2=>?_) (λb e1 e2=>?_) (λi e1 e2=>?_) (λs e1 Z e2=>?_) (λl ds e1 e9 e2=>?_) (λa l ds e1 hl e9 e2=>?_)<;>(subst e1;subst e2)
   ·obtain rfl:=kM r;exact ⟨[],.none⟩
   ·obtain rfl:=aQ r;exact ⟨[],.bool _⟩
   ·obtain ⟨t,rfl⟩:=K9 r;exact ⟨[],.int _ _⟩
   ·obtain ⟨t,rfl⟩:=N0 r;exact ⟨[],.str _ _⟩
   ·obtain ⟨a,vs,rfl,⟨o,ho,hc,m,hd⟩,rs⟩:=fE r
    obtain ⟨as,ra⟩:=lS (λv d x=>ih v d x) l ds vs e9 rs
    exact ⟨as,.tuple ho hc hd (by simpa using ra)⟩
   ·obtain ⟨p,hp,rfl⟩:=Q3 r
    obtain ⟨vs,⟨m,ho⟩,rs⟩:=O.lists _ _ _ hp hl
    obtain ⟨as,ra⟩:=lS (λv d x=>ih v d x) l ds vs e9 rs
    exact ⟨p::as,.list ho rfl rfl (by simpa using ra)⟩
theorem sE {n:Nat}{f:V->Option D}(hf:∀ v d,f v=some d->(gK d).canLay0=true/\(gK d).depth<=n) :
  ∀ (l:List V) (ds:List D),Aa.vY f l=some ds->PyData.canLayAll0 (bA ds)=true/\PyData.depthAll (bA ds)<=n:=by
 intro l
 induction l with
 | nil =>
  exact λds e=>by
   cases (show some []=some ds from e)
   exact ⟨rfl,D8 _⟩
 | cons v l ih =>
  exact λds e=>by
   obtain ⟨d,ds',rfl,hd,e9⟩:=Be6 e
   have h1:=hf v d hd
   have h2:=ih ds' e9
   exact ⟨Bool.and_eq_true_iff.mpr ⟨h1.1,h2.1⟩,Nat.max_le.mpr ⟨h1.2,h2.2⟩⟩
theorem aT:∀ (n:Nat) (v:V) (d:D),Aa.rd H n v=some d->(gK d).canLay0=true/\(gK d).depth<=n:=by
 intro n
 induction n with
 | zero=>exact λZ Z e=>Aa.xN (show none=some _ from e)
 | succ n ih =>
  exact λv d e=>by
   refine Cg1 e (λe1 e2=>?_) (λb e1 e2=>?_) (λi e1 e2=>?_) (λs e1 hs e2=>?_) (λl ds e1 e9 e2=>?_) (λa l ds e1 hl e9 e2=>?_)<;>(subst e1;subst e2)
   ·exact ⟨rfl,D8 _⟩
   ·exact ⟨rfl,D8 _⟩
   ·exact ⟨rfl,D8 _⟩
   ·refine ⟨?_,D8 _⟩
    show PyData.strOk _=true
    unfold PyData.strOk
    simp only [List.all_eq_true,decide_eq_true_eq] at hs
    simp only [List.all_toArray',List.size_toArray,List.all_eq_true,decide_eq_true_eq]
    exact hs
   ·have:=sE (λv d=>ih v d) l ds e9
    exact ⟨this.1,E0 this.2⟩
   ·have:=sE (λv d=>ih v d) l ds e9
    exact ⟨this.1,E0 this.2⟩
end
theorem sH (l:List D) (d:D):((bA l).any λy=>PyData.eqv y (gK d))=l.any λy=>Aa.vZ y d:=by
 induction l with
 | nil=>rfl
 | cons x r ih =>
  show (PyData.eqv (gK x) (gK d)||(bA r).any λy=>PyData.eqv y (gK d))=(Aa.vZ x d||r.any λy=>Aa.vZ y d)
  exact qz ih (qz (jL _ _) rfl)
theorem Be9 (h:Aa.eqV a b H=some t):(∃ i j:Int,a=.int i/\b=.int j/\(i==j)=t)∨(∃ i j:List Nat,a=.str i/\b=.str j/\(i==j)=t)∨Aa.tN a b H=some t:=by
 replace h:(match Aa.tM a b with | some t=>some t | none=>Aa.tN a b H)=some t:=h
 cases e:Aa.tM a b with
 | none=>rw [e] at h;exact Or.inr (Or.inr h)
 | some u =>
  rw [e] at h
  cases h
  cases a with
  | int i =>
   replace e:=Aa.O6 e;obtain ⟨j,rfl,e⟩:=e
   exact Or.inl ⟨_,_,rfl,rfl,Option.some.inj e⟩
  | bool i =>
   replace e:=Aa.Ay4 e;obtain ⟨j,rfl,e⟩:=e
   refine Or.inr (Or.inr ?_)
   refine qz e.symm ?_;rfl
  | str i =>
   replace e:=Aa.oY e;obtain ⟨j,rfl,e⟩:=e
   exact Or.inr (Or.inl ⟨_,_,rfl,rfl,Option.some.inj e⟩)
  | _=>exact Aa.xN (show Option.none=some _ from e)
section
variable {X:Cx}{A:Around}{C:Aa.Calls}
theorem Bx3 {x y:Value}{K EX:Value->Shared->Prop}(hu:A.units+106<cLine)
  (O:Ok X.h₀ φ H s.heap) (ra:L8 X.h₀ φ s.heap a x) (rb:L8 X.h₀ φ s.heap b y) (h:Aa.eqV a b H=some t) (k:K (.bool t) s) :
  wpAny (S9 X) A (compareOp .Eq x y) K EX s:=by
 have deep:∀ {u v:D},Aa.rd H Aa.S2 a=some u->Aa.rd H Aa.S2 b=some v->Aa.vZ u v=t->wpAny (S9 X) A (compareOp .Eq x y) K EX s:=by
  intro u v e1 e2 e3
  obtain ⟨as,r1⟩:=cU O _ _ _ _ e1 ra
  obtain ⟨bs,r2⟩:=cU O _ _ _ _ e2 rb
  have c1:=aT _ _ _ e1
  have c2:=aT _ _ _ e2
  refine SeqAt.compareEq_reads r1 r2 c1.1 c2.1 ?_ ?_
  ·exact D7 (A6 (D2 (Nat.min_le_left _ _) (D2 c1.2 (by decide:100<=106))) _) hu
  ·exact qz (Eq.symm (jL _ _)) (qz e3 k)
 rcases Be9 h with ⟨a,b,rfl,rfl,rfl⟩|⟨a,b,rfl,rfl,rfl⟩|h
 ·obtain ⟨_,rfl⟩:=K9 ra
  obtain ⟨_,rfl⟩:=K9 rb
  exact PyProof.Rows.eq_int k
 ·obtain ⟨_,rfl⟩:=N0 ra
  obtain ⟨_,rfl⟩:=N0 rb
  refine PySem.P.eq_str ?_
  simpa using k
 ·obtain ⟨u,e1,h⟩:=Option.bind_eq_some_iff.mp h
  obtain ⟨v,e2,h⟩:=Option.bind_eq_some_iff.mp h
  exact deep e1 e2 (Option.some.inj h)
theorem Bw8 {x y:Value}{K EX:Value->Shared->Prop}(hu:A.units+106<cLine)
  (O:Ok X.h₀ φ H s.heap) (ra:L8 X.h₀ φ s.heap a x) (rb:L8 X.h₀ φ s.heap b y) (h:Aa.eqV a b H=some t) (k:K (.bool (!t)) s) :
  wpAny (S9 X) A (compareOp .NotEq x y) K EX s:=by
 have deep:∀ {u v:D},Aa.rd H Aa.S2 a=some u->Aa.rd H Aa.S2 b=some v->Aa.vZ u v=t->wpAny (S9 X) A (compareOp .NotEq x y) K EX s:=by
  intro u v e1 e2 e3
  obtain ⟨as,r1⟩:=cU O _ _ _ _ e1 ra
  obtain ⟨bs,r2⟩:=cU O _ _ _ _ e2 rb
  have c1:=aT _ _ _ e1
  have c2:=aT _ _ _ e2
  refine SeqAt.compareNe_reads r1 r2 c1.1 c2.1 ?_ ?_
  ·exact D7 (A6 (D2 (Nat.min_le_left _ _) (D2 c1.2 (by decide:100<=106))) _) hu
  ·exact qz (Eq.symm (jL _ _)) (qz e3 k)
 rcases Be9 h with ⟨a,b,rfl,rfl,rfl⟩|⟨a,b,rfl,rfl,rfl⟩|h
 ·obtain ⟨_,rfl⟩:=K9 ra
  obtain ⟨_,rfl⟩:=K9 rb
  exact PyProof.Rows.ne_int k
 ·obtain ⟨_,rfl⟩:=N0 ra
  obtain ⟨_,rfl⟩:=N0 rb
  refine PySem.P.ne_str ?_
  simpa [bne] using k
 ·obtain ⟨u,e1,h⟩:=Option.bind_eq_some_iff.mp h
  obtain ⟨v,e2,h⟩:=Option.bind_eq_some_iff.mp h
  exact deep e1 e2 (Option.some.inj h)
end
section
variable {X:Cx}{A:Around}{C:Aa.Calls}
theorem Bj1 {x y:Value}(hu:A.units+106<cLine)
  (O:Ok X.h₀ φ H s.heap) (ra:L8 X.h₀ φ s.heap a x) (rb:L8 X.h₀ φ s.heap t y) (h:Aa.Fq a t H=some b) :
  (∀ {K EX:Value->Shared->Prop},K (.bool b) s->wpAny (S9 X) A (compareOp .In x y) K EX s) /\
  (∀ {K EX:Value->Shared->Prop},K (.bool (!b)) s->wpAny (S9 X) A (compareOp .NotIn x y) K EX s):=by
 replace h:(match Aa.rd H Aa.S2 a,Aa.rd H Aa.S2 t with | some x,some (.tup l)=>some (l.any λy=>Aa.vZ y x) | _,_=>none)=some b:=h
 cases e1:Aa.rd H Aa.S2 a with
 | none=>rw [e1] at h;cases h
 | some u =>
  cases e2:Aa.rd H Aa.S2 t with
  | none=>rw [e1,e2] at h;cases h
  | some dt =>
   rw [e1,e2] at h
   cases dt with
   | tup l =>
    obtain ⟨as,r1⟩:=cU O _ _ _ _ e1 ra
    obtain ⟨bs,r2⟩:=cU O _ _ _ _ e2 rb
    have c1:=aT _ _ _ e1
    have c2:=aT _ _ _ e2
    replace c2:PyData.canLayAll0 (bA l)=true/\PyData.depthAll (bA l)+1<=Aa.S2:=c2
    cases h
    have hm:A.units+1+min (PyData.depthAll (bA l)) (gK u).depth<cLine:=D7 (A6 (D2 (Nat.min_le_right _ _) c1.2) _) (D7 (by show A.units+1+100<=A.units+106;exact qz (C2 _ _ _) (A6 (by decide) _)) hu)
    exact ⟨λk=>SeqAt.in_tuple_reads r2 r1 c2.1 c1.1 hm (qz (sH _ _) k),λk=>SeqAt.notIn_tuple_reads r2 r1 c2.1 c1.1 hm (qz (sH _ _) k)⟩
   | _=>cases h
theorem Ao2 {x y:Value}(hu:A.units+106<cLine)
  (O:Ok X.h₀ φ H s.heap) (ra:L8 X.h₀ φ s.heap a x) (rb:L8 X.h₀ φ s.heap b y) (h:Aa.inV a b H=some t) :
  (∀ {K EX:Value->Shared->Prop},K (.bool t) s->wpAny (S9 X) A (compareOp .In x y) K EX s) /\
  (∀ {K EX:Value->Shared->Prop},K (.bool (!t)) s->wpAny (S9 X) A (compareOp .NotIn x y) K EX s):=by
 cases b with
 | str a0 =>
  replace h:=Aa.oY h;obtain ⟨l,rfl,h⟩:=h
  replace h:=Aa.Bn0 h;obtain ⟨c,rfl,h⟩:=h
  cases h
  obtain ⟨_,rfl⟩:=N0 ra
  obtain ⟨_,rfl⟩:=N0 rb
  refine ⟨λk=>PyProof.Rows.in_str ?_,λk=>PyProof.Rows.notIn_str ?_⟩
  ·refine qz (StrLaws.found_one _ _) ?_
   simpa using k
  ·refine qz (StrLaws.found_one _ _) ?_
   simpa using k
 | tup a0 =>
  exact Bj1 hu O ra rb h
 | _=>exact Aa.xN (show Option.none=some _ from h)
theorem cS {x y:Value}{K EX:Value->Shared->Prop}(hu:A.units+106<cLine) (ho:Aa.nS o o'=true)
  (O:Ok X.h₀ φ H s.heap) (ra:L8 X.h₀ φ s.heap a x) (rb:L8 X.h₀ φ s.heap b y) (h:Aa.W5 o a b H=some t) (k:K (.bool t) s) :
  wpAny (S9 X) A (compareOp o' x y) K EX s:=by
 obtain rfl:o'=_:=eq_of_beq ho
 clear ho
 cases o
 ·exact Bx3 hu O ra rb h k
 ·obtain ⟨u,e,rfl⟩:=C1 h
  exact Bw8 hu O ra rb e k
 ·replace h:=Aa.O6 h;obtain ⟨i,rfl,h⟩:=h
  replace h:=Aa.O6 h;obtain ⟨j,rfl,h⟩:=h
  cases h
  obtain ⟨_,rfl⟩:=K9 ra
  obtain ⟨_,rfl⟩:=K9 rb
  exact lt_int k
 ·replace h:=Aa.O6 h;obtain ⟨i,rfl,h⟩:=h
  replace h:=Aa.O6 h;obtain ⟨j,rfl,h⟩:=h
  cases h
  obtain ⟨_,rfl⟩:=K9 ra
  obtain ⟨_,rfl⟩:=K9 rb
  exact PyProof.Rows.le_int k
 ·replace h:=Aa.O6 h;obtain ⟨i,rfl,h⟩:=h
  replace h:=Aa.O6 h;obtain ⟨j,rfl,h⟩:=h
  cases h
  obtain ⟨_,rfl⟩:=K9 ra
  obtain ⟨_,rfl⟩:=K9 rb
  exact gt_int k
 ·replace h:=Aa.O6 h;obtain ⟨i,rfl,h⟩:=h
  replace h:=Aa.O6 h;obtain ⟨j,rfl,h⟩:=h
  cases h
  obtain ⟨_,rfl⟩:=K9 ra
  obtain ⟨_,rfl⟩:=K9 rb
  exact PyProof.Rows.ge_int k
 ·exact (Ao2 hu O ra rb h).1 k
 ·obtain ⟨u,e,rfl⟩:=C1 h
  exact (Ao2 hu O ra rb e).2 k
theorem jK {gl sc nm e re}(h:Aa.K2 gl sc nm e re=true) (op:CmpOp):behindInMarks op re=false:=by
 have h:=(Aa.lK h).Dt
 cases re<;>first | rfl | nomatch h
theorem Bx5 (hl:L7 X A C l) (hr:L7 X A C r):L7 X A C (.bin o l r):=by
 intro re env nm ρ Q H φ s K EX hc L O h k
 refine Aa.Ca6 hc λl' o' r' p e9 Af=>?_
 clear hc;subst e9
 ·replace Af:=Aa.a3 Af
  obtain ⟨⟨h1,h2⟩,h3⟩:=Af
  replace h:=Aa.Cn6 h
  refine wpAny_BinOp (hl _ env nm ρ _ H φ s _ EX h2 L O h λa H1 φ1 x1 s1 q1 F1 r1=>?_)
  refine hr _ env nm ρ _ H1 φ1 s1 _ EX h3 (L.fwd O F1) F1.ok q1 λb H2 φ2 x2 s2 q2 F2 r2=>?_
  exact Bk4 h1 F2.ok (F2.val F1.ok r1) r2 q2 (k.after (F1.trans F2))
theorem Bw7:L7 X A C (.neg i):=by
 intro re env nm ρ Q H φ s K EX hc L O h k
 refine Aa.Aq2 hc λk9 p q e9=>?_
 clear hc;subst e9
 ·replace h:=Aa.Cn3 h
  exact UnaryOp_ (wpAny_Constant_int (PySem.P.neg_int (k _ _ _ _ _ h ((O8.tok O (E4 _)).trans (O8.tok O (E4 _))) U8)))
set_option tactic.hygienic true in
theorem Bx4 (hu:A.units+106<cLine) (hl:L7 X A C l) (hr:L7 X A C r):L7 X A C (.cmp o l r):=by
 intro re env nm ρ Q H φ s K EX hc L O h k
 refine Aa.Aq3 hc λl' o' r' p e9 Af=>?_
 clear hc;subst e9
 ·replace Af:=Aa.a3 Af
  obtain ⟨⟨h1,h2⟩,h3⟩:=Af
  replace h:=Aa.Bf5 h
  refine wpAny_Compare1 (hl _ env nm ρ _ H φ s _ EX h2 L O h λa H1 φ1 x1 s1 q1 F1 r1=>?_) (jK h3 _)
  refine hr _ env nm ρ _ H1 φ1 s1 _ EX h3 (L.fwd O F1) F1.ok q1 λb H2 φ2 x2 s2 q2 F2 r2=>?_
  unfold Aa.Bb at q2
  split at q2
  ·rename_i t e
   exact cS hu h1 F2.ok (F2.val F1.ok r1) r2 e (k _ _ _ _ _ q2 (F1.trans F2) dQ)
  ·exact q2.elim
set_option tactic.hygienic true in
theorem Bk1 (hu:A.units+106<cLine) (ha:L7 X A C a) (hb:L7 X A C b) (Cs:L7 X A C c):L7 X A C (.Dk o6 o0 a b c):=by
 intro re env nm ρ Q H φ s K EX hc L O h k
 refine Aa.xV hc λa' o' p' b' c' p e9 Af=>?_
 clear hc;subst e9
 ·replace Af:=Aa.a5 Af
  obtain ⟨⟨⟨⟨h1,h2⟩,h3⟩,h4⟩,h5⟩:=Af
  replace h:=Aa.Ap7 h
  refine Compare_chain (ha _ env nm ρ _ H φ s _ EX h3 L O h λva H1 φ1 x1 s1 q1 F1 r1=>?_) (by simpa [lastMarks] using jK h5 _)
  refine chain_link (hb _ env nm ρ _ H1 φ1 s1 _ EX h4 (L.fwd O F1) F1.ok q1 λvb H2 φ2 x2 s2 q2 F2 r2=>?_)
  unfold Aa.Bb at q2
  split at q2
  ·rename_i t e
   refine cS hu h1 F2.ok (F2.val F1.ok r1) r2 e (wpAny_truthy_bool ?_)
   cases t with
   | false=>exact k _ _ _ _ _ q2 (F1.trans F2) dQ
   | true =>
    refine chain_last (Cs _ env nm ρ _ H2 φ2 s2 _ EX h5 ((L.fwd O F1).fwd F1.ok F2) F2.ok q2 λvc H3 φ3 x3 s3 q3 F3 r3=>?_)
    unfold Aa.Bb at q3
    split at q3
    ·rename_i t e
     exact cS hu h2 F3.ok (F3.val F2.ok r2) r3 e (k _ _ _ _ _ q3 ((F1.trans F2).trans F3) dQ)
    ·exact q3.elim
  ·exact q2.elim
noncomputable def cstC:Aa.Cst->Const
 | .none=>.none
 | .tt=>.bool true
 | .ff=>.bool false
noncomputable def Dc8:Aa.Cst->Value
 | .none=>.none
 | .tt=>.bool true
 | .ff=>.bool false
theorem Bf0 (hc:Aa.nO c e=true):∃ k p,e=.Constant (cstC c) k p:=by
 refine Aa.X1 hc λk u p e9 h=>?_
 subst e9
 cases c
 ·exact qz (Aa.qB h) ⟨_,_,rfl⟩
 ·exact qz (Aa.iF h) ⟨_,_,rfl⟩
 ·exact qz (Aa.iF h) ⟨_,_,rfl⟩
set_option tactic.hygienic true in
theorem tG {x:Value}{h₀ φ h}{env:Env}(r:L8 h₀ φ h v x) (hc:Aa.nO c e=true) :
  ∃ y,(∀ {K EX:Value->Shared->Prop},K y s->wpAny (S9 X) A (eval e env) K EX s)/\plainIs x y=true/\(x==y)=Aa.isV v c:=by
 obtain ⟨k,p,rfl⟩:=Bf0 hc
 refine ⟨Dc8 c,λk=>by cases c<;>exact wpAny_pure k,?_⟩
 cases v
 ·obtain rfl:=kM r;cases c<;>exact ⟨rfl,rfl⟩
 ·rename_i b;obtain rfl:=aQ r;cases b<;>cases c<;>exact ⟨rfl,rfl⟩
 ·obtain ⟨t,rfl⟩:=r;cases c<;>exact ⟨rfl,rfl⟩
 ·obtain ⟨_,t,rfl⟩:=r;cases c<;>exact ⟨rfl,rfl⟩
 ·obtain ⟨a,_,rfl⟩:=r;cases c<;>exact ⟨rfl,rfl⟩
 ·obtain ⟨_,a,vs,rfl,_⟩:=r;cases c<;>exact ⟨rfl,rfl⟩
 ·obtain ⟨_,a,vs,rfl,_⟩:=r;cases c<;>exact ⟨rfl,rfl⟩
theorem gF (hc:Aa.nO c e=true) (op:CmpOp):behindInMarks op e=false:=by
 obtain ⟨k,p,rfl⟩:=Bf0 hc
 rfl
theorem Cm2 (he:L7 X A C e):L7 X A C (.is e c):=by
 intro re env nm ρ Q H φ s K EX hc L O h k
 refine Aa.Bg6 hc λe' r' p e9 Af=>?_
 clear hc;subst e9
 ·replace Af:=Aa.E7 Af
  replace h:=Aa.Cg7 h
  refine wpAny_Compare1 (he _ env nm ρ _ H φ s _ EX Af.1 L O h λa H1 φ1 x1 s1 q1 F1 r1=>?_) (gF Af.2 _)
  obtain ⟨y,ev,hp,hq⟩:=tG (X:=X) (A:=A) (env:=env) (s:=s1) r1 Af.2
  refine ev (wpAny_is_plain hp ?_)
  exact qz hq (k _ _ _ _ _ q1 F1 dQ)
theorem Av6 (he:L7 X A C e):L7 X A C (.Az e c):=by
 intro re env nm ρ Q H φ s K EX hc L O h k
 refine Aa.sK hc λe' r' p e9 Af=>?_
 clear hc;subst e9
 ·replace Af:=Aa.E7 Af
  replace h:=Aa.xR h
  refine wpAny_Compare1 (he _ env nm ρ _ H φ s _ EX Af.1 L O h λa H1 φ1 x1 s1 q1 F1 r1=>?_) (gF Af.2 _)
  obtain ⟨y,ev,hp,hq⟩:=tG (X:=X) (A:=A) (env:=env) (s:=s1) r1 Af.2
  refine ev (wpAny_isNot_plain hp ?_)
  exact qz hq (k _ _ _ _ _ q1 F1 dQ)
theorem jI {h₀ φ h}{x:Value}(r:L8 h₀ φ h v x) (e:Aa.O4 v=some t):x=.bool t:=by
 cases v<;>simp [Aa.O4] at e
 subst e
 exact aQ r
set_option tactic.hygienic true in
theorem Bw5 (he:L7 X A C e):L7 X A C (.not e):=by
 intro re env nm ρ Q H φ s K EX hc L O h k
 refine Aa.Aq1 hc λe' p e9 Af=>?_
 clear hc;subst e9
 ·replace h:=Aa.Bf4 h
  refine UnaryOp_ (he _ env nm ρ _ H φ s _ EX Af L O h λa H1 φ1 x1 s1 q1 F1 r1=>?_)
  unfold Aa.Bb at q1
  split at q1
  ·rename_i t e
   obtain rfl:=jI r1 e
   exact not_of (wpAny_truthy_bool (k _ _ _ _ _ q1 F1 dQ))
  ·exact q1.elim
noncomputable def gL (X:Cx) (A:Around) (C:Aa.Calls) (es:List Aa.E):Prop:=∀ e∈es,L7 X A C e
set_option tactic.hygienic true in
theorem pQ:∀ (es:List Aa.E) (res:List Expr) (env:Env) (nm:List Str) (ρ:Aa.M6) (Q:V->Aa.Heap->Prop) (H:Aa.Heap) (φ:List Addr) (s:Shared) (K EX:Value->Shared->Prop) (p:Pos),
  gL X A C es->Aa.S0 X.gl env.scope.names nm es res=true->L9 X φ nm env ρ s->Ok X.h₀ φ H s.heap->Aa.lJ C es ρ Q H->aG X Q φ s K ->
  wpAny (S9 X) A (eval (.BoolOp .And res p) env) K EX s
 | []=>λZ Z Z Z Z Z Z Z Z Z Z Z Z Z Z h Z=>B4 h
 | e::es=>λres env nm ρ Q H φ s K EX p hs hc L O h k=>by
  cases res with
  | nil=>nomatch hc
  | cons re res =>
   replace hc:=Aa.E7 hc
   cases es with
   | nil =>
    cases res with
    | cons _ _=>nomatch hc.2
    | nil=>exact BoolOp_one (hs e (by simp) _ env nm ρ Q H φ s K EX hc.1 L O h k)
   | cons e2 es =>
    cases res with
    | nil=>nomatch hc.2
    | cons re2 res =>
     refine BoolOp_and (hs e (by simp) _ env nm ρ _ H φ s _ EX hc.1 L O h λv H1 φ1 x1 s1 q1 F1 r1=>?_)
     unfold Aa.Bb at q1
     split at q1
     ·rename_i t e
      obtain rfl:=jI r1 e
      refine wpAny_truthy_bool ?_
      cases t with
      | false=>exact k _ _ _ _ _ q1 F1 r1
      | true =>
       simp only at q1
       exact pQ (e2::es) (re2::res) env nm ρ Q H1 φ1 s1 K EX p (λe' he'=>hs e' (C5 _ he')) hc.2 (L.fwd O F1) F1.ok q1 (k.after F1)
     ·exact q1.elim
set_option tactic.hygienic true in
theorem rZ:∀ (es:List Aa.E) (res:List Expr) (env:Env) (nm:List Str) (ρ:Aa.M6) (Q:V->Aa.Heap->Prop) (H:Aa.Heap) (φ:List Addr) (s:Shared) (K EX:Value->Shared->Prop) (p:Pos),
  gL X A C es->Aa.S0 X.gl env.scope.names nm es res=true->L9 X φ nm env ρ s->Ok X.h₀ φ H s.heap->Aa.wF C es ρ Q H->aG X Q φ s K ->
  wpAny (S9 X) A (eval (.BoolOp .Or res p) env) K EX s
 | []=>λZ Z Z Z Z Z Z Z Z Z Z Z Z Z Z h Z=>B4 h
 | e::es=>λres env nm ρ Q H φ s K EX p hs hc L O h k=>by
  cases res with
  | nil=>nomatch hc
  | cons re res =>
   replace hc:=Aa.E7 hc
   cases es with
   | nil =>
    cases res with
    | cons _ _=>nomatch hc.2
    | nil=>exact BoolOp_one (hs e (by simp) _ env nm ρ Q H φ s K EX hc.1 L O h k)
   | cons e2 es =>
    cases res with
    | nil=>nomatch hc.2
    | cons re2 res =>
     refine BoolOp_or (hs e (by simp) _ env nm ρ _ H φ s _ EX hc.1 L O h λv H1 φ1 x1 s1 q1 F1 r1=>?_)
     unfold Aa.Bb at q1
     split at q1
     ·rename_i t e
      obtain rfl:=jI r1 e
      refine wpAny_truthy_bool ?_
      cases t with
      | true=>exact k _ _ _ _ _ q1 F1 r1
      | false =>
       simp only at q1
       exact rZ (e2::es) (re2::res) env nm ρ Q H1 φ1 s1 K EX p (λe' he'=>hs e' (C5 _ he')) hc.2 (L.fwd O F1) F1.ok q1 (k.after F1)
     ·exact q1.elim
theorem Bx6 (hs:gL X A C es):L7 X A C (.and es):=by
 intro re env nm ρ Q H φ s K EX hc L O h k
 refine Aa.Aq4 hc λb9 p e9 Af=>?_
 clear hc;subst e9
 ·replace h:=Aa.Bf6 h
  exact pQ es _ env nm ρ Q H φ s K EX _ hs Af L O h k
theorem Cm1 (hs:gL X A C es):L7 X A C (.or es):=by
 intro re env nm ρ Q H φ s K EX hc L O h k
 refine Aa.Bg5 hc λb9 p e9 Af=>?_
 clear hc;subst e9
 ·replace h:=Aa.Cg6 h
  exact rZ es _ env nm ρ Q H φ s K EX _ hs Af L O h k
end
noncomputable def gQ (v:Option Int) (d:Int) (n:Nat):Int:=match v with
 | none=>d
 | some i=>max 0 (min (if i<0 then i+n else i) n)
theorem Be7 {a b:Int}(h:a<0):a+b<=b:=by
 have:=Int.add_le_add_right (Int.le_of_lt h) b
 rw [Int.zero_add] at this;exact this
theorem Ap1 (i:Int) (n:Nat):max 0 (min (if i<0 then i+n else i) n)=(Aa.nU i n:Int):=by
 show _=(((if i<0 then (i+n).toNat else min i.toNat n):Nat):Int)
 by_cases h:i<0
 ·exact qz (if_pos h) (qz (if_pos h) (qz (Int.min_eq_left (Be7 h)) (qz (Int.max_comm _ _) (qz (Int.ofNat_toNat _) rfl))))
 ·obtain ⟨k,rfl⟩:=Int.eq_ofNat_of_zero_le (Int.not_lt.mp h)
  refine qz (if_neg h) (qz (if_neg h) (qz (Int.toNat_natCast _) (qz (Int.max_eq_right (Int.le_min.mpr ⟨C6 k,C6 n⟩)) ?_)))
  rcases Nat.le_total k n with q|q
  ·exact qz (Nat.min_eq_left q) (qz (Int.min_eq_left (Int.ofNat_le.mpr q)) rfl)
  ·exact qz (Nat.min_eq_right q) (qz (Int.min_eq_right (Int.ofNat_le.mpr q)) rfl)
theorem xO (v:Option Int) (n:Nat):gQ v 0 n=(Aa.Ad4 v n:Int):=by
 cases v with
 | none=>rfl
 | some i=>exact Ap1 i n
theorem xP (v:Option Int) (n:Nat):gQ v n n=(Aa.wI v n:Int):=by
 cases v with
 | none=>rfl
 | some i=>exact Ap1 i n
theorem Ai2 {α:Type}(l:List α) (a b:Nat) (hb:b<=l.length):(sliceRange (a:Int) (b:Int) 1).filterMap (l[·]?)=(l.take b).drop a:=by
 unfold sliceRange
 by_cases h:a<b
 ·have e:(if (1:Int)>0 then (if (a:Int)<b then ((b:Int) - a+1 - 1) / 1 else 0) else (if (a:Int)>b then ((a:Int) - b - 1 - 1) / (-1) else 0)).toNat=b - a:=by
   exact qz (if_pos (by decide)) (qz (if_pos (Int.ofNat_lt.mpr h)) (qz (Int.ediv_one _) (qz (Int.add_sub_cancel _ _) (Int.toNat_sub b a))))
  simp only [e]
  have e2:(List.range (b - a)).map (λk:Nat=>((a:Int)+1 * (k:Int)).toNat)=(List.range (b - a)).map (λk=>a+k):=List.map_congr_left λk Z=>by refine qz (Int.one_mul _) ?_;rfl
  exact qz e2 (qz (StrLaws.picks l (b - a) a (by rw [Nat.add_sub_cancel' (E2 h)];exact hb)) (qz List.drop_take rfl))
 ·have e:(if (1:Int)>0 then (if (a:Int)<b then ((b:Int) - a+1 - 1) / 1 else 0) else (if (a:Int)>b then ((a:Int) - b - 1 - 1) / (-1) else 0)).toNat=0:=by
   refine qz (if_pos (by decide)) (qz (if_neg λq=>h (Int.ofNat_lt.mp q)) ?_);rfl
  simp only [e]
  refine qz (List.drop_eq_nil_of_le (D2 (List.length_take_le b l) (Nat.le_of_not_lt h))) ?_
  rfl
theorem Aw9 (i:Int) (n:Nat):Aa.nU i n<=n:=by
 show (if i<0 then (i+n).toNat else min i.toNat n)<=n
 by_cases h:i<0
 ·exact qz (if_pos h) (Int.toNat_le.mpr (Be7 h))
 ·exact qz (if_neg h) (Nat.min_le_right _ _)
theorem Ao8 (hi:Option Int) (n:Nat):Aa.wI hi n<=n:=by
 cases hi with
 | none=>exact D3 _
 | some i=>exact Aw9 i _
theorem pS {α:Type}(l:List α) (lo hi:Option Int):(sliceRange (gQ lo 0 l.length) (gQ hi l.length l.length) 1).filterMap (l[·]?)=Aa.slice l lo hi:=by
 refine qz (xO _ _) (qz (xP _ _) (qz (Ai2 _ _ _ (Ao8 hi _)) ?_))
 rfl
theorem jU (vs:List Value) (lo hi:Option Int):slicePick vs.toArray lo hi none=(Aa.slice vs lo hi).toArray:=by
 have:=pS vs lo hi
 unfold slicePick
 refine qz this.symm ?_
 congr 1
 have e:∀ x:Nat,vs.toArray[x]? = vs[x]?:=λx=>by simp
 simp only [e]
 cases lo<;>cases hi<;>simp [sliceBounds,gQ]
theorem zM (l:List Nat) (lo hi:Option Int):Txt.slice ⟨l.toArray⟩ lo hi=⟨(Aa.slice l lo hi).toArray⟩:=by
 have h:=pS l lo hi
 have e:Builtin.Str.strSliceIndices lo hi 1 (Str.length ⟨l.toArray⟩)=sliceRange (gQ lo 0 l.length) (gQ hi l.length l.length) 1:=by
  cases lo<;>cases hi<;>simp [Builtin.Str.strSliceIndices,gQ,Str.length]
 have e1:∀ x:Nat,(Str.mk l.toArray).cps[x]? = l[x]?:=λx=>by simp
 unfold Txt.slice
 refine qz e ?_
 split
 ·rename_i hc
  simp only [BEq.rfl,Bool.true_and,beq_iff_eq] at hc
  have hr:(sliceRange (gQ lo 0 l.length) (gQ hi l.length l.length) 1).length=l.length:=by simpa [Str.length] using hc
  rw [xO,xP] at hr
  unfold Aa.slice
  have hb':=Ao8 hi l.length
  generalize Aa.Ad4 lo l.length=a at *
  generalize Aa.wI hi l.length=b at *
  unfold sliceRange at hr
  simp only [E3,List.length_range] at hr
  rw [if_pos (by decide)] at hr
  by_cases l8:(a:Int)<b
  ·rw [if_pos l8,Int.ediv_one] at hr
   have h1:a=0:=by lia
   have h2:b=l.length:=by lia
   subst h1;subst h2;simp
  ·rw [if_neg l8] at hr
   have:l=[]:=by
    apply List.eq_nil_of_length_eq_zero;simpa using hr.symm
   subst this;simp
 ·simp only [e1,h]
theorem H8.take {h₀ φ h}:∀ {l:List V}{vs:List Value}(n:Nat),H8 h₀ φ h l vs->H8 h₀ φ h (l.take n) (vs.take n)
 | _,_,0=>λZ=>by simpa using H8.nil
 | [],vs,n+1=>λr=>by have:=r.Bo;subst this;simpa using H8.nil
 | v::l,vs,n+1=>λr=>by
  obtain ⟨x,vs',rfl,r1,r2⟩:=r.Ax
  simp only [List.take_succ_cons]
  exact H8.cons r1 (H8.take n r2)
theorem H8.drop {h₀ φ h}:∀ {l:List V}{vs:List Value}(n:Nat),H8 h₀ φ h l vs->H8 h₀ φ h (l.drop n) (vs.drop n)
 | _,_,0=>λr=>by simpa using r
 | [],vs,n+1=>λr=>by have:=r.Bo;subst this;simpa using H8.nil
 | v::l,vs,n+1=>λr=>by
  obtain ⟨x,vs',rfl,r1,r2⟩:=r.Ax
  simp only [List.drop_succ_cons]
  exact H8.drop n r2
theorem H8.slice {h₀ φ h}(lo hi:Option Int) (r:H8 h₀ φ h l vs):H8 h₀ φ h (Aa.slice l lo hi) (Aa.slice vs lo hi):=by
 unfold Aa.slice
 exact qz r.length (H8.drop _ (H8.take _ r))
theorem dO.Gb {h₀ φ h}:∀ {l:List Int}{vs:List Value},dO l vs->H8 h₀ φ h (l.map V.int) vs
 | [],[]=>λZ=>H8.nil
 | i::l,x::r=>λH=>by
  obtain ⟨⟨t,rfl⟩,H⟩:=H
  exact H8.cons U8 (dO.Gb H)
 | [],_::_=>λH=>B4 H
 | _::_,[]=>λH=>B4 H
theorem Aw0 {α β:Type}(f:α->β) (l:List α) (lo hi:Option Int):Aa.slice (l.map f) lo hi=(Aa.slice l lo hi).map f:=by
 unfold Aa.slice
 simp [List.map_drop,List.map_take]
theorem kN {α:Type}(l:List α) (lo hi:Option Int):(Aa.slice l lo hi).length<=l.length:=by
 unfold Aa.slice
 exact qz List.length_drop (D2 (Nat.sub_le _ _) (List.length_take_le' _ _))
theorem sB {n j:Nat}(h:Aa.R2 i n=some j):seqIndex? i n=some j/\j<n/\-(n:Int)<=i/\i<n:=by
 replace h:(if 0<=i then (if i<n then some i.toNat else none) else if -(n:Int)<=i then some (i+n).toNat else none)=some j:=h
 by_cases h1:0<=i
 ·rw [if_pos h1] at h
  obtain ⟨h2,h⟩:=Aa.bD h
  subst h
  exact ⟨StrLaws.seqIndex_nonneg h1 h2,(Int.toNat_lt h1).mpr h2,Int.le_trans (Int.neg_nonpos_of_nonneg (C6 n)) h1,h2⟩
 ·rw [if_neg h1] at h
  obtain ⟨h2,h⟩:=Aa.bD h
  subst h
  have h3:=Int.not_le.mp h1
  exact ⟨StrLaws.seqIndex_neg h3 h2,by lia,h2,Int.lt_of_lt_of_le h3 (C6 n)⟩
section
variable {X:Cx}{A:Around}{C:Aa.Calls}
theorem eP {s:Shared}{vs:List Value}{x:Value}{K EX:Value->Shared->Prop}(hl:s.heap.IsList l vs.toArray) (hz:vs.length<=Aa.P0)
  (hj:Aa.R2 k vs.length=some j) (hx:vs[j]? = some x) (h:K x s):wpAny (S9 X) A (getItem (.ref l) (.int k t)) K EX s:=by
 have hlim:Aa.P0=16777216:=rfl
 unfold Aa.R2 at hj
 split at hj
 ·split at hj
  ·cases hj
   exact wpAny_getItem_list hl (by assumption) (by lia) (by simpa using hx) h
  ·cases hj
 ·split at hj
  ·cases hj
   refine wpAny_getItem_list_neg hl (by lia) (by simpa using by assumption) ?_ ?_ h
   all_goals first | lia | (simp;lia) | (simpa using hx)
  ·cases hj
theorem Bj4 {x y:Value}{H:Aa.Heap}{φ:List Addr}{s:Shared}{K EX:Value->Shared->Prop}{value slice:Expr}
  (hs:subscripted slice false x y=operate [x,y] (getItem x y)) (O:Ok X.h₀ φ H s.heap) (ro:L8 X.h₀ φ s.heap o x) (ri:L8 X.h₀ φ s.heap i y) (h:Aa.cL o i H=some v)
  (k:∀ z tk,L8 X.h₀ φ s.heap v z->s.toks<=tk->K z { s with toks:=tk }):wpAny (S9 X) A (subscriptTail value slice x y) K EX s:=by
 have hlim:Aa.P0=16777216:=rfl
 replace h:=Aa.O6 h;obtain ⟨i,rfl,h⟩:=h
 cases o with
 | str l =>
  replace h:(Aa.R2 i l.length).bind (λk=>(l[k]?).map λc=>V.str [c])=some v:=h
  have hz:=len_str ro
  obtain ⟨t,rfl⟩:=N0 ro
  obtain ⟨u,rfl⟩:=K9 ri
  cases e:Aa.R2 i l.length with
  | none=>rw [e] at h;cases h
  | some j =>
   rw [e] at h
   obtain ⟨p1,p2,p3,p4⟩:=sB e
   have hj:l[j]? = some l[j]:=A8 p2
   simp only [Option.bind_some,hj,Option.map_some,Option.some.injEq] at h
   subst h
   have hch:Txt.charAt ⟨l.toArray⟩ i=some l[j]:=by
    unfold Txt.charAt
    have:(Str.mk l.toArray).length=l.length:=by simp [Str.length]
    refine qz this (qz p1 ?_)
    simp [hj]
   refine tail_any (typeIs_str _ _ _) F.slot_str_getitem.lookup (SB.getItem ?_ ?_ ?_) hs
   ·unfold fitsSsize
    simp
    lia
   ·refine qz hch ?_;rfl
   ·refine k _ _ (mK ?_ (by simp;exact Aa.S5 (A4 hlim.symm))) (E4 _)
    unfold Txt.item
    refine qz hch ?_;rfl
 | tup l =>
  replace h:(Aa.R2 i l.length).bind (λk=>l[k]?)=some v:=h
  have hz:=uG ro
  obtain ⟨a,vs,rfl,ht,rs⟩:=fE ro
  obtain ⟨u,rfl⟩:=K9 ri
  cases e:Aa.R2 i l.length with
  | none=>rw [e] at h;cases h
  | some j =>
   rw [e] at h
   obtain ⟨p1,p2,p3,p4⟩:=sB e
   simp only [Option.bind_some] at h
   obtain ⟨z,hz',rz⟩:=rs.get h
   have Gm:l.length=vs.length:=rs.length
   refine tail_any (T := "tuple") ht.typeIs F.slot_tuple_getitem.lookup (PyProof.Rows.getItem_tuple ht (by lia) (by lia) (j:=j) ?_ ?_ (k _ s.toks rz (D3 _))) hs
   ·exact qz List.size_toArray (qz Gm.symm p1)
   ·simpa using hz'
 | Bv l =>
  replace h:(Aa.R2 i l.length).bind (λk=>(l[k]?).map V.int)=some v:=h
  obtain ⟨hz,a,vs,rfl,ht,rs⟩:=fF ro
  obtain ⟨u,rfl⟩:=K9 ri
  have j9:H8 X.h₀ φ s.heap (l.map V.int) vs:=rs.Gb
  have Gm:l.length=vs.length:=by simpa using j9.length
  have hL:s.heap.IsList a vs.toArray:=by obtain ⟨o,ho,r⟩:=ht;exact ⟨o,O.base _ _ ho,r⟩
  cases e:Aa.R2 i l.length with
  | none=>rw [e] at h;cases h
  | some j =>
   rw [e] at h
   simp only [Option.bind_some] at h
   have h':(l.map V.int)[j]? = some v:=by simpa using h
   obtain ⟨z,hz',rz⟩:=j9.get h'
   exact tail_any (T := "list") hL.typeIs F.slot_list_getitem.lookup (eP hL (by exact Aa.S5 (Aa.U1 (A4 Gm.symm) hz)) (qz Gm.symm e) hz' (k _ s.toks rz (D3 _))) hs
 | ref a =>
  replace h:(H[a]?).bind (λl=>(Aa.R2 i l.length).bind λk=>l[k]?)=some v:=h
  obtain ⟨p,hp,rfl⟩:=Q3 ro
  obtain ⟨u,rfl⟩:=K9 ri
  cases e0:H[a]? with
  | none=>rw [e0] at h;cases h
  | some l =>
   rw [e0] at h
   simp only [Option.bind_some] at h
   obtain ⟨vs,hpl,rs⟩:=O.lists _ _ _ hp e0
   have hz:=O.small l (E5 e0)
   have Gm:l.length=vs.length:=rs.length
   cases e:Aa.R2 i l.length with
   | none=>rw [e] at h;cases h
   | some j =>
    rw [e] at h
    simp only [Option.bind_some] at h
    obtain ⟨z,hz',rz⟩:=rs.get h
    exact tail_any (T := "list") hpl.isList.typeIs F.slot_list_getitem.lookup (eP hpl.isList (by exact Aa.S5 (Aa.U1 (A4 Gm.symm) hz)) (qz Gm.symm e) hz' (k _ s.toks rz (D3 _))) hs
 | _=>exact Aa.xN (show Option.none=some v from h)
theorem Aw2 {gl sc nm e re}(h:Aa.K2 gl sc nm e re=true) (o i:Value):subscripted re false o i=operate [o,i] (getItem o i):=by
 have h:=(Aa.lK h).Dt
 cases re<;>first | rfl | nomatch h
set_option tactic.hygienic true in
theorem Bx2 (ho:L7 X A C o) (hi:L7 X A C i):L7 X A C (.idx o i):=by
 intro re env nm ρ Q H φ s K EX hc L O h k
 refine Aa.Ca5 hc λo' i' p e9 Af=>?_
 clear hc;subst e9
 ·replace Af:=Aa.E7 Af
  replace h:=Aa.Cn5 h
  refine Subscript_ (ho _ env nm ρ _ H φ s _ EX Af.1 L O h λa H1 φ1 x1 s1 q1 F1 r1=>?_)
  refine hi _ env nm ρ _ H1 φ1 s1 _ EX Af.2 (L.fwd O F1) F1.ok q1 λb H2 φ2 x2 s2 q2 F2 r2=>?_
  unfold Aa.val at q2
  split at q2
  ·rename_i v e
   exact Bj4 (Aw2 Af.2 _ _) F2.ok (F2.val F1.ok r1) r2 e λz tk rz ht=>k _ _ _ _ _ q2 ((F1.trans F2).trans (O8.tok F2.ok ht)) rz
  ·exact q2.elim
end
noncomputable def pv:Option (Int×Tok)->Value
 | none=>.none
 | some (i,t)=>.int i t
theorem mJ (v:Option (Int×Tok)):IsPart (pv v) (v.map (·.1)):=by
 cases v with
 | none=>exact .none
 | some v=>exact .int _ _
theorem kO {vs:List Value}(h:vs.length<=Aa.P0):sizeOk (.seq vs.toArray):=by
 show vs.toArray.size<=_
 have:sizeLine=Aa.P0:=M2
 simp;exact Aa.S5 (Aa.U1 h (A4 this.symm))
section
variable {X:Cx}{A:Around}{C:Aa.Calls}
theorem oV {lo hi:Option (Int×Tok)}{x:Value}{Q:V->Aa.Heap->Prop}{K EX:Value->Shared->Prop}
  (O:Ok X.h₀ φ H s.heap) (ro:L8 X.h₀ φ s.heap o x) (h:Aa.res (Aa.cK o (lo.map (·.1)) (hi.map (·.1)) H) Q) (k:aG X Q φ s K) :
  wpAny (S9 X) A (subscriptTail value (.Slice lx hx none p) x (.ref s.heap.objs.size)) K EX { s with heap:=s.heap.push { cls:=.type "slice",data:=.fields #[pv lo,pv hi,.none] } }:=by
 have F0:O8 X.h₀ φ s φ H { s with heap:=s.heap.push { cls:=.type "slice",data:=.fields #[pv lo,pv hi,.none] } }:=O8.push O (D3 _)
 have ro':=F0.val O ro
 cases o with
 | str l =>
  have hz:=len_str ro
  obtain ⟨t,rfl⟩:=N0 ro
  refine free (tail_any (typeIs_str _ _ _) F.slot_str_getitem.lookup (ops:=[.ref s.heap.objs.size,_]) (wpAny_getItem_str_slice (l:=lo) (u:=hi) (st:=none) ⟨_,Heap.get?_push_size _ rfl,rfl,?_⟩ rfl
   (post_val_or_str ⟨?_,λt' k' ht=>?_⟩)) rfl)
  ·cases lo<;>cases hi<;>rfl
  ·have:(Txt.slice ⟨l.toArray⟩ (lo.map (·.1)) (hi.map (·.1))).length<=sizeLine:=by
    refine D2 (Txt.slice_le _ _ _) ?_
    refine qz M2 ?_;simpa [Str.length] using hz
   exact this
  ·refine k _ _ _ _ _ h (F0.trans (O8.tok F0.ok ht)) (mK (zM _ _ _) ?_)
   exact D2 (kN _ _ _) hz
 | Bv l =>
  obtain ⟨hz,a,vs,rfl,ht,rs⟩:=fF ro
  have j9:H8 X.h₀ φ (s.heap.push { cls:=.type "slice",data:=.fields #[pv lo,pv hi,.none] }) (l.map V.int) vs:=rs.Gb
  have hL:(s.heap.push { cls:=.type "slice",data:=.fields #[pv lo,pv hi,.none] }).IsList a vs.toArray:=by
   obtain ⟨o,ho,r⟩:=ht;exact ⟨o,Heap.get?_push_of_some _ (O.base _ _ ho),r⟩
  have Gm:l.length=vs.length:=by simpa using j9.length
  have F1:=O8.alloc (n:=0) (tk:=s.toks) F0.ok (j9.slice (lo.map (·.1)) (hi.map (·.1))) (by
   refine D2 (kN _ _ _) ?_;simpa using hz) (D3 _)
  refine tail_any (T := "list") (ops:=[.ref s.heap.objs.size,_]) (Heap.IsList.typeIs (s:={ s with heap:=s.heap.push { cls:=.type "slice",data:=.fields #[pv lo,pv hi,.none] } }) hL) F.slot_list_getitem.lookup
   (wpAny_getItem_list_slice hL (Heap.IsSliceOf.new ..) (mJ lo) (mJ hi) .none (by simp) ?_ ?_) rfl
  ·refine qz (jU _ _ _) ?_
   rw [Aw0] at F1
   exact k _ _ _ _ _ h (F0.trans F1) (fA (by refine qz O.len.symm ?_;simp))
  ·refine qz M2 ?_;simp [<- Gm];exact hz
 | ref a =>
  obtain ⟨q,hq,rfl⟩:=Q3 ro
  replace h:Aa.res ((H[a]?).map λl=>(.ref H.length,H++[Aa.slice l (lo.map (·.1)) (hi.map (·.1))])) Q:=h
  cases e0:H[a]? with
  | none=>rw [e0] at h;exact h.elim
  | some l =>
   rw [e0] at h
   obtain ⟨vs,hpl,rs⟩:=F0.ok.lists _ _ _ hq e0
   have hz:=O.small l (E5 e0)
   have Gm:l.length=vs.length:=rs.length
   have F1:=O8.alloc (n:=0) (tk:=s.toks) F0.ok (rs.slice (lo.map (·.1)) (hi.map (·.1))) (D2 (kN _ _ _) hz) (D3 _)
   refine tail_any (T := "list") (ops:=[.ref s.heap.objs.size,_]) (Heap.IsList.typeIs (s:={ s with heap:=s.heap.push { cls:=.type "slice",data:=.fields #[pv lo,pv hi,.none] } }) hpl.isList) F.slot_list_getitem.lookup
    (wpAny_getItem_list_slice hpl.isList (Heap.IsSliceOf.new ..) (mJ lo) (mJ hi) .none (by simp) ?_ ?_) rfl
   ·exact qz (jU _ _ _) (k _ _ _ _ _ h (F0.trans F1) (fA (by rw [<- O.len];simp)))
   ·refine qz M2 ?_;simp [<- Gm];exact hz
 | _=>exact B4 h
theorem Bw1 (ho:L7 X A C o) (hl:L7 X A C l) (hr:L7 X A C r):L7 X A C (.slc o l r):=by
 intro re env nm ρ Q H φ s K EX hc L O h k
 refine Aa.Ca2 hc λo' l' u' q p e9 Af=>?_
 clear hc;subst e9
 ·replace Af:=Aa.a3 Af
  obtain ⟨⟨h1,h2⟩,h3⟩:=Af
  replace h:=Aa.Cn0 h
  refine Subscript_ (ho _ env nm ρ _ H φ s _ EX h1 L O h λa H1 φ1 x1 s1 q1 F1 r1=>?_)
  refine wpAny_Slice ?_
  refine qz (evalPart_some _ _) (qz (evalPart_some _ _) (qz (evalPart_none _) ?_))
  refine hl _ env nm ρ _ H1 φ1 s1 _ EX h2 (L.fwd O F1) F1.ok q1 λb H2 φ2 x2 s2 q2 F2 r2=>?_
  refine hr _ env nm ρ _ H2 φ2 s2 _ EX h3 ((L.fwd O F1).fwd F1.ok F2) F2.ok q2 λc H3 φ3 x3 s3 q3 F3 r3=>?_
  refine wpAny_pure ?_
  cases b with
  | int i =>
   cases c with
   | int j =>
   obtain ⟨t,rfl⟩:=K9 r2
   obtain ⟨u,rfl⟩:=K9 r3
   exact oV (lo:=some (i,t)) (hi:=some (j,u)) F3.ok (F3.val F2.ok (F2.val F1.ok r1)) q3 (k.after ((F1.trans F2).trans F3))
   | _=>exact B4 q3
  | _=>exact B4 q3
theorem Bi7 (ho:L7 X A C o) (hl:L7 X A C l):L7 X A C (.Aw o l):=by
 intro re env nm ρ Q H φ s K EX hc L O h k
 refine Aa.Bn4 hc λo' l' q p e9 Af=>?_
 clear hc;subst e9
 ·replace Af:=Aa.E7 Af
  obtain ⟨h1,h2⟩:=Af
  replace h:=Aa.Bz0 h
  refine Subscript_ (ho _ env nm ρ _ H φ s _ EX h1 L O h λa H1 φ1 x1 s1 q1 F1 r1=>?_)
  refine wpAny_Slice ?_
  refine qz (evalPart_some _ _) (qz (evalPart_none _) ?_)
  refine hl _ env nm ρ _ H1 φ1 s1 _ EX h2 (L.fwd O F1) F1.ok q1 λb H2 φ2 x2 s2 q2 F2 r2=>?_
  refine wpAny_pure (wpAny_pure ?_)
  cases b with
  | int i =>
   obtain ⟨t,rfl⟩:=K9 r2
   exact oV (lo:=some (i,t)) (hi:=none) F2.ok (F2.val F1.ok r1) q2 (k.after (F1.trans F2))
  | _=>exact B4 q2
theorem Bi8 (ho:L7 X A C o) (hl:L7 X A C l):L7 X A C (.Cp o l):=by
 intro re env nm ρ Q H φ s K EX hc L O h k
 refine Aa.Bn5 hc λo' u' q p e9 Af=>?_
 clear hc;subst e9
 ·replace Af:=Aa.E7 Af
  obtain ⟨h1,h2⟩:=Af
  replace h:=Aa.Bz1 h
  refine Subscript_ (ho _ env nm ρ _ H φ s _ EX h1 L O h λa H1 φ1 x1 s1 q1 F1 r1=>?_)
  refine wpAny_Slice ?_
  refine qz (evalPart_some _ _) (qz (evalPart_none _) ?_)
  refine wpAny_pure ?_
  refine hl _ env nm ρ _ H1 φ1 s1 _ EX h2 (L.fwd O F1) F1.ok q1 λb H2 φ2 x2 s2 q2 F2 r2=>?_
  refine wpAny_pure ?_
  cases b with
  | int i =>
   obtain ⟨t,rfl⟩:=K9 r2
   exact oV (lo:=none) (hi:=some (i,t)) F2.ok (F2.val F1.ok r1) q2 (k.after (F1.trans F2))
  | _=>exact B4 q2
theorem V3 {gl sc nm e re}(h:Aa.K2 gl sc nm e re=true) (rest:List Expr) (env:Env):starEach (re::rest) env=(false,eval re env)::starEach rest env:=by
 have h:=(Aa.lK h).Dt
 cases re<;>first | rfl | nomatch h
noncomputable def Ap4 (ps:Bool) (es:List Aa.E) (xs:List Value) (tk:Nat):Prop:=ps=true->∀ (j:Nat) (l:List Nat),es[j]? = some (.str l)->∀ x,xs[j]? = some x->∃ y t,x=.str y t/\0<t/\t<tk
theorem uF {env:Env}{K EX:Value->Shared->Prop}(hc:Aa.K2 X.gl env.scope.names nm (.str l) re=true)
  (k:K (.str ⟨l.toArray⟩ s.toks) { s with toks:=s.toks+1 }):wpAny (S9 X) A (eval re env) K EX s:=by
 refine Aa.uN hc λx k9 p e9 hx9 hl=>?_
 clear hc;subst e9
 ·subst hx9
  exact Constant_str (by simpa using k)
theorem uE {Q:V->Aa.Heap->Prop}(h:Aa.L0 C (.str l) ρ Q H):Q (.str l) H:=h
theorem Ao6 {env:Env}(hc:Aa.K2 X.gl env.scope.names nm (.str l) re=true):l.length<=Aa.P0:=Aa.uN hc λx k9 p e9 hx9 hl=>hl
theorem cT:∀ (es:List Aa.E) (res:List Expr) (env:Env) (nm:List Str) (ρ:Aa.M6) (Q:List V->Aa.Heap->Prop) (H:Aa.Heap) (φ:List Addr) (s:Shared) (K:List Value->Shared->Prop) (EX:Value->Shared->Prop) (p:Pos),
  gL X A C es->Aa.S0 X.gl env.scope.names nm es res=true->L9 X φ nm env ρ s->Ok X.h₀ φ H s.heap->Aa.V2 C es ρ Q H ->
  (∀ vs H' φ' xs s',Q vs H'->O8 X.h₀ φ s φ' H' s'->H8 X.h₀ φ' s'.heap vs xs->vs.length=es.length->Ap4 X.gl.pos es xs s'.toks->K xs s') ->
  wpAny (S9 X) A (spliced (backTo p (starEach res env))) K EX s:=by
 intro es
 induction es with
 | nil =>
  exact λres env nm ρ Q H φ s K EX p Z hc L O h k=>by
   obtain rfl:=Aa.Aj9 hc
   ·replace h:=Aa.Cn7 h
    exact args_nil (k _ _ _ _ _ h (O8.refl O) H8.nil rfl (λZ j l e=>by simp at e))
 | cons e es ih =>
  exact λres env nm ρ Q H φ s K EX p hs hc L O h k=>by
   obtain ⟨re,res,e9,Af⟩:=Aa.Aa3 hc
   clear hc;subst e9
   have hc:=Af
   clear Af
   ·
    replace h:=Aa.Bz8 h
    by_cases i9:∃ l,e=.str l
    ·obtain ⟨l,rfl⟩:=i9
     refine args_cons (uF hc.1 ?_) (V3 hc.1 _ _)
     have F1:O8 X.h₀ φ s φ H { s with toks:=s.toks+1 }:=O8.tok O (E4 _)
     refine ih res env nm ρ _ H φ _ _ EX p (λe' he'=>hs e' (C5 _ he')) hc.2 (L.fwd O F1) F1.ok (uE h) λvs H2 φ2 xs s2 q2 F2 r2 hl hla=>?_
     refine k _ _ _ _ _ q2 (F1.trans F2) (H8.cons (F2.val F1.ok (dM (Ao6 hc.1))) r2) (by simp [hl]) ?_
     intro hps j l' e x hx
     cases j with
     | zero =>
      simp at hx;subst hx
      exact ⟨_,_,rfl,L.pos hps,F2.step.toks⟩
     | succ j=>exact hla hps j l' (by simpa using e) x (by simpa using hx)
    ·refine args_cons (hs e (by simp) _ env nm ρ _ H φ s _ EX hc.1 L O h λv H1 φ1 x1 s1 q1 F1 r1=>?_) (V3 hc.1 _ _)
     refine ih res env nm ρ _ H1 φ1 s1 _ EX p (λe' he'=>hs e' (C5 _ he')) hc.2 (L.fwd O F1) F1.ok q1 λvs H2 φ2 xs s2 q2 F2 r2 hl hla=>?_
     refine k _ _ _ _ _ q2 (F1.trans F2) (H8.cons (F2.val F1.ok r1) r2) (by simp [hl]) ?_
     intro hps j l' e' x hx
     cases j with
     | zero=>simp at e';exact absurd ⟨l',e'⟩ i9
     | succ j=>exact hla hps j l' (by simpa using e') x (by simpa using hx)
theorem Bj2 (hs:gL X A C es):L7 X A C (.list es):=by
 intro re env nm ρ Q H φ s K EX hc L O h k
 refine Aa.Bn7 hc λres p e9 Af=>?_
 clear hc;subst e9
 ·simp only [Bool.and_eq_true,decide_eq_true_eq] at Af
  replace h:=Aa.Bz2 h
  show wpAny (S9 X) A (do standAt p;newList (<- spliced (backTo p (starEach res env)))) K EX s
  refine wpAny_bind (wpAny_standAt (wpAny_bind (cT es res env nm ρ _ H φ s _ EX p hs Af.1 L O h λvs H1 φ1 xs s1 q1 F1 r1 hl Z=>?_)))
  have F2:=O8.alloc (n:=0) (tk:=s1.toks) F1.ok r1 (qz hl Af.2) (D3 _)
  exact wpAny_newObj_type (hd:=kO (qz r1.length.symm (qz hl Af.2))) (k _ _ _ _ _ q1 (F1.trans F2) (fA (by refine qz F1.ok.len.symm ?_;simp)))
theorem Cm4 {h₀ φ h}(hl:l.length<=Aa.P0) (ht:IsTup h a vs.toArray) (r:H8 h₀ φ h l vs):L8 h₀ φ h (.tup l) (.ref a):=⟨hl,a,vs,rfl,ht,r⟩
theorem Bv9 (hs:gL X A C es):L7 X A C (.tup es):=by
 intro re env nm ρ Q H φ s K EX hc L O h k
 refine Aa.Ca1 hc λres k9 p e9 Af=>?_
 clear hc;subst e9
 ·simp only [Bool.and_eq_true,decide_eq_true_eq] at Af
  replace h:=Aa.Cm9 h
  show wpAny (S9 X) A (do standAt p;newTuple (<- spliced (backTo p (starEach res env)))) K EX s
  refine wpAny_bind (wpAny_standAt (wpAny_bind (cT es res env nm ρ _ H φ s _ EX p hs Af.1 L O h λvs H1 φ1 xs s1 q1 F1 r1 hl Z=>?_)))
  have F2:O8 X.h₀ φ1 s1 φ1 H1 { s1 with heap:=s1.heap.push { cls:=.type "tuple",data:=.seq xs.toArray } }:=O8.push F1.ok (D3 _)
  refine wpAny_newObj_type (hd:=kO (qz r1.length.symm (qz hl Af.2))) (k _ _ _ _ _ q1 (F1.trans F2) (Cm4 (qz hl Af.2) ?_ (F2.vals F1.ok r1)))
  exact ⟨_,Heap.get?_push_size _ rfl,rfl,0,rfl⟩
end
section
variable {X:Cx}{A:Around}{C:Aa.Calls}
noncomputable def dP (X:Cx) (A:Around) (C:Aa.Calls):Prop :=
 ∀ (f:String) (ls:List Nat) (fa:Addr) (vs:List V) (Q:V->Aa.Heap->Prop) (H:Aa.Heap) (φ:List Addr) (s:Shared) (xs:List Value) (K EX:Value->Shared->Prop),
  X.gl.fns.lookup f=some ls->X.mg (Str.ofString f)=some (.ref fa)->C f vs Q H->Ok X.h₀ φ H s.heap->H8 X.h₀ φ s.heap vs xs->(X.gl.pos=true->0<s.toks∨∃ fn,X.P f=some fn/\fn.bump=true) ->
  (∀ j∈ls,∀ x,xs[j]? = some x->∃ y t,x=.str y t/\0<t/\t<s.toks)->aG X Q φ s K->wpAny (S9 X) A (call (.ref fa) xs) K EX s
theorem Y7 {res:List Expr}{env:Env}{Q:Args->Shared->Prop}{EX:Value->Shared->Prop}
  (hc:Aa.S0 X.gl env.scope.names nm es res=true) (h:wpAny (S9 X) A (spliced (backTo p (starEach res env))) (λvs s'=>Q ⟨vs,[]⟩ s') EX s) :
  wpAny (S9 X) A (evalArgs f true (backTo p (starEach res env)) []) Q EX s:=by
 cases res with
 | nil =>
  exact λΓ p hΓ=>h Γ p hΓ
 | cons re res =>
  cases es with
  | nil=>nomatch hc
  | cons e es =>
   replace hc:=Aa.E7 hc
   rw [V3 hc.1] at h ⊢
   exact evalArgs_plain h
theorem kW:∀ {es:List Aa.E}{res:List Expr}{env:Env}{nm:List Str}{p:Pos},Aa.S0 X.gl env.scope.names nm es res=true->(backTo p (starEach res env)).any (·.1)=false
 | [],[],_,_,_,_=>rfl
 | [],_::_,_,_,_,h=>Aa.xF h
 | _::_,[],_,_,_,h=>Aa.xF h
 | e::es,re::res,env,nm,p,h=>by
  replace h:=Aa.E7 h
  refine qz (V3 h.1 _ _) ?_
  show (false||(backTo p (starEach res env)).any (·.1))=false
  refine qz (kW h.2) ?_;rfl
theorem kX:∀ {es:List Aa.E}{res:List Expr}{env:Env}{nm:List Str}{p:Pos},Aa.S0 X.gl env.scope.names nm es res=true->(backTo p (starEach res env)).all (λx=>!x.1)=true
 | [],[],_,_,_,_=>rfl
 | [],_::_,_,_,_,h=>Aa.xF h
 | _::_,[],_,_,_,h=>Aa.xF h
 | e::es,re::res,env,nm,p,h=>by
  replace h:=Aa.E7 h
  refine qz (V3 h.1 _ _) ?_
  show (!false&&(backTo p (starEach res env)).all (λx=>!x.1))=true
  refine qz (kX h.2) ?_;rfl
theorem Ap2:∀ {es:List Aa.E}{res:List Expr}{gl:Aa.Gl}{sc:List (Str×NameKind)}{nm:List Str},Aa.S0 gl sc nm es res=true->res.length=es.length
 | [],[]=>λZ=>rfl
 | [],_::_=>λh=>Aa.xF h
 | _::_,[]=>λh=>Aa.xF h
 | e::es,re::res=>λh=>by
  replace h:=Aa.E7 h
  simp [Ap2 h.2]
theorem Bk2 (G:eU X) (hC:dP X A C) (hs:gL X A C es):L7 X A C (.call f es):=by
 intro re env nm ρ Q H φ s K EX hc L O h k
 refine Aa.xW hc λid p0 res p e9 Af=>?_
 clear hc;subst e9
 ·replace Af:=Aa.a5 Af
  obtain ⟨⟨⟨⟨h1,h2⟩,h3⟩,h4⟩,h5⟩:=Af
  replace h1:=eq_of_beq h1
  subst h1
  simp only [Aa.R3,Bool.and_eq_true,Bool.not_eq_true'] at h4
  unfold Aa.tQ at h2
  cases hls:X.gl.fns.lookup f with
  | none=>rw [hls] at h2;cases h2
  | some ls =>
   rw [hls] at h2
   apply Ah;intro g9 k9
   obtain ⟨fn,fa,o,params,body,scope,pm,cd,doc,hP,hl,hm,ho,hd,o9,n3⟩:=G.fns f ls hls
   apply k9
   replace h:=Aa.Bz7 h
   refine wpAny_Call_NameR (aS G L O h3 h4.1 hm ?_)
   refine callWith_function (o:=o) (fd:=docDef (Str.ofString f) params body scope pm cd doc) (Y7 h5 (cT es res env nm ρ _ H φ s _ EX p hs h5 L O h λvs H1 φ1 xs s1 q1 F1 r1 d6 hla=>?_))
   refine ⟨⟨F1.ok.base _ _ ho,hd⟩,?_⟩
   refine hC f ls fa vs Q H1 φ1 s1 xs K EX hls hm q1 F1.ok r1 (λhp=>Or.inl (D6 (L.pos hp) F1.step.toks)) (λj hj x hx=>?_) (k.after F1)
   simp only [Bool.and_eq_true,Bool.or_eq_true] at h2
   have hps:X.gl.pos=true:=by
    rcases h2.1 with q|q
    ·exact q
    ·rw [List.isEmpty_iff] at q;subst q;cases hj
   have:=List.all_eq_true.mp h2.2 j hj
   cases he:es[j]? with
   | none=>rw [he] at this;cases this
   | some e =>
    rw [he] at this
    obtain ⟨l9,rfl⟩:=Aa.mM this
    exact hla hps j _ he x hx
theorem fS {n:String}(h:Aa.W7 sc n e=true):∃ p,e=.Name (Str.ofString n) p/\Aa.V6 sc (Str.ofString n)=true:=by
 refine Aa.R9 h λid p e9 h=>?_
 have e8:=eq_of_beq (Aa.E7 h).1
 subst e8
 exact ⟨p,e9,(Aa.E7 h).2⟩
theorem Ao5 (G:eU X) {env:Env}{K EX:Value->Shared->Prop}{n:String}(hn:n∈fC)
  (L:L9 X φ nm env ρ s) (O:Ok X.h₀ φ H s.heap) (h:Aa.W7 env.scope.names n e=true) (k:K (.builtin n) s):wpAny (S9 X) A (eval e env) K EX s:=by
 obtain ⟨p,rfl,hg⟩:=fS h
 refine xH G L O hg ?_ (G.bf n hn).1 (G.bf n hn).2 k
 simp only [fC,List.mem_cons,List.not_mem_nil,or_false] at hn
 rcases hn with rfl|rfl|rfl|rfl<;>decide +kernel
theorem Ao4 (G:eU X) {env:Env}{K EX:Value->Shared->Prop}{n:String}(hn:n∈fB)
  (L:L9 X φ nm env ρ s) (O:Ok X.h₀ φ H s.heap) (h:Aa.W7 env.scope.names n e=true) (k:K (.type n) s):wpAny (S9 X) A (eval e env) K EX s:=by
 obtain ⟨p,rfl,hg⟩:=fS h
 refine xH G L O hg ?_ (G.bt n hn).1 (G.bt n hn).2 k
 simp only [fB,List.mem_cons,List.not_mem_nil,or_false] at hn
 rcases hn with rfl|rfl|rfl|rfl|rfl|rfl|rfl<;>decide +kernel
theorem fn1 (G:eU X) {n:String}{env:Env}{K EX:Value->Shared->Prop}{Q:V->Aa.Heap->Prop}(hn:n∈fC)
  (he:L7 X A C e) (hc:Aa.K2 X.gl env.scope.names nm e re=true) (hf:Aa.W7 env.scope.names n fn=true) (L:L9 X φ nm env ρ s) (O:Ok X.h₀ φ H s.heap) (h:Aa.L0 C e ρ Q H)
  (k:∀ v H' φ' x s',Q v H'->O8 X.h₀ φ s φ' H' s'->L8 X.h₀ φ' s'.heap v x->wpAny (S9 X) A (call (.builtin n) [x]) K EX s') :
  wpAny (S9 X) A (eval (.Call fn [re] [] p) env) K EX s:=by
 obtain ⟨p0,rfl,hg⟩:=fS hf
 refine wpAny_Call_NameR (Ao5 G hn L O hf ?_)
 refine PyProof.Rows.callWith_builtin1 (args_cons (he _ env nm ρ _ H φ s _ EX hc L O h λv H1 φ1 x1 s1 q1 F1 r1=>args_nil (k v H1 φ1 x1 s1 q1 F1 r1)) (V3 hc _ _)) (V3 hc _ _)
theorem ty1 (G:eU X) {n:String}{env:Env}{K EX:Value->Shared->Prop}{Q:V->Aa.Heap->Prop}(hn:n∈fB)
  (he:L7 X A C e) (hc:Aa.K2 X.gl env.scope.names nm e re=true) (hf:Aa.W7 env.scope.names n fn=true) (L:L9 X φ nm env ρ s) (O:Ok X.h₀ φ H s.heap) (h:Aa.L0 C e ρ Q H)
  (k:∀ v H' φ' x s',Q v H'->O8 X.h₀ φ s φ' H' s'->L8 X.h₀ φ' s'.heap v x->wpAny (S9 X) A (call (.type n) [x]) K EX s') :
  wpAny (S9 X) A (eval (.Call fn [re] [] p) env) K EX s:=by
 obtain ⟨p0,rfl,hg⟩:=fS hf
 refine wpAny_Call_NameR (Ao4 G hn L O hf ?_)
 refine PyProof.Rows.callWith_type1 (args_cons (he _ env nm ρ _ H φ s _ EX hc L O h λv H1 φ1 x1 s1 q1 F1 r1=>args_nil (k v H1 φ1 x1 s1 q1 F1 r1)) (V3 hc _ _)) (V3 hc _ _)
set_option tactic.hygienic true in
theorem Bw9 (G:eU X) (he:L7 X A C e):L7 X A C (.len e):=by
 intro re env nm ρ Q H φ s K EX hc L O h k
 have hlim:Aa.P0=16777216:=rfl
 refine Aa.fW hc λfn e' p e9 Go Af=>?_
 clear hc;subst e9
 ·replace h:=Aa.Cn4 h
  refine fn1 G (by decide) he Af Go L O h λv H1 φ1 x s1 q F1 r=>?_
  unfold Aa.val at q
  split at q
  ·rename_i w e
   obtain ⟨i,e1,rfl⟩:=C1 e
   cases v with
   | str a0 =>
    cases e1
    have hz:=len_str r
    obtain ⟨t,rfl⟩:=N0 r
    refine P.len_str (by simp [Str.length];exact Int.ofNat_lt.mpr (Aa.S5 (Aa.U1 hz (A4 hlim)))) (k _ _ _ _ _ q (F1.trans (O8.tok F1.ok (by lia))) ?_)
    simpa [Str.length] using U8
   | tup a0 =>
    cases e1
    have hz:=uG r
    obtain ⟨a,vs,rfl,ht,rs⟩:=fE r
    have:=rs.length
    refine PyProof.Rows.len_tuple ht (by simp;exact Int.ofNat_lt.mpr (Aa.S5 (Aa.U1 (A4 this.symm) (Aa.U1 hz (A4 hlim))))) (k _ _ _ _ _ q (F1.trans (O8.tok F1.ok (by lia))) ?_)
    simpa [this] using U8
   | Bv a0 =>
    cases e1
    obtain ⟨hz,a,vs,rfl,ht,rs⟩:=fF r
    have j9:H8 X.h₀ φ1 s1.heap (_:List V) vs:=rs.Gb
    have:=j9.length
    simp at this
    have hL:s1.heap.IsList a vs.toArray:=by obtain ⟨o,ho,r⟩:=ht;exact ⟨o,F1.ok.base _ _ ho,r⟩
    refine call_len_list hL (by simp;exact Int.ofNat_lt.mpr (Aa.S5 (Aa.U1 (A4 this.symm) (Aa.U1 hz (A4 hlim))))) (k _ _ _ _ _ q (F1.trans (O8.tok F1.ok (by lia))) ?_)
    simpa [this] using U8
   | ref a =>
    replace e1:(H1[a]?).map (λl=>(l.length:Int))=some i:=e1
    cases e0:H1[a]? with
    | none=>rw [e0] at e1;cases e1
    | some l =>
     rw [e0] at e1
     simp at e1;subst e1
     obtain ⟨p,hp,rfl⟩:=Q3 r
     obtain ⟨vs,hpl,rs⟩:=F1.ok.lists _ _ _ hp e0
     have hz:=F1.ok.small l (E5 e0)
     have:=rs.length
     refine call_len_list hpl.isList (by simp;exact Int.ofNat_lt.mpr (Aa.S5 (Aa.U1 (A4 this.symm) (Aa.U1 hz (A4 hlim))))) (k _ _ _ _ _ q (F1.trans (O8.tok F1.ok (by lia))) ?_)
     simpa [this] using U8
   | _=>exact Aa.xN (show Option.none=some _ from e1)
  ·exact q.elim
theorem Bw4 (G:eU X) (he:L7 X A C e):L7 X A C (.ord e):=by
 intro re env nm ρ Q H φ s K EX hc L O h k
 refine Aa.fW hc λfn e' p e9 Go Af=>?_
 clear hc;subst e9
 ·replace h:=Aa.Cn2 h
  refine fn1 G (by decide) he Af Go L O h λv H1 φ1 x s1 q F1 r=>?_
  obtain ⟨c,rfl,q⟩:=Aa.fU (Aa.Cv4 q)
  ·obtain ⟨t,rfl⟩:=N0 r
   exact P.ord_of_char (k _ _ _ _ _ q (F1.trans (O8.tok F1.ok (E4 _))) U8)
theorem Av3 (G:eU X) (he:L7 X A C e):L7 X A C (.toInt e):=by
 intro re env nm ρ Q H φ s K EX hc L O h k
 refine Aa.fW hc λfn e' p e9 Go Af=>?_
 clear hc;subst e9
 ·replace h:=Aa.Bm4 h
  refine ty1 G (by decide) he Af Go L O h λv H1 φ1 x s1 q F1 r=>?_
  cases v with
  | bool b0 =>
   obtain rfl:=aQ r
   exact call_int_bool (k _ _ _ _ _ q (F1.trans (O8.tok F1.ok (E4 _))) U8)
  | _=>exact B4 q
set_option tactic.hygienic true in
theorem Ah1 (G:eU X) (he:L7 X A C e):L7 X A C (.listOf e):=by
 intro re env nm ρ Q H φ s K EX hc L O h k
 refine Aa.fW hc λfn e' p e9 Go Af=>?_
 clear hc;subst e9
 ·replace h:=Aa.Ax3 h
  refine ty1 G (by decide) he Af Go L O h λv H1 φ1 x s1 q F1 r=>?_
  split at q
  ·split at q
   ·rename_i a l e0
    apply Ah;intro g9 k9
    obtain ⟨p,hp,rfl⟩:=Q3 r
    obtain ⟨vs,⟨n,hpl⟩,rs⟩:=F1.ok.lists _ _ _ hp e0
    apply k9
    have hz:=F1.ok.small l (E5 e0)
    refine call_list_seq (T := "list") p (Or.inl rfl) hpl rfl rfl (λh' c' hk hn=>?_) (by refine qz M2 ?_;simpa [<- rs.length] using hz)
    have F2:=O8.Ez (tk:=s1.toks) F1.ok rs hz (D3 _) hk ⟨c',hn⟩ (D3 _)
    exact k _ _ _ _ _ q (F1.trans F2) (fA (by refine qz F1.ok.len.symm ?_;simp))
   ·exact q.elim
  ·rename_i l
   have hz:=uG r
   apply Ah;intro g9 k9
   obtain ⟨a,vs,rfl,⟨o,ho,g8,n,hd⟩,rs⟩:=fE r
   apply k9
   refine call_list_seq (T := "tuple") a (Or.inr rfl) ho g8 hd (λh' c' hk hn=>?_) (by refine qz M2 ?_;simpa [<- rs.length] using hz)
   have F2:=O8.Ez (tk:=s1.toks) F1.ok rs hz (D3 _) hk ⟨c',hn⟩ (D3 _)
   exact k _ _ _ _ _ q (F1.trans F2) (fA (by refine qz F1.ok.len.symm ?_;simp))
  ·exact q.elim
theorem fH {T:String}{K EX:Value->Shared->Prop}(f6:(Value.type "NoneType" == Value.type T)=false) (hty:typeOf (.type T)=pure (.type "type")) (i8:isSubtype (.type "NoneType") (.type T)=pure false)
  (h:K (.bool false) { s with toks:=s.toks+1 }):wpAny (S9 X) A (call (.builtin "isinstance") [.none,.type T]) K EX s :=
 call_isinstance (isinstance_false_none f6 hty i8) h
theorem vD:isSubtype (.type "NoneType") (.type "str")=pure false:=by refine qz (isSubtype_type _ _) ?_;kernel_rfl
theorem vE:isSubtype (.type "NoneType") (.type "int")=pure false:=by refine qz (isSubtype_type _ _) ?_;kernel_rfl
theorem rC:isSubtype (.type "NoneType") (.type "bool")=pure false:=by refine qz (isSubtype_type _ _) ?_;kernel_rfl
theorem rB:isSubtype (.type "NoneType") (.type "list")=pure false:=by refine qz (isSubtype_type _ _) ?_;kernel_rfl
theorem qQ:isSubtype (.type "NoneType") (.type "tuple")=pure false:=by refine qz (isSubtype_type _ _) ?_;kernel_rfl
theorem Bm0 {x:Value}{K EX:Value->Shared->Prop}(O:Ok X.h₀ φ H s.heap) (r:L8 X.h₀ φ s.heap v x)
  (k:∀ tk,s.toks<=tk->K (.bool (Aa.dU v t)) { s with toks:=tk }):wpAny (S9 X) A (call (.builtin "isinstance") [x,.type (Aa.Ae2 t)]) K EX s:=by
 have k0:=k s.toks (D3 _)
 have k1:=k (s.toks+1) (E4 _)
 cases v
 ·obtain rfl:=kM r
  cases t
  ·exact fH (by decide +kernel) F.isi_meta_str vD k1
  ·exact fH (by decide +kernel) F.isi_meta_int vE k1
  ·exact fH (by decide +kernel) F.isi_meta_bool rC k1
  ·exact fH (by decide +kernel) F.isi_meta_list rB k1
  ·exact fH (by decide +kernel) F.isi_meta_tuple qQ k1
 ·obtain rfl:=aQ r
  cases t
  ·exact IsiPair.bool_str k1
  ·exact IsiPair.bool_int k0
  ·exact IsiPair.bool_bool k0
  ·exact IsiPair.bool_list k1
  ·exact IsiPair.bool_tuple k1
 ·obtain ⟨_,rfl⟩:=K9 r
  cases t
  ·exact IsiPair.int_str k1
  ·exact IsiPair.int_int k0
  ·exact IsiPair.int_bool k1
  ·exact IsiPair.int_list k1
  ·exact IsiPair.int_tuple k1
 ·obtain ⟨_,rfl⟩:=N0 r
  cases t
  ·exact IsiPair.str_str k0
  ·exact IsiPair.str_int k1
  ·exact IsiPair.str_bool k1
  ·exact IsiPair.str_list k1
  ·exact IsiPair.str_tuple k1
 ·obtain ⟨a,ha,rfl⟩:=Q3 r
  obtain ⟨vs,n,e⟩:=O.mem (E5 ha)
  cases t
  ·exact IsiPair.list_str e rfl k1
  ·exact IsiPair.list_int e rfl k1
  ·exact IsiPair.list_bool e rfl k1
  ·exact IsiPair.list_list e rfl k0
  ·exact IsiPair.list_tuple e rfl k1
 ·obtain ⟨a,vs,rfl,⟨o,e,hc,_⟩,_⟩:=fE r
  cases t
  ·exact IsiPair.tuple_str e hc k1
  ·exact IsiPair.tuple_int e hc k1
  ·exact IsiPair.tuple_bool e hc k1
  ·exact IsiPair.tuple_list e hc k1
  ·exact IsiPair.tuple_tuple e hc k0
 ·obtain ⟨_,a,vs,rfl,⟨o,e,hc,_⟩,_⟩:=fF r
  have e:=O.base _ _ e
  cases t
  ·exact IsiPair.list_str e hc k1
  ·exact IsiPair.list_int e hc k1
  ·exact IsiPair.list_bool e hc k1
  ·exact IsiPair.list_list e hc k0
  ·exact IsiPair.list_tuple e hc k1
theorem Ah2 (G:eU X) (he:L7 X A C e):L7 X A C (.Ae e t):=by
 intro re env nm ρ Q H φ s K EX hc L O h k
 refine Aa.Aj8 hc λfn re' ty p e9 Af=>?_
 clear hc;subst e9
 ·replace Af:=Aa.a3 Af
  obtain ⟨⟨h1,h2⟩,h3⟩:=Af
  replace h:=Aa.Ax4 h
  obtain ⟨p0,rfl,hg⟩:=fS h1
  obtain ⟨p1,rfl,Ek⟩:=fS h2
  refine wpAny_Call_NameR (Ao5 G (by decide) L O h1 ?_)
  refine PyProof.Rows.callWith_builtin1 (args_cons (he _ env nm ρ _ H φ s _ EX h3 L O h λv H1 φ1 x1 s1 q1 F1 r1=>?_) (V3 h3 _ _)) (V3 h3 _ _)
  refine args_cons (Ao4 G (by cases t<;>decide) (L.fwd O F1) F1.ok h2 ?_)
  exact args_nil (Bm0 F1.ok r1 λtk ht=>k _ _ _ _ _ q1 (F1.trans (O8.tok F1.ok ht)) dQ)
end
section
variable {X:Cx}{A:Around}{C:Aa.Calls}
set_option tactic.hygienic true in
theorem Ap3 (h:Aa.wG o=true) (name:Str) (env:Env):attributeBase o name env (eval o env)=eval o env:=by
 cases o<;>try rfl
 rename_i f args kws p
 cases args with
 | cons _ _=>cases f<;>rfl
 | nil=>cases kws with
  | cons _ _=>cases f<;>rfl
  | nil=>nomatch h
theorem Ac9 {res:List Expr}{env:Env}{K EX:Value->Shared->Prop}{name:Str}{T id:String}
  {Q:V->Aa.Heap->Prop}{Q':V->List V->Aa.Heap->Prop}
  (ho:L7 X A C o) (hs:gL X A C es) (hr:Aa.wG o'=true) (hline:(ap.endLine==p.line)=true) (hc:Aa.K2 X.gl env.scope.names nm o o'=true) (hcs:Aa.S0 X.gl env.scope.names nm es res=true) (hfew:es.length<30)
  (pa:PlainAttrs T) (slot:Slot T name id) (hty:typeOf (.builtin id)=pure (.type "method_descriptor"))
  (L:L9 X φ nm env ρ s) (O:Ok X.h₀ φ H s.heap) (h:Aa.L0 C o ρ Q H)
  (hq:∀ v H',Q v H'->Aa.V2 C es ρ (Q' v) H')
  (hT:∀ v H' φ' x s',Q v H'->O8 X.h₀ φ s φ' H' s'->L8 X.h₀ φ' s'.heap v x->s'.TypeIs x T/\∀ a,x=.ref a->∃ ob,s'.heap.get? a=some ob/\ob.dict=none)
  (k:∀ v vs H' φ' x xs s',Q' v vs H'->O8 X.h₀ φ s φ' H' s'->L8 X.h₀ φ' s'.heap v x->H8 X.h₀ φ' s'.heap vs xs->Ap4 X.gl.pos es xs s'.toks->wpAny (S9 X) A (call (.builtin id) (x::xs)) K EX s') :
  wpAny (S9 X) A (eval (.Call (.Attribute o' name ap) res [] p) env) K EX s:=by
 refine wpAny_Call_method (Ap3 hr _ _) ?_ hline pa slot hty (ho _ env nm ρ _ H φ s _ EX hc L O h λv H1 φ1 x s1 q1 F1 r1=>?_)
 ·refine qz (kX hcs) ?_
  have:=Ap2 hcs
  have h1:decide (res.length+([]:List Keyword).length+(if ([]:List Keyword).isEmpty then 0 else 1)<30)=true:=by
   simp;exact Aa.S5 (Aa.U1 (A4 this) hfew)
  refine qz h1 ?_;rfl
 ·refine ⟨(hT v H1 φ1 x s1 q1 F1 r1).1,(hT v H1 φ1 x s1 q1 F1 r1).2,?_⟩
  refine callWith_builtin (kW hcs) (Y7 hcs (cT es res env nm ρ _ H1 φ1 s1 _ EX p hs hcs (L.fwd O F1) F1.ok (hq v H1 q1) λvs H2 φ2 xs s2 q2 F2 r2 hl hla=>?_))
  exact k v vs H2 φ2 x xs s2 q2 (F1.trans F2) (F2.val F1.ok r1) r2 hla
theorem iB {φ:List Addr}{H:Aa.Heap}{s:Shared}{x:Value}(O:Ok X.h₀ φ H s.heap) (r:L8 X.h₀ φ s.heap (.ref a) x):s.TypeIs x "list" /\ ∀ b,x=.ref b->∃ ob,s.heap.get? b=some ob/\ob.dict=none:=by
 obtain ⟨p,hp,rfl⟩:=Q3 r
 obtain ⟨vs,n,e⟩:=O.mem (E5 hp)
 refine ⟨⟨_,e,rfl⟩,λb hb=>?_⟩
 cases hb
 exact ⟨_,e,rfl⟩
theorem aR {φ:List Addr}{s:Shared}{l:List Nat}{x:Value}(r:L8 X.h₀ φ s.heap (.str l) x):s.TypeIs x "str" /\ ∀ b,x=.ref b->∃ ob,s.heap.get? b=some ob/\ob.dict=none:=by
 obtain ⟨t,rfl⟩:=N0 r
 exact ⟨typeIs_str _ _ _,λb hb=>by cases hb⟩
theorem Bk7:gL X A C []:=λe he=>Aa.xL he
theorem fG (he:L7 X A C e):gL X A C [e]:=λe' he'=>by simp at he';subst he';exact he
theorem Bk6 (he:L7 X A C e) (he2:L7 X A C e2):gL X A C [e,e2]:=λe' he'=>by
 simp at he';rcases he' with rfl|rfl<;>assumption
theorem iT {gl sc nm e re}(h:Aa.K2 gl sc nm e re=true):Aa.S0 gl sc nm [e] [re]=true:=Aa.iE h rfl
theorem mL {gl sc nm e re e2 re2}(h:Aa.K2 gl sc nm e re=true) (h2:Aa.K2 gl sc nm e2 re2=true):Aa.S0 gl sc nm [e,e2] [re,re2]=true:=Aa.iE h (Aa.iE h2 rfl)
noncomputable def one (Q:V->Aa.Heap->Prop) (vs:List V) (H:Aa.Heap):Prop:=match vs with
 | [a]=>Q a H
 | _=>False
noncomputable def two (Q:V->V->Aa.Heap->Prop) (vs:List V) (H:Aa.Heap):Prop:=match vs with
 | [a,b]=>Q a b H
 | _=>False
theorem oA {Q:V->Aa.Heap->Prop}(h:Aa.L0 C e ρ Q H):Aa.V2 C [e] ρ (one Q) H:=h
theorem Cl8 {Q:V->V->Aa.Heap->Prop}(h:Aa.L0 C e ρ (λv Hw=>Aa.L0 C e2 ρ (Q v) Hw) H):Aa.V2 C [e,e2] ρ (two Q) H:=h
theorem oB {Q:V->Aa.Heap->Prop}(h:one Q vs H):∃ v,vs=[v]/\Q v H:=by
 unfold one at h
 split at h
 ·exact ⟨_,rfl,h⟩
 ·exact h.elim
theorem Cl9 {Q:V->V->Aa.Heap->Prop}(h:two Q vs H):∃ v w,vs=[v,w]/\Q v w H:=by
 unfold two at h
 split at h
 ·exact ⟨_,_,rfl,h⟩
 ·exact h.elim
noncomputable def rN (P:List Nat->Prop) (v:V):Prop:=match v with
 | .str s=>P s
 | _=>False
theorem jJ {P:List Nat->Prop}(h:rN P v):∃ s,v=.str s/\P s:=by
 unfold rN at h
 split at h
 ·exact ⟨_,rfl,h⟩
 ·exact h.elim
set_option tactic.hygienic true in
theorem Ah5 (ho:L7 X A C o) (he:L7 X A C e):L7 X A C (.append o e):=by
 intro re env nm ρ Q H φ s K EX hc L O h k
 refine Aa.m1 hc λo' e' ap p e9 h2 h3 h4 h5=>?_
 clear hc;subst e9
 ·replace h:=Aa.Ax6 h
  refine Ac9 (Q':=λvo=>one λv Hz=>Aa.Cy (Aa.W2 vo v Hz) Q) ho (fG he) h3 h2 h4 (iT h5) (by simp) F.plainAttrs_list F.slot_list_append F.type_list_append L O h (λv H' q=>?_) (λv H1 φ1 x s1 q F1 r=>?_)
   (λv vs H1 φ1 x xs s1 q F1 r rs Z=>?_)
  ·cases v<;>first | exact oA q | exact B4 q
  ·cases v<;>first | exact iB F1.ok r | exact B4 q
  ·have q2:=oB q
   clear q
   obtain ⟨w,rfl,q⟩:=q2
   unfold Aa.Cy at q
   split at q
   ·rename_i H2 e2
    unfold Aa.W2 at e2
    split at e2
    ·rename_i a
     obtain ⟨p,hp,rfl⟩:=Q3 r
     obtain ⟨y,r',rfl,ry,rn⟩:=rs.Ax
     obtain rfl:=rn.Bo
     cases e0:H1[a]? with
     | none=>rw [e0] at e2;cases e2
     | some l =>
      rw [e0] at e2
      simp only [Option.bind_some] at e2
      split at e2
      ·rename_i hlt
       cases e2
       obtain ⟨vs',⟨n,hl⟩,rl⟩:=F1.ok.lists _ _ _ hp e0
       have hz:vs'.toArray.size<=sizeLine:=by refine qz M2 ?_;simp [<- rl.length];exact Aa.S5 hlt
       refine call_meets F.slot_list_append ⟨_,hl,rfl⟩ F.entry_list_append (F.args_list_append_2 _ _) (list_append p _ n y hz) ⟨hl,?_⟩
       have F2:=O8.change (tk:=s1.toks) F1.ok hp (Heap.SameBut.update s1.heap p (Obj.mapSeq λxs=>xs.push y)) ⟨_,by
        have:=IsL.update hl (λxs=>xs.push y)
        rwa [List.push_toArray] at this⟩ (rl.append (H8.one ry)) (by simp;exact Aa.S5 hlt) (D3 _)
       exact k _ _ _ _ _ q (F1.trans F2) (by rfl)
      ·cases e2
    ·cases e2
   ·exact q.elim
set_option tactic.hygienic true in
theorem Ah3 (ho:L7 X A C o) (he:L7 X A C e):L7 X A C (.extend o e):=by
 intro re env nm ρ Q H φ s K EX hc L O h k
 refine Aa.m1 hc λo' e' ap p e9 h2 h3 h4 h5=>?_
 clear hc;subst e9
 ·replace h:=Aa.Ax5 h
  refine Ac9 (Q':=λvo=>one λv Hz=>Aa.Cy (Aa.uP vo v Hz) Q) ho (fG he) h3 h2 h4 (iT h5) (by simp) F.plainAttrs_list F.slot_list_extend F.type_list_extend L O h (λv H' q=>?_) (λv H1 φ1 x s1 q F1 r=>?_)
   (λv vs H1 φ1 x xs s1 q F1 r rs Z=>?_)
  ·cases v<;>first | exact oA q | exact B4 q
  ·cases v<;>first | exact iB F1.ok r | exact B4 q
  ·have q2:=oB q
   clear q
   obtain ⟨w,rfl,q⟩:=q2
   unfold Aa.Cy at q
   split at q
   ·rename_i H2 e2
    replace e2:=Aa.jN e2;obtain ⟨a,rfl,e2⟩:=e2
    replace e2:=Aa.jN e2;obtain ⟨b,rfl,e2⟩:=e2
    ·obtain ⟨p,hp,rfl⟩:=Q3 r
     obtain ⟨y,r',rfl,ry,rn⟩:=rs.Ax
     obtain rfl:=rn.Bo
     obtain ⟨p',hp',rfl⟩:=Q3 ry
     cases e0:H1[a]? with
     | none=>rw [e0] at e2;cases e2
     | some l =>
      cases e1:H1[b]? with
      | none=>rw [e0,e1] at e2;cases e2
      | some l2 =>
       rw [e0,e1] at e2
       simp only [Option.bind_some] at e2
       split at e2
       ·rename_i hlt
        cases e2
        apply Ah;intro g9 k9
        obtain ⟨vs',⟨n,hl⟩,rl⟩:=F1.ok.lists _ _ _ hp e0
        obtain ⟨vs2,⟨n2,hl2⟩,rl2⟩:=F1.ok.lists _ _ _ hp' e1
        apply k9
        have z1:=rl.length
        have z2:=rl2.length
        have hz:vs'.toArray.size<=sizeLine:=by refine qz M2 ?_;simp;exact Aa.S5 (Aa.U1 (A4 z1.symm) hlt.2)
        have hz2:vs'.toArray.size+vs2.toArray.size<=sizeLine+1:=by refine qz M2 ?_;simp;exact Aa.S5 (Aa.U1 (A4 z1.symm) (Aa.U1 hlt.2 (A4 z2.symm)))
        refine call_meets F.slot_list_extend ⟨_,hl,rfl⟩ F.entry_list_extend (F.args_list_extend_2 _ _) (AutoSeq1.list_extend_list_list_0 p _ n p' _ n2 ?_ hz hz2) ⟨hl,hl2,?_⟩
        ·simp only [Builtin.List.listTooLong,Bool.and_eq_true,decide_eq_true_eq,not_and,Nat.not_lt]
         intro _
         refine qz M2 ?_;simp;exact Aa.S5 (Aa.U1 (A4 z1.symm) (Aa.U1 hlt.2 (A4 z2.symm)))
        ·have F2:=O8.change (tk:=s1.toks) F1.ok hp (Heap.SameBut.update s1.heap p (Obj.mapSeq λxs=>xs++vs2.toArray)) ⟨_,by
          have:=IsL.update hl (λxs=>xs++vs2.toArray)
          rwa [List.append_toArray] at this⟩ (rl.append rl2) (by simp;exact Aa.S5 hlt.2) (D3 _)
         exact k _ _ _ _ _ q (F1.trans F2) (by rfl)
       ·cases e2
   ·exact q.elim
theorem qR (vs:List Value) (h:vs≠[]):vs.toArray.eraseIdxIfInBounds (vs.toArray.size - 1)=vs.dropLast.toArray:=by
 have hl:vs.length - 1<vs.length:=by
  have:0<vs.length:=List.length_pos_iff.mpr h
  exact Nat.sub_lt (Aa.S5 this) ((by simp +arith only))
 unfold Array.eraseIdxIfInBounds
 refine qz (dif_pos (by simpa using hl)) ?_
 apply Array.ext'
 simp
theorem H8.dropLast {h₀ φ h}(r:H8 h₀ φ h l vs):H8 h₀ φ h l.dropLast vs.dropLast:=qz List.dropLast_eq_take (qz List.dropLast_eq_take (qz r.length.symm (H8.take _ r)))
set_option tactic.hygienic true in
theorem Bw3 (ho:L7 X A C o):L7 X A C (.pop o):=by
 intro re env nm ρ Q H φ s K EX hc L O h k
 refine Aa.Ca3 hc λo' ap p e9 h2 h3 h4=>?_
 clear hc;subst e9
 ·replace h:=Aa.Cn1 h
  refine Ac9 (Q':=λvo vs Hz=>vs=[]/\Aa.res (Aa.Ad2 vo Hz) Q) (es:=[]) ho Bk7 h3 h2 h4 rfl (by simp) F.plainAttrs_list F.slot_list_pop F.type_list_pop L O h (λv H' q=>?_) (λv H1 φ1 x s1 q F1 r=>?_)
   (λv vs H1 φ1 x xs s1 q F1 r rs Z=>?_)
  ·cases v<;>first | exact ⟨rfl,q⟩ | exact B4 q
  ·cases v<;>first | exact iB F1.ok r | exact B4 q
  ·obtain ⟨rfl,q⟩:=q
   obtain rfl:=rs.Bo
   unfold Aa.res at q
   split at q
   ·rename_i w H2 e2
    unfold Aa.Ad2 at e2
    split at e2
    ·rename_i a
     obtain ⟨p,hp,rfl⟩:=Q3 r
     cases e0:H1[a]? with
     | none=>rw [e0] at e2;cases e2
     | some l =>
      rw [e0] at e2
      simp only [Option.bind_some] at e2
      obtain ⟨w',hw,e3⟩:=C1 e2
      cases e3
      obtain ⟨vs',⟨n,hl⟩,rl⟩:=F1.ok.lists _ _ _ hp e0
      have z1:=rl.length
      have z2:=F1.ok.small l (E5 e0)
      rw [List.getLast?_eq_getElem?] at hw
      obtain ⟨y,hy,ry⟩:=rl.get hw
      have f6:vs'≠[]:=by rintro rfl;simp at hy
      have hz:vs'.toArray.size<=sizeLine:=by refine qz M2 ?_;simp;exact Aa.S5 (Aa.U1 (A4 z1.symm) z2)
      refine call_meets F.slot_list_pop ⟨_,hl,rfl⟩ F.entry_list_pop (F.args_list_pop_1 _) (MeetsSeq.list_pop_last p _ n y (by refine qz hy.symm (qz z1 ?_);simp) hz) ⟨hl,?_⟩
      have F2:=O8.change (tk:=s1.toks) F1.ok hp (Heap.SameBut.update s1.heap p (Obj.mapSeq λxs=>xs.eraseIdxIfInBounds (vs'.toArray.size - 1))) ⟨_,by
        have:=IsL.update hl (λxs=>xs.eraseIdxIfInBounds (vs'.toArray.size - 1))
        rwa [qR _ f6] at this⟩ (H8.dropLast rl) (by simp;exact Aa.S5 z2) (D3 _)
      exact k _ _ _ _ _ q (F1.trans F2) (F2.val F1.ok ry)
    ·cases e2
   ·exact q.elim
theorem Bl8:∀ {l:List Nat},(∀ j:Nat,l[j]? ≠ some c)->Aa.idx? c l=none:=by
 intro l
 induction l with
 | nil=>exact λZ=>rfl
 | cons x l ih =>
  exact λh=>by
   unfold Aa.idx?
   have h0:¬ x=c:=λe=>h 0 (by simp [e])
   refine qz (if_neg h0) (qz (ih λj=>by have:=h (j+1);simpa using this) ?_);rfl
theorem xJ:∀ {l:List Nat}{k:Nat},l[k]? = some c->(∀ j:Nat,j<k->l[j]? ≠ some c)->Aa.idx? c l=some k
 | [],_=>λe Z=>by simp at e
 | x::l,0=>λe Z=>by
  unfold Aa.idx?
  have:x=c:=by simpa using e
  exact qz (if_pos this) rfl
 | x::l,k+1=>λe h=>by
  unfold Aa.idx?
  have h0:¬ x=c:=λe=>h 0 (Nat.succ_pos _) (by simp [e])
  refine qz (if_neg h0) (qz (xJ (k:=k) (by simpa using e) λj hj=>by have:=h (j+1) (Nat.succ_lt_succ hj);simpa using this) ?_);rfl
theorem zV (l:List Nat) (c:Nat) (i:Int) (h0:0<=i):Txt.find3 ⟨l.toArray⟩ ⟨#[c]⟩ i=Aa.rS l c i.toNat:=by
 have hg:∀ v,l[v]? = some c->(Str.mk l.toArray).cps.getD v 0=c:=λv hv=>by
  have hlt:=(A3 hv).1
  have:=(A3 hv).2
  simp [Array.getD,hlt,this]
 have hg':∀ v,v<l.length->(Str.mk l.toArray).cps.getD v 0=c->l[v]? = some c:=λv hlt hv=>by
  simp [Array.getD,hlt] at hv
  rw [A8 hlt,hv]
 have b7:(Str.mk l.toArray).length=l.length:=by simp [Str.length]
 have hf:fromIndex l.length i=i.toNat:=by
  show (max 0 (if i<0 then i+(l.length:Nat) else i)).toNat=_
  rw [if_neg (Int.not_lt.mpr h0),Int.max_eq_right h0]
 unfold Aa.rS
 rcases StrLaws.find3_spec ⟨l.toArray⟩ c i with ⟨e,hn⟩|⟨k,e,h1,h2,h3,h4⟩
 ·rw [e]
  rw [b7,hf] at hn
  rw [Bl8 λj hj=>?_]
  rw [List.getElem?_drop] at hj
  exact hn (i.toNat+j) (E1 _ _) (A3 hj).1 (hg _ hj)
 ·refine qz e ?_
  rw [b7] at h2
  rw [b7,hf] at h1 h4
  rw [xJ (k:=k - i.toNat) ?_ λj hj hx=>?_]
  ·simp only
   congr 1
   exact (Nat.add_sub_cancel' (Aa.S5 h1)).symm
  ·refine qz List.getElem?_drop ?_
   have:i.toNat+(k - i.toNat)=k:=Nat.add_sub_cancel' h1
   refine qz this ?_;exact hg' k h2 h3
  ·rw [List.getElem?_drop] at hx
   exact h4 (i.toNat+j) (E1 _ _) (Nat.add_lt_of_lt_sub' hj) (hg _ hx)
theorem Bj7 (ho:L7 X A C o) (ha:L7 X A C a) (hb:L7 X A C b):L7 X A C (.find o a b):=by
 intro re env nm ρ Q H φ s K EX hc L O h k
 refine Aa.Bo0 hc λo' x' y' ap p e9 h2 h3 h4 h5 h6=>?_
 clear hc;subst e9
 ·replace h:=Aa.Bz5 h
  refine Ac9 (Q':=λvo=>two λva vb Hz=>rN (λs=>Aa.Bc8 s va vb Q Hz) vo) ho (Bk6 ha hb) h3 h2 h4 (mL h5 h6) (by simp) F.plainAttrs_str F.slot_str_find F.type_str_find L O h (λv H' q=>?_) (λv H1 φ1 x s1 q F1 r=>?_)
   (λv vs H1 φ1 x xs s1 q F1 r rs Z=>?_)
  ·cases v<;>first | exact Cl8 q | exact B4 q
  ·cases v<;>first | exact aR r | exact B4 q
  ·have q2:=Cl9 q
   clear q
   obtain ⟨va,vb,rfl,q3⟩:=q2
   have q2:=jJ q3
   clear q3
   obtain ⟨l,rfl,q⟩:=q2
   replace q:=Aa.fU q;obtain ⟨c,rfl,q⟩:=q
   replace q:=Aa.Bz9 q;obtain ⟨i,rfl,q⟩:=q
   ·obtain ⟨t,rfl⟩:=N0 r
    obtain ⟨y,r',rfl,ry,rn⟩:=rs.Ax
    obtain ⟨z,r'',rfl,rz,rn⟩:=rn.Ax
    obtain rfl:=rn.Bo
    obtain ⟨u,rfl⟩:=N0 ry
    obtain ⟨u',rfl⟩:=K9 rz
    refine SC.find3 ?_
    exact qz (zV _ _ _ q.1) (k _ _ _ _ _ q.2 (F1.trans (O8.tok F1.ok (E4 _))) U8)
noncomputable def Ar (l:List Nat):Str:=⟨l.toArray⟩
theorem rY {h₀ φ h}:∀ {l:List V}{ls:List (List Nat)}{vs:List Value},Aa.Ad0 l=some ls->H8 h₀ φ h l vs->∃ lt:List (Str×Tok),vs=strValues lt/\lt.map (·.1)=ls.map Ar
 | [],ls,vs,e,r=>by
  cases (show some []=some ls from e)
  obtain rfl:=r.Bo
  exact ⟨[],rfl,rfl⟩
 | v::l,ls,vs,e,r=>by
  obtain ⟨x,vs',rfl,rx,rr⟩:=r.Ax
  cases v with
  | str w =>
   obtain ⟨ls',e',rfl⟩:=C1 (show (Aa.Ad0 l).map (w::·)=some ls from e)
   obtain ⟨t,rfl⟩:=N0 rx
   obtain ⟨lt,rfl,h2⟩:=rY e' rr
   exact ⟨(Ar w,t)::lt,rfl,D0 (Ar w::·) h2⟩
  | _=>exact Aa.xN (show Option.none=some ls from e)
theorem uH (s:List Nat):∀ ls:List (List Nat),Txt.join (Ar s) (ls.map Ar)=Ar (Aa.Ad s ls):=by
 intro ls
 show Builtin.Str.glued _ _=_
 refine qz (StrLaws.glued_eq_join _ _) ?_
 induction ls with
 | nil=>rfl
 | cons w r ih =>
  cases r with
  | nil=>rfl
  | cons w2 r =>
   show Ar w++Ar s++Str.join (Ar s) ((w2::r).map Ar)=_
   refine qz ih ?_
   show Str.append (Str.append (Ar w) (Ar s)) (Ar (Aa.Ad s (w2::r)))=Ar (w++s++Aa.Ad s (w2::r))
   simp [Str.append,Ar]
theorem By2 {s:List Nat}{ls:List (List Nat)}(h:(ls.map List.length).sum+ls.length * s.length<=Aa.P0):JoinOk (Ar s) (ls.map Ar)=true:=by
 unfold JoinOk
 refine qz (StrLaws.joinTotal _ _) ?_
 have e:((ls.map Ar).map (·.length))=ls.map List.length:=by
  simp [List.map_map,Function.comp_def,Ar,Str.length]
 refine qz e ?_
 simp only [Builtin.Str.tooLong,E3,Bool.not_eq_true',decide_eq_false_iff_not,Nat.not_lt]
 refine qz M2 ?_
 simpa [Ar,Str.length] using h
theorem ar4 (w s M X:Nat):w+s+(M+X)=w+M+(X+s):=qz (Nat.add_comm X s) (qz (Eq.symm (C2 (w+M) _ _)) (qz (B5 w M s) (qz (C2 (w+s) _ _) rfl)))
theorem xI (s:List Nat):∀ ls:List (List Nat),(Aa.Ad s ls).length<=(ls.map List.length).sum+ls.length * s.length
 | []=>D8 _
 | [w]=>by
  show w.length<=w.length+0+1 * s.length
  exact E1 _ _
 | w::w2::r=>by
  have:=xI s (w2::r)
  show (w++s++Aa.Ad s (w2::r)).length<=w.length+((w2::r).map List.length).sum+((w2::r).length+1) * s.length
  exact qz D4 (qz D4 (qz (Nat.add_mul _ _ _) (qz (Nat.one_mul _) (D2 (A6 this (w.length+s.length)) (A4 (ar4 _ _ _ _))))))
set_option tactic.hygienic true in
theorem Bj3 (ho:L7 X A C o) (ha:L7 X A C a):L7 X A C (.join o a):=by
 intro re env nm ρ Q H φ s K EX hc L O h k
 refine Aa.m1 hc λo' e' ap p e9 h2 h3 h4 h5=>?_
 clear hc;subst e9
 ·replace h:=Aa.Bz3 h
  refine Ac9 (Q':=λvo=>one λva Hz=>rN (λs=>Aa.lL s va Q Hz) vo) ho (fG ha) h3 h2 h4 (iT h5) (by simp) F.plainAttrs_str F.slot_str_join F.type_str_join L O h (λv H' q=>?_) (λv H1 φ1 x s1 q F1 r=>?_)
   (λv vs H1 φ1 x xs s1 q F1 r rs Z=>?_)
  ·cases v<;>first | exact oA q | exact B4 q
  ·cases v<;>first | exact aR r | exact B4 q
  ·have q2:=oB q
   clear q
   obtain ⟨va,rfl,q3⟩:=q2
   have q2:=jJ q3
   clear q3
   obtain ⟨l,rfl,q⟩:=q2
   unfold Aa.lL at q
   split at q
   ·rename_i b
    obtain ⟨t,rfl⟩:=N0 r
    obtain ⟨y,r',rfl,ry,rn⟩:=rs.Ax
    obtain rfl:=rn.Bo
    obtain ⟨p,hp,rfl⟩:=Q3 ry
    cases e0:H1[b]? with
    | none=>rw [e0] at q;exact q.elim
    | some ls =>
     rw [e0] at q
     simp only [Option.bind_some] at q
     split at q
     ·rename_i ts e1
      apply Ah;intro g9 k9
      obtain ⟨vs',hpl,rl⟩:=F1.ok.lists _ _ _ hp e0
      obtain ⟨lt,rfl,hlt⟩:=rY e1 rl
      apply k9
      refine free (SC.join hpl.isList hlt (By2 q.1) (λt' k' ht=>?_))
      have e9:Txt.join ⟨l.toArray⟩ (ts.map Ar)=⟨(Aa.Ad l ts).toArray⟩:=uH l ts
      exact qz e9 (k _ _ _ _ _ q.2 (F1.trans (O8.tok F1.ok ht)) (dM (D2 (xI _ _) q.1)))
     ·exact q.elim
   ·exact q.elim
theorem vF:∀ {p:List Nat},c ∉ p->Aa.splitAt c p=[p]:=by
 intro p
 induction p with
 | nil=>exact λZ=>rfl
 | cons x l ih =>
  exact λh=>by
   have h1:¬ x=c:=λe=>h (by simp [e])
   have h2:c ∉ l:=λe=>h (by simp [e])
   unfold Aa.splitAt
   exact qz (if_neg h1) (qz (ih h2) rfl)
theorem zP (rest:List Nat):∀ {p:List Nat},c ∉ p->Aa.splitAt c (p++c::rest)=p::Aa.splitAt c rest:=by
 intro p
 induction p with
 | nil=>exact λZ=>by simp [Aa.splitAt]
 | cons x l ih =>
  exact λh=>by
   have h1:¬ x=c:=λe=>h (by simp [e])
   have h2:c ∉ l:=λe=>h (by simp [e])
   have e:Aa.splitAt c (x::(l++c::rest))=match Aa.splitAt c (l++c::rest) with
    | []=>[[x]]
    | w::r=>(x::w)::r:=by
    conv=>lhs;unfold Aa.splitAt
    refine qz (if_neg h1) ?_
    all_goals (cases Aa.splitAt c (l++c::rest)<;>rfl)
   show Aa.splitAt c (x::(l++c::rest))=_
   exact qz e (qz (ih h2) rfl)
theorem jT:∀ {ps:List (List Nat)},ps≠[]->(∀ p∈ps,c ∉ p)->Aa.splitAt c (Aa.Ad [c] ps)=ps
 | []=>λh Z=>absurd rfl h
 | [p]=>λZ h=>vF (h p (by simp))
 | p::q::r=>λZ h=>by
  have e:Aa.Ad [c] (p::q::r)=p++c::Aa.Ad [c] (q::r):=D5 p [c] _
  exact qz e (qz (zP _ (h p (by simp))) (qz (jT (by simp) λx hx=>h x (C5 _ hx)) rfl))
theorem zO (c:Nat):∀ l:List Nat,(Aa.splitAt c l).length<=l.length+1:=by
 intro l
 induction l with
 | nil =>
  simp [Aa.splitAt]
 | cons x l ih =>
  have:=ih
  unfold Aa.splitAt
  split
  ·simp;exact Aa.S5 this
  ·split
   ·simp
   ·rename_i e;rw [e] at this;simp at this ⊢;exact Aa.S5 this
set_option tactic.hygienic true in
theorem rD (c:Nat):∀ l:List Nat,∀ p∈Aa.splitAt c l,p.length<=l.length:=by
 intro l
 induction l with
 | nil=>exact λp h=>by simp [Aa.splitAt] at h;simp [h]
 | cons x l ih =>
  exact λp h=>by
   have ih:=ih
   unfold Aa.splitAt at h
   split at h
   ·rcases B0 h with rfl|h
    ·simp
    ·have:=ih p h;simp;exact Aa.S5 this
   ·split at h
    ·simp at h;simp [h]
    ·rename_i w r e
     rcases B0 h with rfl|h
     ·have:=ih w (by refine qz e ?_;simp);simp;exact Aa.S5 this
     ·have:=ih p (by refine qz e ?_;simp [h]);simp;exact Aa.S5 this
theorem xA (c:Nat) (l:List Nat):Txt.split (Ar l) ⟨#[c]⟩=(Aa.splitAt c l).map Ar:=by
 have hj:=StrLaws.join_split (Ar l) ⟨#[c]⟩
 have hf:=StrLaws.split_free (Ar l) c
 have f6:Txt.split (Ar l) ⟨#[c]⟩≠[]:=by
  unfold Txt.split
  split
  ·simp
  ·split
   ·simp
   ·rw [StrLaws.partsBetween_eq]
    obtain ⟨p,r,e⟩:=StrLaws.partsFrom_ne (Ar l) (Str.length ⟨#[c]⟩) 0 (Builtin.Str.occurrences (Ar l) ⟨#[c]⟩ 0 (Ar l).length ((Ar l).length+1))
    rw [e];simp
 generalize Txt.split (Ar l) ⟨#[c]⟩=ps at *
 have e:ps=(ps.map λp=>p.cps.toList).map Ar:=by
  rw [List.map_map]
  conv=>lhs;rw [<- List.map_id ps]
  apply List.map_congr_left
  intro p _
  simp [Ar,Function.comp]
 have hj2:Ar (Aa.Ad [c] (ps.map λp=>p.cps.toList))=Ar l:=by
  refine qz (Eq.symm (uH _ _)) (qz e.symm ?_)
  show Builtin.Str.glued _ _=_
  exact qz (StrLaws.glued_eq_join _ _) hj
 have hj3:Aa.Ad [c] (ps.map λp=>p.cps.toList)=l:=by
  have:=D0 (λs:Str=>s.cps.toList) hj2
  simpa [Ar] using this
 have:=jT (c:=c) (ps:=ps.map λp=>p.cps.toList) (by simpa using f6) (by
  intro p hp
  obtain ⟨q,hq,rfl⟩:=List.mem_map.mp hp
  exact hf q hq)
 rw [hj3] at this
 exact qz this (qz e.symm rfl)
theorem H8.ofStrs {h₀ φ h}:∀ {lt:List (Str×Tok)}{ls:List (List Nat)},lt.map (·.1)=ls.map Ar->(∀ p∈ls,p.length<=Aa.P0)->H8 h₀ φ h (ls.map V.str) (strValues lt)
 | [],[]=>λZ Z=>H8.nil
 | [],_::_=>λe Z=>by simp at e
 | _::_,[]=>λe Z=>by simp at e
 | (x,t)::lt,p::ls=>λe hz=>by
  simp only [List.map_cons,List.cons.injEq] at e
  obtain ⟨e1,e2⟩:=e
  subst e1
  exact H8.cons (dM (hz p (by simp))) (H8.ofStrs e2 λq hq=>hz q (C5 _ hq))
theorem Av4 (ho:L7 X A C o) (ha:L7 X A C a):L7 X A C (.split o a):=by
 intro re env nm ρ Q H φ s K EX hc L O h k
 refine Aa.m1 hc λo' e' ap p e9 h2 h3 h4 h5=>?_
 clear hc;subst e9
 ·replace h:=Aa.Bm5 h
  refine Ac9 (Q':=λvo=>one λva Hz=>rN (λs=>Aa.Ae3 s va Q Hz) vo) ho (fG ha) h3 h2 h4 (iT h5) (by simp) F.plainAttrs_str F.slot_str_split F.type_str_split L O h (λv H' q=>?_) (λv H1 φ1 x s1 q F1 r=>?_)
   (λv vs H1 φ1 x xs s1 q F1 r rs Z=>?_)
  ·cases v<;>first | exact oA q | exact B4 q
  ·cases v<;>first | exact aR r | exact B4 q
  ·have q2:=oB q
   clear q
   obtain ⟨va,rfl,q3⟩:=q2
   have q2:=jJ q3
   clear q3
   obtain ⟨l,rfl,q⟩:=q2
   replace q:=Aa.fU q
   obtain ⟨c,rfl,q⟩:=q
   ·skip
    have hz:=len_str r
    obtain ⟨t,rfl⟩:=N0 r
    obtain ⟨y,r',rfl,ry,rn⟩:=rs.Ax
    obtain rfl:=rn.Bo
    obtain ⟨u,rfl⟩:=N0 ry
    have hx:(Ar l).length<=sizeLine:=by refine qz M2 ?_;simpa [Ar,Str.length] using hz
    have Gh:=xA c l
    have hparts:∀ p∈Aa.splitAt c l,p.length<=Aa.P0:=λp hp=>D2 (rD c l p hp) hz
    have b7:((Aa.splitAt c l).map V.str).length<=Aa.P0:=by
     have:=zO c l
     simp;exact Aa.S5 (Aa.U1 this q.1)
    have fin:∀ (lt:List (Str×Tok)) (tk:Nat),lt.map (·.1)=(Aa.splitAt c l).map Ar->s1.toks<=tk ->
      K (.ref s1.heap.objs.size) { s1 with heap:=s1.heap.push { cls:=.type "list",data:=.seq (strValues lt).toArray },toks:=tk }:=by
     intro lt tk e ht
     have F2:=O8.alloc (n:=0) (tk:=tk) F1.ok (H8.ofStrs e hparts) b7 ht
     exact k _ _ _ _ _ q.2 (F1.trans F2) (fA (by refine qz F1.ok.len.symm ?_;simp))
    have hy:((Str.mk #[c]).length==0)=false:=rfl
    unfold Txt.split at Gh
    cases h1:(decide ((Ar l).length<(Str.mk #[c]).length)||decide (Builtin.Str.strKind (Ar l)<Builtin.Str.strKind ⟨#[c]⟩)) with
    | true =>
     rw [if_pos h1] at Gh
     refine call_meets F.slot_str_split (typeIs_str _ _ _) F.entry_str_split (F.args_str_split_2 _ _) (meets_str_split_cannot_occur (Ar l) ⟨#[c]⟩ t u h1) ?_
     exact fin [(Ar l,t)] s1.toks (by simpa using Gh) (D3 _)
    | false =>
     rw [if_neg (by refine qz h1 ?_;simp)] at Gh
     cases hf:(Builtin.Str.occurrences (Ar l) ⟨#[c]⟩ 0 (Ar l).length ((Ar l).length+1)).isEmpty with
     | true =>
      rw [if_pos hf] at Gh
      refine call_meets F.slot_str_split (typeIs_str _ _ _) F.entry_str_split (F.args_str_split_2 _ _) (meets_str_split_not_found (Ar l) ⟨#[c]⟩ t u h1 hy hf) ?_
      exact fin [(Ar l,t)] s1.toks (by simpa using Gh) (D3 _)
     | false =>
      rw [if_neg (by refine qz hf ?_;simp)] at Gh
      have hn:(Builtin.Str.partsBetween (Ar l) (Builtin.Str.occurrences (Ar l) ⟨#[c]⟩ 0 (Ar l).length ((Ar l).length+1)) (Str.mk #[c]).length).length<=sizeLine:=by
       refine qz Gh (qz M2 ?_);simpa using b7
      refine call_meets F.slot_str_split (typeIs_str _ _ _) F.entry_str_split (F.args_str_split_2 _ _) (meets_str_split_sep (Ar l) ⟨#[c]⟩ t u h1 hy hf hx hn) ?_
      exact qz (strsFrom_eq _ _) (fin (numbered s1.toks _) _ ((numbered_texts _ _).trans Gh) (E1 _ _))
theorem rE (c d:Nat):∀ l:List Nat,Aa.Ad [d] (Aa.splitAt c l)=Aa.Y5 l c d:=by
 intro l
 induction l with
 | nil=>exact rfl
 | cons x l ih =>
  have ih:=ih
  have f6:Aa.splitAt c l≠[]:=by
   cases l with
   | nil=>simp [Aa.splitAt]
   | cons y l =>
    unfold Aa.splitAt
    split
    ·simp
    ·split<;>simp
  unfold Aa.splitAt
  unfold Aa.Y5 at ih ⊢
  cases e:Aa.splitAt c l with
  | nil=>exact absurd e f6
  | cons w r =>
   rw [e] at ih
   split
   ·rename_i hx
    simp only [List.map_cons,if_pos hx]
    refine qz ih.symm ?_;rfl
   ·rename_i hx
    simp only [List.map_cons,if_neg hx]
    refine qz ih.symm ?_
    cases r<;>rfl
theorem Ai0 (c d:Nat) (l:List Nat):Txt.replace (Ar l) ⟨#[c]⟩ ⟨#[d]⟩=Ar (Aa.Y5 l c d):=by
 refine qz (StrLaws.replace_one _ _ _) (qz (xA _ _) (qz (Eq.symm (StrLaws.glued_eq_join _ _)) ?_))
 have:=uH [d] (Aa.splitAt c l)
 rw [rE] at this
 exact this
set_option tactic.hygienic true in
theorem zR (ho:L7 X A C o):L7 X A C (.replace o a b):=by
 intro re env nm ρ Q H φ s K EX hc L O h k
 refine Aa.Aa1 hc λo' x' y' ap p e9 h2 h3 g1 g2 h4 h5 h6=>?_
 clear hc;subst e9
 ·obtain ⟨lb,rfl⟩:=Aa.mM g2
  replace h:=Aa.Aj1 h
  refine wpAny_Call_method (Ap3 h3 _ _) ?_ h2 F.plainAttrs_str F.slot_str_replace F.type_str_replace (ho _ env nm ρ _ H φ s _ EX h4 L O h λv H1 φ1 x s1 q1 F1 r1=>?_)
  ·refine qz (kX (mL h5 h6)) ?_;rfl
  ·split at q1
   ·rename_i l
    refine ⟨(aR r1).1,(aR r1).2,?_⟩
    refine callWith_builtin (kW (mL h5 h6)) (Y7 (mL h5 h6) ?_)
    have hz:=len_str r1
    obtain ⟨t,rfl⟩:=N0 r1
    have fin:∀ (va:V) (ya:Str) (ta:Tok) (s2:Shared),O8 X.h₀ φ1 s1 φ1 H1 s2->L8 X.h₀ φ1 s2.heap va (.str ya ta)->0<ta->ta<s2.toks->Aa.L0 C (.str lb) ρ (λvb Hv=>Aa.jM l va vb Q Hv) H1 ->
      wpAny (S9 X) A (spliced (backTo p (starEach [y'] env))) (λvs sy=>wpAny (S9 X) A (call (.builtin "str.replace") ([Value.str ⟨l.toArray⟩ t]++(Args.mk (.str ya ta::vs) []).pos) (Args.mk (.str ya ta::vs) []).kw) K EX sy) EX s2:=by
     intro va ya ta s2 F2 ra hta0 hta1 hq
     have hq:=uE hq
     refine args_cons (uF h6 ?_) (V3 h6 _ _)
     refine args_nil ?_
     replace hq:=Aa.fU hq;obtain ⟨c,rfl,hq⟩:=hq
     obtain ⟨d,e9,hq⟩:=Aa.fU hq
     ·cases e9
      obtain ⟨t9,e9⟩:=N0 ra
      cases e9
      have F3:O8 X.h₀ φ1 s2 φ1 H1 { s2 with toks:=s2.toks+1 }:=O8.tok F2.ok (E4 _)
      refine free (SC.replace (u:=ta) (v:=s2.toks) (Nat.ne_of_gt hta0) (Nat.ne_of_gt (Nat.lt_trans hta0 hta1)) (D1 hta1) ?_ ?_ λt' k' ht=>?_)
      ·have:¬ ((⟨#[c]⟩:Str)=⟨#[d]⟩):=λe=>hq.1 (by simpa using e)
       simpa using this
      ·simp [Str.length];lia
      ·have e8:Txt.replace ⟨l.toArray⟩ ⟨[c].toArray⟩ ⟨[d].toArray⟩=⟨(Aa.Y5 l c d).toArray⟩:=Ai0 c d l
       exact qz e8 (k _ _ _ _ _ hq.2.2 (((F1.trans F2).trans F3).trans (O8.tok F3.ok ht)) (dM (by simpa [Aa.Y5] using hz)))
    rcases Aa.Ay6 g1 with g1|⟨xv,rfl,h7⟩
    ·obtain ⟨g1,h7⟩:=Aa.E7 g1
     obtain ⟨la,rfl⟩:=Aa.mM g1
     have j5:0<s1.toks:=D6 (L.pos h7) F1.step.toks
     refine args_cons (uF h5 ?_) (V3 h5 _ _)
     have q2:=uE q1
     have F2:O8 X.h₀ φ1 s1 φ1 H1 { s1 with toks:=s1.toks+1 }:=O8.tok F1.ok (E4 _)
     exact fin (.str la) _ _ _ F2 (dM (Ao6 h5)) j5 (D9 _) q2
    ·refine Aa.Ap9 h5 λid pid e9 hc8=>?_
     clear h5;subst e9
     ·simp only [Bool.and_eq_true,beq_iff_eq] at hc8
      obtain ⟨⟨g1,g2⟩,g3⟩:=hc8
      simp only [Aa.R3,Bool.and_eq_true,Bool.not_eq_true'] at g3
      replace q1:=Aa.Bf3 q1
      split at q1
      ·rename_i va hva
       refine args_cons (wpAny_Name (xG (L.fwd O F1) g1 g2 hva (λy ry lr=>?_) g3.2) g3.1)
       obtain ⟨ly,ty,rfl,u1,u2⟩:=lr (by simpa using h7) y rfl
       exact fin va _ _ _ (O8.refl F1.ok) ry u1 u2 q1
      ·exact q1.elim
   ·exact q1.elim
end
section
variable {X:Cx}{A:Around}{C:Aa.Calls}
end
end Bq
set_option linter.unusedVariables false
namespace Bq
open PySem PySem.Calls PyProof.Rows
open Aa (V D)
section
variable {X:Cx}{A:Around}{C:Aa.Calls}
theorem Cm0 (l:List Nat) (i j:Nat):Builtin.Str.strSub (Ar l) i j=Ar ((l.drop i).take (j - i)):=by
 show Str.mk (l.toArray.extract i j)=Str.mk _
 exact qz List.extract_toArray rfl
theorem Bi6 (l:List Nat) (c:Nat):stripped (Str.mk #[c]).cps.contains true false (Ar l)=Ar (l.dropWhile (· == c))/\(stripSame (Str.mk #[c]).cps.contains true false (Ar l)=true->l.dropWhile (· == c)=l):=by
 have eg:(Str.mk #[c]).cps.contains=λd=>d==c:=by
  funext d
  show ([c].toArray).contains d=_
  exact qz List.contains_toArray (qz List.contains_cons (qz List.contains_nil (qz (Bool.or_false _) rfl)))
 have e1:stripLo (λd=>d==c) true (Ar l)=(l.takeWhile (· == c)).length:=by
  show ((Ar l).cps.toList.takeWhile _).length=_
  simp [Ar]
 have ed:l.drop (l.takeWhile (· == c)).length=l.dropWhile (· == c):=by
  have:=List.takeWhile_append_dropWhile (p:=(· == c)) (l:=l)
  replace this:=D0 (λx=>x.drop (l.takeWhile (· == c)).length) this
  simp only [List.drop_left] at this
  exact this.symm
 refine qz eg ?_
 refine ⟨?_,λh=>?_⟩
 ·show Builtin.Str.strSub (Ar l) (stripLo (λd=>d==c) true (Ar l)) (Ar l).length=_
  refine qz e1 (qz (Cm0 _ _ _) (qz ed ?_));rw [List.take_of_length_le]
  refine qz ed.symm (qz List.length_drop ?_);simp [Ar,Str.length]
 ·unfold stripSame at h
  rw [e1] at h
  have h0:(l.takeWhile (· == c)).length=0:=by simpa using (B6 h).1
  rw [h0,List.drop_zero] at ed
  exact ed.symm
theorem Ah0 (ho:L7 X A C o) (ha:L7 X A C a):L7 X A C (.lstrip o a):=by
 intro re env nm ρ Q H φ s K EX hc L O h k
 refine Aa.m1 hc λo' e' ap p e9 h2 h3 h4 h5=>?_
 clear hc;subst e9
 replace h:=Aa.Ax2 h
 refine Ac9 (Q':=λvo=>one λva Hz=>rN (λs=>Aa.uL s va Q Hz) vo) ho (fG ha) h3 h2 h4 (iT h5) (by simp) F.plainAttrs_str F.slot_str_lstrip F.type_str_lstrip L O h (λv H' q=>?_) (λv H1 φ1 x s1 q F1 r=>?_)
  (λv vs H1 φ1 x xs s1 q F1 r rs Z=>?_)
 ·cases v<;>first | exact oA q | exact B4 q
 ·cases v<;>first | exact aR r | exact B4 q
 ·have q2:=oB q
  clear q
  obtain ⟨va,rfl,q3⟩:=q2
  have q2:=jJ q3
  clear q3
  obtain ⟨l,rfl,q⟩:=q2
  replace q:=Aa.fU q
  obtain ⟨c,rfl,q⟩:=q
  ·skip
   have hz:=len_str r
   obtain ⟨t,rfl⟩:=N0 r
   obtain ⟨y,r',rfl,ry,rn⟩:=rs.Ax
   obtain rfl:=rn.Bo
   obtain ⟨u,rfl⟩:=N0 ry
   have hx:(Ar l).length<=sizeLine:=by refine qz M2 ?_;simpa [Ar,Str.length] using hz
   obtain ⟨g1,g2⟩:=Bi6 l c
   refine call_gives F.slot_str_lstrip (typeIs_str _ _ _) F.entry_str_lstrip (F.args_str_lstrip_2 _ _) (gives_str_lstrip_chars (Ar l) ⟨#[c]⟩ t u) ?_
   by_cases hs:stripSame (Str.mk #[c]).cps.contains true false (Ar l)=true
   ·refine qz (if_pos hs) ?_
    rw [g2 hs] at q
    exact k _ _ _ _ _ q F1 r
   ·refine qz (if_neg hs) (qz g1 ?_)
    have hd:(l.dropWhile (· == c)).length<=Aa.P0:=D2 (List.dropWhile_sublist _).length_le hz
    refine ⟨by refine qz g1.symm ?_;exact fits_stripped _ _ _ hx,k _ _ _ _ _ q (F1.trans (O8.tok F1.ok (E4 _))) (dM hd)⟩
end
section
variable {X:Cx}{A:Around}{C:Aa.Calls}
noncomputable def gM (X:Cx) (A:Around) (C:Aa.Calls) (e:Aa.E):Prop :=
 ∀ (re:Expr) (env:Env) (nm:List Str) (ρ:Aa.M6) (Q:Bool->Aa.Heap->Prop) (H:Aa.Heap) (φ:List Addr) (s:Shared) (K:Bool->Shared->Prop) (EX:Value->Shared->Prop),
  Aa.K2 X.gl env.scope.names nm e re=true->L9 X φ nm env ρ s->Ok X.h₀ φ H s.heap->Aa.L0 C e ρ (λv Hw=>Aa.Bb (Aa.O4 v) Q Hw) H ->
  (∀ b H' φ' s',Q b H'->O8 X.h₀ φ s φ' H' s'->K b s')->wpAny (S9 X) A (isTrue re env (eval re env)) K EX s
set_option tactic.hygienic true in
theorem Ai6 {gl sc nm e re}(h:Aa.K2 gl sc nm e re=true) (hp:Aa.Bx e=true) (env:Env) (w:Sem Value) :
  isTrue re env w=(do let v <- w;standAt re.pos;holding [v] (truthy v)):=by
 have hf:=(Aa.lK h).Dt
 have ht:=(Aa.lK h).test hp
 clear h
 cases re<;>first | rfl | exact Bool.noConfusion hf | exact Bool.noConfusion ht | skip
 rename_i o _ _
 cases o<;>first | rfl | exact Bool.noConfusion ht
set_option tactic.hygienic true in
theorem Ah6 (he:L7 X A C e) (hp:Aa.Bx e=true):gM X A C e:=by
 intro re env nm ρ Q H φ s K EX hc L O h k
 refine isTrue_plain (he re env nm ρ _ H φ s _ EX hc L O h λv H1 φ1 x s1 q F1 r=>?_) (Ai6 hc hp env _)
 unfold Aa.Bb at q
 split at q
 ·rename_i t e
  obtain rfl:=jI r e
  exact wpAny_truthy_bool (k _ _ _ _ q F1)
 ·exact q.elim
theorem Bk8 (he:gM X A C e):gM X A C (.not e):=by
 intro re env nm ρ Q H φ s K EX hc L O h k
 refine Aa.Aq1 hc λe' p e9 Af=>?_
 clear hc;subst e9
 ·replace h:=Aa.Bf4 h
  refine isTrue_not (he _ env nm ρ (λb H=>Q (!b) H) H φ s _ EX Af L O ?_ λb H1 φ1 s1 q F1=>k _ _ _ _ q F1)
  have e:(λv Hw=>Aa.Bb (Aa.O4 v) (λb H=>Aa.Bb (Aa.O4 (V.bool !b)) Q H) Hw)=λv Hw=>Aa.Bb (Aa.O4 v) (λb H=>Q (!b) H) Hw:=by
   funext v Hw
   cases v<;>rfl
  rw [e] at h;exact h
set_option tactic.hygienic true in
theorem Bk9 (hu:A.units+106<cLine) (hl:L7 X A C l) (hr:L7 X A C r):gM X A C (.cmp o l r):=by
 intro re env nm ρ Q H φ s K EX hc L O h k
 refine Aa.Aq3 hc λl' o' r' p e9 Af=>?_
 clear hc;subst e9
 ·replace Af:=Aa.a3 Af
  obtain ⟨⟨h1,h2⟩,h3⟩:=Af
  replace h:=Aa.Bf5 h
  refine wpAny_isTrue_Compare1 (hl _ env nm ρ _ H φ s _ EX h2 L O h λa H1 φ1 x1 s1 q1 F1 r1=>?_) (jK h3 _)
  refine hr _ env nm ρ _ H1 φ1 s1 _ EX h3 (L.fwd O F1) F1.ok q1 λb H2 φ2 x2 s2 q2 F2 r2=>?_
  unfold Aa.Bb at q2
  split at q2
  ·rename_i t e
   exact cS hu h1 F2.ok (F2.val F1.ok r1) r2 e (wpAny_truthy_bool (k _ _ _ _ q2 (F1.trans F2)))
  ·exact q2.elim
set_option tactic.hygienic true in
theorem Av9 (hu:A.units+106<cLine) (ha:L7 X A C a) (hb:L7 X A C b) (Cs:L7 X A C c):gM X A C (.Dk o6 o0 a b c):=by
 intro re env nm ρ Q H φ s K EX hc L O h k
 refine Aa.xV hc λa' o' p' b' c' p e9 Af=>?_
 clear hc;subst e9
 ·replace Af:=Aa.a5 Af
  obtain ⟨⟨⟨⟨h1,h2⟩,h3⟩,h4⟩,h5⟩:=Af
  replace h:=Aa.Ap7 h
  refine isTrue_chain (ha _ env nm ρ _ H φ s _ EX h3 L O h λva H1 φ1 x1 s1 q1 F1 r1=>?_) (by simpa [lastMarks] using jK h5 _)
  refine test_link (hb _ env nm ρ _ H1 φ1 s1 _ EX h4 (L.fwd O F1) F1.ok q1 λvb H2 φ2 x2 s2 q2 F2 r2=>?_)
  unfold Aa.Bb at q2
  split at q2
  ·rename_i t e
   refine cS hu h1 F2.ok (F2.val F1.ok r1) r2 e (wpAny_truthy_bool ?_)
   cases t with
   | false=>exact k _ _ _ _ q2 (F1.trans F2)
   | true =>
    refine test_last (Cs _ env nm ρ _ H2 φ2 s2 _ EX h5 ((L.fwd O F1).fwd F1.ok F2) F2.ok q2 λvc H3 φ3 x3 s3 q3 F3 r3=>?_)
    split at q3
    ·rename_i t e
     exact cS hu h2 F3.ok (F3.val F2.ok r2) r3 e (wpAny_truthy_bool (k _ _ _ _ q3 ((F1.trans F2).trans F3)))
    ·exact q3.elim
  ·exact q2.elim
theorem Bx8 (he:L7 X A C e):gM X A C (.is e c):=by
 intro re env nm ρ Q H φ s K EX hc L O h k
 refine Aa.Bg6 hc λe' r' p e9 Af=>?_
 clear hc;subst e9
 ·replace Af:=Aa.E7 Af
  replace h:=Aa.Cg7 h
  refine wpAny_isTrue_Compare1 (he _ env nm ρ _ H φ s _ EX Af.1 L O h λa H1 φ1 x1 s1 q1 F1 r1=>?_) (gF Af.2 _)
  obtain ⟨y,ev,hp,hq⟩:=tG (X:=X) (A:=A) (env:=env) (s:=s1) r1 Af.2
  refine ev (wpAny_is_plain hp ?_)
  exact qz hq (wpAny_truthy_bool (k _ _ _ _ q1 F1))
theorem Ah7 (he:L7 X A C e):gM X A C (.Az e c):=by
 intro re env nm ρ Q H φ s K EX hc L O h k
 refine Aa.sK hc λe' r' p e9 Af=>?_
 clear hc;subst e9
 ·replace Af:=Aa.E7 Af
  replace h:=Aa.xR h
  refine wpAny_isTrue_Compare1 (he _ env nm ρ _ H φ s _ EX Af.1 L O h λa H1 φ1 x1 s1 q1 F1 r1=>?_) (gF Af.2 _)
  obtain ⟨y,ev,hp,hq⟩:=tG (X:=X) (A:=A) (env:=env) (s:=s1) r1 Af.2
  refine ev (wpAny_isNot_plain hp ?_)
  exact qz hq (wpAny_truthy_bool (k _ _ _ _ q1 F1))
noncomputable def nH (X:Cx) (A:Around) (C:Aa.Calls) (es:List Aa.E):Prop:=∀ e∈es,gM X A C e
set_option tactic.hygienic true in
theorem lQ:∀ (es:List Aa.E) (res:List Expr) (env:Env) (nm:List Str) (ρ:Aa.M6) (Q:Bool->Aa.Heap->Prop) (H:Aa.Heap) (φ:List Addr) (s:Shared) (K:Bool->Shared->Prop) (EX:Value->Shared->Prop) (p:Pos) (w:Sem Value),
  nH X A C es->Aa.S0 X.gl env.scope.names nm es res=true->L9 X φ nm env ρ s->Ok X.h₀ φ H s.heap->Aa.lJ C es ρ (λv Hw=>Aa.Bb (Aa.O4 v) Q Hw) H ->
  (∀ b H' φ' s',Q b H'->O8 X.h₀ φ s φ' H' s'->K b s')->wpAny (S9 X) A (isTrue (.BoolOp .And res p) env w) K EX s
 | []=>λZ Z Z Z Z Z Z Z Z Z Z Z Z Z Z Z h Z=>B4 h
 | e::es=>λres env nm ρ Q H φ s K EX p w hs hc L O h k=>by
  cases res with
  | nil=>nomatch hc
  | cons re res =>
   replace hc:=Aa.E7 hc
   cases es with
   | nil =>
    cases res with
    | cons _ _=>nomatch hc
    | nil =>
     refine isTrue_and (hs e (by simp) _ env nm ρ Q H φ s _ EX hc.1 L O h λb H1 φ1 s1 q F1=>?_)
     cases b with
     | false=>exact k _ _ _ _ q F1
     | true=>exact isTrue_and_nil (k _ _ _ _ q F1)
   | cons e2 es =>
    refine isTrue_and (hs e (by simp) _ env nm ρ (λb Hw=>match b with
      | true=>Aa.lJ C (e2::es) ρ (λv Hw=>Aa.Bb (Aa.O4 v) Q Hw) Hw
      | false=>Q false Hw) H φ s _ EX hc.1 L O ?_ λb H1 φ1 s1 q F1=>?_)
    ·have e9:(λv Hw=>Aa.Bb (Aa.O4 v) (λb Hw=>match b with
      | true=>Aa.lJ C (e2::es) ρ (λv Hw=>Aa.Bb (Aa.O4 v) Q Hw) Hw
      | false=>Aa.Bb (Aa.O4 v) Q Hw) Hw)=λv Hw=>Aa.Bb (Aa.O4 v) (λb Hw=>match b with
      | true=>Aa.lJ C (e2::es) ρ (λv Hw=>Aa.Bb (Aa.O4 v) Q Hw) Hw
      | false=>Q false Hw) Hw:=by
      funext v Hw
      cases v<;>try rfl
      rename_i b
      cases b<;>rfl
     exact Eq.mp (D0 (λq=>Aa.L0 C e ρ q H) e9) h
    ·cases b with
     | false=>exact k _ _ _ _ q F1
     | true=>exact lQ (e2::es) res env nm ρ Q H1 φ1 s1 K EX p w (λe' he'=>hs e' (C5 _ he')) hc.2 (L.fwd O F1) F1.ok q λb H2 φ2 s2 q2 F2=>k _ _ _ _ q2 (F1.trans F2)
set_option tactic.hygienic true in
theorem pR:∀ (es:List Aa.E) (res:List Expr) (env:Env) (nm:List Str) (ρ:Aa.M6) (Q:Bool->Aa.Heap->Prop) (H:Aa.Heap) (φ:List Addr) (s:Shared) (K:Bool->Shared->Prop) (EX:Value->Shared->Prop) (p:Pos) (w:Sem Value),
  nH X A C es->Aa.S0 X.gl env.scope.names nm es res=true->L9 X φ nm env ρ s->Ok X.h₀ φ H s.heap->Aa.wF C es ρ (λv Hw=>Aa.Bb (Aa.O4 v) Q Hw) H ->
  (∀ b H' φ' s',Q b H'->O8 X.h₀ φ s φ' H' s'->K b s')->wpAny (S9 X) A (isTrue (.BoolOp .Or res p) env w) K EX s
 | []=>λZ Z Z Z Z Z Z Z Z Z Z Z Z Z Z Z h Z=>B4 h
 | e::es=>λres env nm ρ Q H φ s K EX p w hs hc L O h k=>by
  cases res with
  | nil=>nomatch hc
  | cons re res =>
   replace hc:=Aa.E7 hc
   cases es with
   | nil =>
    cases res with
    | cons _ _=>nomatch hc
    | nil =>
     refine isTrue_or (hs e (by simp) _ env nm ρ Q H φ s _ EX hc.1 L O h λb H1 φ1 s1 q F1=>?_)
     cases b with
     | true=>exact k _ _ _ _ q F1
     | false=>exact isTrue_or_nil (k _ _ _ _ q F1)
   | cons e2 es =>
    refine isTrue_or (hs e (by simp) _ env nm ρ (λb Hw=>match b with
      | true=>Q true Hw
      | false=>Aa.wF C (e2::es) ρ (λv Hw=>Aa.Bb (Aa.O4 v) Q Hw) Hw) H φ s _ EX hc.1 L O ?_ λb H1 φ1 s1 q F1=>?_)
    ·have e9:(λv Hw=>Aa.Bb (Aa.O4 v) (λb Hw=>match b with
      | true=>Aa.Bb (Aa.O4 v) Q Hw
      | false=>Aa.wF C (e2::es) ρ (λv Hw=>Aa.Bb (Aa.O4 v) Q Hw) Hw) Hw)=λv Hw=>Aa.Bb (Aa.O4 v) (λb Hw=>match b with
      | true=>Q true Hw
      | false=>Aa.wF C (e2::es) ρ (λv Hw=>Aa.Bb (Aa.O4 v) Q Hw) Hw) Hw:=by
      funext v Hw
      cases v<;>try rfl
      rename_i b
      cases b<;>rfl
     exact Eq.mp (D0 (λq=>Aa.L0 C e ρ q H) e9) h
    ·cases b with
     | true=>exact k _ _ _ _ q F1
     | false=>exact pR (e2::es) res env nm ρ Q H1 φ1 s1 K EX p w (λe' he'=>hs e' (C5 _ he')) hc.2 (L.fwd O F1) F1.ok q λb H2 φ2 s2 q2 F2=>k _ _ _ _ q2 (F1.trans F2)
theorem Bl0 (hs:nH X A C es):gM X A C (.and es):=by
 intro re env nm ρ Q H φ s K EX hc L O h k
 refine Aa.Aq4 hc λb9 p e9 Af=>?_
 clear hc;subst e9
 ·replace h:=Aa.Bf6 h
  exact lQ es _ env nm ρ Q H φ s K EX _ _ hs Af L O h k
theorem Bx7 (hs:nH X A C es):gM X A C (.or es):=by
 intro re env nm ρ Q H φ s K EX hc L O h k
 refine Aa.Bg5 hc λb9 p e9 Af=>?_
 clear hc;subst e9
 ·replace h:=Aa.Cg6 h
  exact pR es _ env nm ρ Q H φ s K EX _ _ hs Af L O h k
end
noncomputable def Own (env:Env) (b:Addr):Prop:=b=env.locals∨∃ x,env.cells.lookup x=some b
structure S4 (h₀:Heap) (env:Env) (φ:List Addr) (s:Shared) (φ':List Addr) (H':Aa.Heap) (s':Shared):Prop where
 same:∃ h' tk,s'={ s with heap:=h',toks:=tk }
 keep:∀ b o,b ∉ φ->¬ Own env b->s.heap.get? b=some o->s'.heap.get? b=some o
 size:s.heap.objs.size<=s'.heap.objs.size
 toks:s.toks<=s'.toks
 grow:∃ ψ,φ'=φ++ψ/\∀ a∈ψ,s.heap.objs.size<=a
 ok:Ok h₀ φ' H' s'.heap
theorem O8.toS {h₀ φ s φ' H' s'}(F:O8 h₀ φ s φ' H' s') (env:Env):S4 h₀ env φ s φ' H' s' :=
 ⟨F.step.same,λb o h Z e=>F.step.keep b o h e,F.step.size,F.step.toks,F.grow,F.ok⟩
theorem S4.refl {h₀ env φ s H}(K:Ok h₀ φ H s.heap):S4 h₀ env φ s φ H s:=(O8.refl K).toS env
theorem S4.trans {h₀ env φ s φ0 Hw s9 φ8 Hz sy}(a:S4 h₀ env φ s φ0 Hw s9) (b:S4 h₀ env φ0 s9 φ8 Hz sy):S4 h₀ env φ s φ8 Hz sy:=by
 apply Ah;intro g9 k9
 obtain ⟨⟨h1,t1,e1⟩,k1,z1,w1,⟨ψ1,g1,m1⟩,o1⟩:=a
 obtain ⟨⟨h2,t2,e2⟩,k2,z2,w2,⟨ψ2,g2,m2⟩,o2⟩:=b
 apply k9
 refine ⟨⟨h2,t2,by rw [e2,e1]⟩,λb o hb hn e=>?_,D2 z1 z2,D2 w1 w2,⟨ψ1++ψ2,by refine qz g2 (qz g1 ?_);rw [D5],λa ha=>?_⟩,o2⟩
 ·refine k2 b o ?_ hn (k1 b o hb hn e)
  refine qz g1 ?_;rw [List.mem_append,not_or]
  exact ⟨hb,λhm=>absurd (Heap.lt_size e) (Nat.not_lt.mpr (m1 b hm))⟩
 ·rcases C0 ha with q|q
  ·exact m1 a q
  ·exact D2 z1 (m2 a q)
theorem S4.idx {h₀ env φ s φ' H' s'}(F:S4 h₀ env φ s φ' H' s'):∀ (i:Nat) (a:Addr),φ[i]? = some a->φ'[i]? = some a:=by
 obtain ⟨ψ,e,_⟩:=F.grow
 intro i a hi
 exact qz e (qz (List.getElem?_append_left (A3 hi).1) hi)
theorem S4.fields {X:Cx}{env φ nm ρ s φ' H H' s'}(K:Ok X.h₀ φ H s.heap) (L:L9 X φ nm env ρ s) (F:S4 X.h₀ env φ s φ' H' s') (hd:o.data=.fields vs)
  (e:s.heap.get? b=some o):s'.heap.get? b=some o:=by
 refine F.keep b o (λhm=>?_) (λhn=>?_) e
 ·obtain ⟨vs',n,e'⟩:=K.mem hm
  rw [e'] at e;cases e;simp at hd
 ·rcases hn with rfl|⟨x,hx⟩
  ·obtain ⟨m,⟨o',es,ep,ho',hd',_⟩,_⟩:=L.locals
   rw [ho'] at e;cases e;rw [hd'] at hd;cases hd
  ·obtain ⟨ov,o',ho',hd'⟩:=L.As x b hx
   rw [ho'] at e;cases e;rw [hd'] at hd;cases hd
theorem Ok.other {h₀ φ H h h'}(K:Ok h₀ φ H h) (hs:Heap.SameBut a h h') (ho:h.get? a=some o) (hn:∀ vs n,o.data≠.seq vs n) (l8:h₀.objs.size<=a):Ok h₀ φ H h':=by
 have p9:a ∉ φ:=λhm=>by
  obtain ⟨vs,n,e⟩:=K.mem hm
  rw [e] at ho;cases ho;exact hn _ _ rfl
 have keep:∀ b o,b≠a->h.get? b=some o->h'.get? b=some o:=λb o hb e=>(hs.2 b hb).trans e
 have Bu:∀ b o,T6 o->h.get? b=some o->h'.get? b=some o:=λb o' ht e=>keep b o' (by
  rintro rfl
  rw [e] at ho;cases ho
  obtain ⟨_,vs,n,hd⟩:=ht
  exact hn _ _ hd) e
 refine ⟨λb o e=>keep b o (λq=>?_) (K.base b o e),K.len,K.nodup,K.above,K.small,D2 K.room (A4 hs.1.symm),λi b l hi hl=>?_⟩
 ·subst q;exact absurd (Heap.lt_size e) (Nat.not_lt.mpr l8)
 ·obtain ⟨vs,⟨n,e⟩,r⟩:=K.lists i b l hi hl
  have hb:b≠a:=λq=>p9 (q▸E5 hi)
  exact ⟨vs,⟨n,keep b _ hb e⟩,H8.mono (λZ Z q=>q) Bu l r⟩
theorem pP {h₀ φ h h'}(hs:Heap.SameBut a h h') (ho:h.get? a=some o) (hn:∀ vs n,o.data≠.seq vs n) {x:Value}(r:L8 h₀ φ h v x):L8 h₀ φ h' v x :=
 L8.mono (λZ Z q=>q) (λb o' ht e=>(hs.2 b (by
  rintro rfl
  rw [e] at ho;cases ho
  obtain ⟨_,vs,n,hd⟩:=ht
  exact hn _ _ hd)).trans e) v r
section
variable {X:Cx}{A:Around}{C:Aa.Calls}
theorem eE {ρ:Aa.M6}{x:Nat}{v:V}(h:x<ρ.length):((ρ.set x (some v))[x]?).getD none=some v:=by
 refine qz (B9 h) ?_;rfl
theorem Z4 {ρ:Aa.M6}{x y:Nat}{v:V}(h:x≠y):(ρ.set x (some v))[y]? = ρ[y]?:=A9 h
theorem gE {env:Env}{nm:List Str}{ρ:Aa.M6}{φ:List Addr}{H:Aa.Heap}{s:Shared}{K:Unit->Shared->Prop}{EX:Value->Shared->Prop}{id:Str}{x:Nat}{v:V}{y:Value}
  (L:L9 X φ nm env ρ s) (O:Ok X.h₀ φ H s.heap) (hx:nm[x]? = some id) (hl:Aa.Y3 env.scope.names id=true) (hf:(env.scope.names.lookup id != some .free)=true) (i9:X.gl.lits.contains x=false)
  (r:L8 X.h₀ φ s.heap v y) (k:∀ s',S4 X.h₀ env φ s φ H s'->L9 X φ nm env (ρ.set x (some v)) s'->K () s'):wpAny (S9 X) A (storeName env id y) K EX s:=by
 have d9:env.kindOf id=env.scope.names.lookup id:=rfl
 have hxl:x<ρ.length:=qz L.len ((A3 hx).1)
 have Fi:x ∉ X.gl.lits:=by simpa using i9
 have Et:∀ (i:Nat) (z:Str),nm[i]? = some z->z=id->i=x:=λi z hz e=>by
  subst e
  exact (List.getElem?_inj (A3 hz).1 L.nodup).mp (hz.trans hx.symm)
 have By:∀ (i:Nat) (z:Str),nm[i]? = some z->z≠id->i≠x:=λi z hz e q=>by
  subst q
  rw [hx] at hz;cases hz;exact e rfl
 unfold Aa.Y3 at hl
 split at hl
 ·rename_i e
  obtain ⟨m,i7,hm⟩:=L.locals
  obtain ⟨o,es,ep,ho,hd,_⟩:=_root_.id i7
  refine wpAny_storeName_local (d9.trans e) i7 (λh' hn hs=>?_) (by refine qz L.kind ?_;rfl)
  have m7:∀ vs n,o.data≠.seq vs n:=λvs n q=>by rw [hd] at q;cases q
  have O':Ok X.h₀ φ H h':=O.other hs ho m7 L.above
  have hr:∀ v x,L8 X.h₀ φ s.heap v x->L8 X.h₀ φ h' v x:=λv x q=>pP hs ho m7 q
  refine k _ ⟨⟨h',_,rfl⟩,λb o hb hno e=>(hs.2 b λq=>hno (Or.inl q)).trans e,A4 hs.1.symm,E4 _,⟨[],by simp,by simp⟩,O'⟩ ?_
  refine ⟨L.kind,L.glob,L.blt,by simp [L.len],L.nodup,λhp=>D6 (L.pos hp) (E4 _),⟨_,hn,λi z hz hk=>?_⟩,λi z hz hk=>?_,L.above,L.Bj,λz c hc=>?_,L.apart⟩
  ·by_cases Dl:z=id
   ·have:=Et i z hz Dl
    subst this
    exact qz (eE hxl) (qz (if_pos Dl) ⟨⟨y,rfl,hr _ _ r⟩,λhi=>absurd hi Fi⟩)
   ·exact qz (Z4 (Ne.symm (By i z hz Dl))) (qz (if_neg Dl) ⟨(hm i z hz hk).1.mono hr,(hm i z hz hk).2.mono (E4 _)⟩)
  ·obtain ⟨c,ov,hc,⟨oc,Cb,hdc⟩,q,lr⟩:=L.cells i z hz hk
   have Dl:z≠id:=by
    rintro rfl
    rw [d9,e] at hk
    rcases hk with hk|hk<;>cases hk
   have g8:c≠env.locals:=by
    rintro rfl
    rw [ho] at Cb;cases Cb;rw [hd] at hdc;cases hdc
   exact qz (Z4 (Ne.symm (By i z hz Dl))) ⟨c,ov,hc,⟨oc,(hs.2 c g8).trans Cb,hdc⟩,q.mono hr,lr.mono (E4 _)⟩
  ·obtain ⟨ov,oc,Cb,hdc⟩:=L.As z c hc
   have g8:c≠env.locals:=by
    rintro rfl
    rw [ho] at Cb;cases Cb;rw [hd] at hdc;cases hdc
   exact ⟨ov,oc,(hs.2 c g8).trans Cb,hdc⟩
 ·rename_i e
  obtain ⟨c,ov,hc,hcell,q,lr⟩:=L.cells x id hx (Or.inl (d9.trans e))
  obtain ⟨o,ho,hd⟩:=_root_.id hcell
  refine wpAny_storeName_cell L.kind (d9.trans e) hc hcell λh' hn hs=>?_
  have m7:∀ vs n,o.data≠.seq vs n:=λvs n q=>by rw [hd] at q;cases q
  have O':Ok X.h₀ φ H h':=O.other hs ho m7 (L.Bj _ _ hc)
  have hr:∀ v x,L8 X.h₀ φ s.heap v x->L8 X.h₀ φ h' v x:=λv x q=>pP hs ho m7 q
  refine k _ ⟨⟨h',_,rfl⟩,λb o hb hno e=>(hs.2 b λq=>hno (Or.inr ⟨id,qz q hc⟩)).trans e,A4 hs.1.symm,D3 _,⟨[],by simp,by simp⟩,O'⟩ ?_
  refine ⟨L.kind,L.glob,L.blt,by simp [L.len],L.nodup,L.pos,?_,λi z hz hk=>?_,L.above,L.Bj,λz c' j0=>?_,L.apart⟩
  ·apply Ah;intro g9 k9
   obtain ⟨m,i7,hm⟩:=L.locals
   obtain ⟨ol,es,ep,Eu,hdl,rest⟩:=i7
   apply k9
   have g8:env.locals≠c:=by
    intro q
    rw [q,ho] at Eu;cases Eu;rw [hd] at hdl;cases hdl
   refine ⟨m,⟨ol,es,ep,(hs.2 _ g8).trans Eu,hdl,rest⟩,λi z hz hk=>?_⟩
   have Dl:z≠id:=by
    rintro rfl
    rw [d9,e] at hk;cases hk
   exact qz (Z4 (Ne.symm (By i z hz Dl))) ⟨(hm i z hz hk).1.mono hr,(hm i z hz hk).2⟩
  ·obtain ⟨c',ov',j0,⟨oc,Cb,hdc⟩,q',lr'⟩:=L.cells i z hz hk
   by_cases Dl:z=id
   ·have:=Et i z hz Dl
    subst this
    subst Dl
    rw [hc] at j0;cases j0
    exact qz (eE hxl) ⟨c,some y,hc,hn,⟨y,rfl,hr _ _ r⟩,λhi=>absurd hi Fi⟩
   ·have Cs:c'≠c:=by
     rintro rfl
     exact Dl (L.apart z id c' j0 hc)
    exact qz (Z4 (Ne.symm (By i z hz Dl))) ⟨c',ov',j0,⟨oc,(hs.2 c' Cs).trans Cb,hdc⟩,q'.mono hr,lr'⟩
  ·by_cases Cs:c'=c
   ·subst Cs;exact ⟨some y,hn⟩
   ·obtain ⟨ov',oc,Cb,hdc⟩:=L.As z c' j0
    exact ⟨ov',oc,(hs.2 c' Cs).trans Cb,hdc⟩
 ·rename_i e
  rw [e] at hf;simp at hf
 ·cases hl
end
end Bq
namespace Bq
open PySem
theorem xC (h:Heap) (a:Addr) (f:Obj->Obj):(h.update a f).objs.size=h.objs.size:=by
 obtain ⟨o,l⟩:=h
 simp [Heap.update]
theorem xD (h:Heap) (o:Obj):(h.push o).objs.size=h.objs.size+1:=by
 obtain ⟨os,l⟩:=h
 simp [Heap.push]
theorem Cr (h:Runs M Γ p t fs s e s'):s.heap.objs.size<=s'.heap.objs.size:=by
 induction h<;>(try simp only [Shared.setGen,xC,xD] at *)<;>lia
theorem vG (h:Returns M Γ p s r s'):s.heap.objs.size<=s'.heap.objs.size:=Cr h
theorem Ag8 {res:GenResult}(h:Wakes M Γ p g r s res s'):s.heap.objs.size<=s'.heap.objs.size:=by
 unfold Wakes at h
 split at h
 ·exact h.elim
 ·split at h
  ·obtain ⟨ez,s9,hr,_,_,rfl⟩:=h;exact (Cr hr:(s.setGen g .running).heap.objs.size<=s9.heap.objs.size)
  ·exact qz h.2 (D3 _)
  ·exact qz h.2 (D3 _)
 ·obtain ⟨ez,s9,hr,_,_,rfl⟩:=h;exact (Cr hr:(s.setGen g .running).heap.objs.size<=s9.heap.objs.size)
 ·exact qz h.2 (D3 _)
 ·exact qz h.2 (D3 _)
open Sem (wp)
theorem Bv5 {α:Type}(M:Model) (Γ:Ctx) (n:Nat) (t:Sem α):∀ (Q:α->Pos->Shared->Prop) (E:Value->Pos->Shared->Prop) (p:Pos) (s:Shared),n<=s.heap.objs.size->wp M Γ t Q E p s ->
  wp M Γ t (λa p' s'=>n<=s'.heap.objs.size/\Q a p' s') (λe p' s'=>n<=s'.heap.objs.size/\E e p' s') p s:=by
 induction t with
 | pure a=>intro Q E p s hn h;exact ⟨hn,h⟩
 | raise e=>intro Q E p s hn h;exact ⟨hn,h⟩
 | unsupported _=>intro Q E p s _ h;exact h
 | finish _=>intro Q E p s _ h;exact h
 | rule _ k ih=>intro Q E p s hn h;exact ih () Q E p s hn h
 | «at» p' k ih=>intro Q E p s hn h;exact ih () Q E p' s hn h
 | load a _ k ih=>intro Q E p s hn h;obtain ⟨o,ho,h⟩:=h;exact ⟨o,ho,ih o Q E p s hn h⟩
 | update a _ f k ih=>intro Q E p s hn h;exact ⟨h.1,ih () Q E p _ (by show n<=(s.heap.update a f).objs.size;exact qz (xC _ _ _) hn) h.2⟩
 | loadIfAlive a k ih=>intro Q E p s hn h;exact ih _ Q E p s hn h
 | point _ k ih=>intro Q E p s hn h;exact ih () Q E p s hn h
 | register _ _=>intro Q E p s _ h;exact h
 | alloc o k ih=>intro Q E p s hn h;exact ih _ Q E p _ (by show n<=(s.heap.push o).objs.size;exact qz (xD _ _) (C8 hn)) h
 | fresh k ih=>intro Q E p s hn h;exact ih _ Q E p _ hn h
 | ask k ih=>intro Q E p s hn h;exact ih _ Q E p s hn h
 | choose src m k ih=>intro Q E p s hn h;exact ⟨h.1,ih _ Q E p _ hn h.2⟩
 | os q _ k ih=>intro Q E p s hn h;exact ih _ Q E p _ hn h
 | call c hd _ _ k ih=>intro Q E p s hn h;obtain ⟨r,s',hr,h⟩:=h;exact ⟨r,s',hr,ih r Q E p s' (D2 hn (vG hr)) h⟩
 | handled own k ih=>intro Q E p s hn h;exact ih _ Q E p s hn h
 | genState g k ih=>intro Q E p s hn h;obtain ⟨st,hs,h⟩:=h;exact ⟨st,hs,ih _ Q E p s hn h⟩
 | newGen c k ih=>intro Q E p s hn h;exact ih _ Q E p _ hn h
 | resume g r _ k ih=>intro Q E p s hn h;obtain ⟨res,s',hw,h⟩:=h;exact ⟨res,s',hw,ih res Q E p s' (D2 hn (Ag8 hw)) h⟩
 | yield _ _ _ _=>intro Q E p s _ h;exact h
 | stack k ih=>intro Q E p s hn h;exact ih _ Q E p s hn h
 | fork _ _=>intro Q E p s _ h;exact h
 | thread k ih=>intro Q E p s hn h;exact ih _ Q E p s hn h
 | await _ _ _ _ _=>intro Q E p s _ h;exact h
theorem rO {α:Type}{M:Model}{A:Around}{t:Sem α}{K:α->Shared->Prop}{EX:Value->Shared->Prop}{s:Shared}
  (h:wpAny M A t (λx s'=>s.heap.objs.size<=s'.heap.objs.size->K x s') EX s):wpAny M A t K EX s :=
 λΓ p hΓ=>Sem.wp_mono M Γ t (λZ Z Z q=>q.2 q.1) (λZ Z Z q=>q.2) p s (Bv5 M Γ s.heap.objs.size t _ _ p s (D3 _) (h Γ p hΓ))
end Bq
namespace Bq
open PySem PySem.Calls PyProof.Rows
open Aa (V D)
structure iI (I:Addr) (s s':Shared):Prop where
 same:∃ h' tk,s'={ s with heap:=h',toks:=tk }
 keep:∀ b o,b≠I->s.heap.get? b=some o->s'.heap.get? b=some o
 size:s.heap.objs.size<=s'.heap.objs.size
 toks:s.toks<=s'.toks
theorem iI.ok {h₀ φ H I s s'}(B:iI I s s') (K:Ok h₀ φ H s.heap) (ho:s.heap.get? I=some o) (hd:o.data=.fields vs) (l8:h₀.objs.size<=I):Ok h₀ φ H s'.heap:=by
 have p9:I ∉ φ:=λhm=>by
  obtain ⟨vs',n,e⟩:=K.mem hm
  rw [e] at ho;cases ho;simp at hd
 have Bu:∀ b o,T6 o->s.heap.get? b=some o->s'.heap.get? b=some o:=λb o' ht e=>B.keep b o' (by
  rintro rfl
  rw [e] at ho;cases ho
  obtain ⟨_,vs',n,hd'⟩:=ht
  rw [hd] at hd';cases hd') e
 refine ⟨λb o e=>B.keep b o (λq=>?_) (K.base b o e),K.len,K.nodup,K.above,K.small,D2 K.room B.size,λi b l hi hl=>?_⟩
 ·subst q;exact absurd (Heap.lt_size e) (Nat.not_lt.mpr l8)
 ·obtain ⟨vs',⟨n,e⟩,r⟩:=K.lists i b l hi hl
  have hb:b≠I:=λq=>p9 (q▸E5 hi)
  exact ⟨vs',⟨n,B.keep b _ hb e⟩,H8.mono (λZ Z q=>q) Bu l r⟩
theorem iI.val {h₀ φ I s s'}(B:iI I s s') (ho:s.heap.get? I=some o) (hd:o.data=.fields vs) {x:Value}(r:L8 h₀ φ s.heap v x):L8 h₀ φ s'.heap v x :=
 L8.mono (λZ Z q=>q) (λb o' ht e=>B.keep b o' (by
  rintro rfl
  rw [e] at ho;cases ho
  obtain ⟨_,vs',n,hd'⟩:=ht
  rw [hd] at hd';cases hd') e) v r
theorem iI.env {X:Cx}{φ nm env ρ I s s'}(B:iI I s s') (L:L9 X φ nm env ρ s) (ho:s.heap.get? I=some o) (hd:o.data=.fields vs):L9 X φ nm env ρ s':=by
 have hr:∀ v x,L8 X.h₀ φ s.heap v x->L8 X.h₀ φ s'.heap v x:=λv x r=>B.val ho hd r
 have hcell:∀ c ov,s.heap.IsCell c ov->s'.heap.IsCell c ov:=λc ov hc=>by
  obtain ⟨oc,Cb,hdc⟩:=hc
  refine ⟨oc,B.keep c oc (λq=>?_) Cb,hdc⟩
  subst q
  rw [ho] at Cb;cases Cb;rw [hd] at hdc;cases hdc
 refine ⟨L.kind,L.glob,L.blt,L.len,L.nodup,λhp=>D6 (L.pos hp) B.toks,?_,?_,L.above,L.Bj,λx c hc=>?_,L.apart⟩
 ·apply Ah;intro g9 k9
  obtain ⟨m,⟨ol,es,ep,Eu,hdl,q⟩,hm⟩:=L.locals
  apply k9
  have hn:env.locals≠I:=λe=>by
   rw [e,ho] at Eu;cases Eu;rw [hd] at hdl;cases hdl
  exact ⟨m,⟨ol,es,ep,B.keep _ _ hn Eu,hdl,q⟩,λi x hx hk=>⟨(hm i x hx hk).1.mono hr,(hm i x hx hk).2.mono B.toks⟩⟩
 ·intro i x hx hk
  apply Ah;intro g9 k9
  obtain ⟨c,ov,hc,g8,r,lr⟩:=L.cells i x hx hk
  apply k9
  exact ⟨c,ov,hc,hcell c ov g8,r.mono hr,lr.mono B.toks⟩
 ·obtain ⟨ov,g8⟩:=L.As x c hc
  exact ⟨ov,hcell c ov g8⟩
theorem S4.but {h₀ env φ7 s₀ φ H I s s'}(F:S4 h₀ env φ7 s₀ φ H s) (B:iI I s s') (hI:s₀.heap.objs.size<=I) (O:Ok h₀ φ H s'.heap):S4 h₀ env φ7 s₀ φ H s':=by
 obtain ⟨⟨h1,t1,e1⟩,k1,z1,w1,g1,_⟩:=F
 obtain ⟨⟨h2,t2,e2⟩,k2,z2,w2⟩:=B
 exact ⟨⟨h2,t2,qz e2 (qz e1 rfl)⟩,λb o hb hn e=>k2 b o (λq=>by
  subst q;exact absurd (Heap.lt_size e) (Nat.not_lt.mpr hI)) (k1 b o hb hn e),D2 z1 z2,D2 w1 w2,g1,O⟩
inductive bN (X:Cx) (φ:List Addr):Aa.It->Addr->Nat->Heap->Prop
 | lst {a:Nat}{p I:Addr}{i:Nat}{h:Heap}:φ[a]? = some p->h.IsListIter I p i->bN X φ (.lst a) I i h
 | Bv {ns:List Int}{a:Addr}{items:List Value}{I:Addr}{i:Nat}{h:Heap}:X.h₀.IsList a items.toArray->dO ns items->h.IsListIter I a i->bN X φ (.fix (ns.map V.int)) I i h
 | str {l:List Nat}{ty:String}{t:Tok}{I:Addr}{i:Nat}{h:Heap}:(ty = "str_ascii_iterator" ∨ ty = "str_iterator")->h.IsStrIter I ty ⟨l.toArray⟩ t i->bN X φ (.fix (l.map λc=>V.str [c])) I i h
 | rng {n:Nat}{I:Addr}{i:Nat}{h:Heap}:i<=n->IsRangeIter h I (i:Int) ((n:Int) - (i:Int)) 1->bN X φ (.fix ((List.range n).map λk:Nat=>V.int (k:Int))) I i h
noncomputable def Cg4 (X:Cx) (φ:List Addr) (P:Prop) (it:Aa.It) (I:Addr) (i:Nat) (h:Heap):Prop:=(∀ a p,it=.lst a->φ[a]? = some p->h.IsListIter I p i->P) ->
 (∀ (ns:List Int) a (items:List Value),it=.fix (ns.map V.int)->X.h₀.IsList a items.toArray->dO ns items->h.IsListIter I a i->P) ->
 (∀ (l:List Nat) ty t,it=.fix (l.map λc=>V.str [c])->(ty = "str_ascii_iterator" ∨ ty = "str_iterator")->h.IsStrIter I ty ⟨l.toArray⟩ t i->P) ->
 (∀ n:Nat,it=.fix ((List.range n).map λk:Nat=>V.int (k:Int))->i<=n->IsRangeIter h I (i:Int) ((n:Int) - (i:Int)) 1->P)->P
theorem bN.inv {X:Cx}{φ it I i h}{P:Prop}(W:bN X φ it I i h):Cg4 X φ P it I i h :=
 bN.casesOn (motive:=λit I i h Z=>Cg4 X φ P it I i h) W (λa b q Z Z Z=>q _ _ rfl a b) (λa b c Z q Z Z=>q _ _ _ rfl a b c) (λa b Z Z q Z=>q _ _ _ rfl a b) (λa b Z Z Z q=>q _ rfl a b)
theorem bN.obj {X:Cx}{φ it I i h}(W:bN X φ it I i h):∃ o vs,h.get? I=some o/\o.data=.fields vs/\∀ φ' h',(∀ (j:Nat) (a:Addr),φ[j]? = some a->φ'[j]? = some a)->h'.get? I=some o->bN X φ' it I i h':=by
 refine W.inv (λa p e hp hi=>?_) (λns a items e hl hn hi=>?_) (λl ty t e ht hi=>?_) λn e d6 hi=>?_
 ·subst e
  obtain ⟨o,ho,hc,hd⟩:=hi
  exact ⟨o,_,ho,hd,λφ' h' hφ ho'=>.lst (hφ _ _ hp) ⟨o,ho',hc,hd⟩⟩
 ·subst e
  obtain ⟨o,ho,hc,hd⟩:=hi
  exact ⟨o,_,ho,hd,λφ' h' hφ ho'=>.Bv hl hn ⟨o,ho',hc,hd⟩⟩
 ·subst e
  obtain ⟨o,ho,hc,hd⟩:=hi
  exact ⟨o,_,ho,hd,λφ' h' hφ ho'=>.str ht ⟨o,ho',hc,hd⟩⟩
 ·subst e
  exact ⟨_,_,hi,rfl,λφ' h' hφ ho'=>.rng d6 ho'⟩
section
variable {X:Cx}{A:Around}{C:Aa.Calls}
theorem Ao7 (hh:A.handled=none) {K:Option Value->Shared->Prop}{EX:Value->Shared->Prop}
  (O:Ok X.h₀ φ H s.heap) (W:bN X φ it I i s.heap)
  (Eb:∀ v x s',it.at H i=some v->L8 X.h₀ φ s'.heap v x->iI I s s'->bN X φ it I (i+1) s'.heap->K (some x) s')
  (k8:∀ s',it.at H i=none->iI I s s'->K none s'):wpAny (S9 X) A (pyNext (.ref I)) K EX s:=by
 have same:∀ {h':Heap}{tk:Nat},Heap.SameBut I s.heap h'->s.toks<=tk->iI I s { s with heap:=h',toks:=tk }:=λhs ht =>
  ⟨⟨_,_,rfl⟩,λb o hb e=>(hs.2 b hb).trans e,A4 hs.1.symm,ht⟩
 obtain ⟨o,vs,hoI,hdI,_⟩:=W.obj
 have ext:∀ {h':Heap},Heap.ExtBut I s.heap h'->s.heap.objs.size<=h'.objs.size->iI I s { s with heap:=h' }:=λhs hz =>
  ⟨⟨_,_,rfl⟩,λb o hb e=>hs b o hb e,hz,D3 _⟩
 refine W.inv (λa p e hp hi=>?_) (λns a items e hl hn hi=>?_) (λl ty t e ht hi=>?_) λn e d6 hi=>?_
 ·subst e
  have hlt:a<H.length:=qz O.len.symm ((A3 hp).1)
  obtain ⟨l,hl⟩:∃ l,H[a]? = some l:=⟨_,A8 hlt⟩
  obtain ⟨vs',hpl,rs⟩:=O.lists _ _ _ hp hl
  cases hx:l[i]? with
  | some v =>
   obtain ⟨x,hx',rx⟩:=rs.get hx
   refine wpAny_pyNext_list_item hi hpl.isList (by simpa using hx') λh' d7 hs=>?_
   have B:=same (tk:=s.toks) hs (D3 _)
   exact Eb v x _ (by simp [Aa.It.at,hl,hx]) (B.val hoI hdI rx) B (.lst hp d7)
  | none =>
   have hx':vs'[i]? = none:=by
    rw [List.getElem?_eq_none_iff] at hx ⊢
    exact qz rs.length.symm hx
   exact rO (wpAny_pyNext_list_end hh hi hpl.isList (by simpa using hx') λh' he hz=>k8 _ (by simp [Aa.It.at,hl,hx]) (ext he hz))
 ·subst e
  have rs:H8 X.h₀ φ s.heap (ns.map V.int) items:=hn.Gb
  have hL:s.heap.IsList a items.toArray:=by obtain ⟨o,ho,r⟩:=hl;exact ⟨o,O.base _ _ ho,r⟩
  cases hx:(ns.map V.int)[i]? with
  | some v =>
   obtain ⟨x,hx',rx⟩:=rs.get hx
   refine wpAny_pyNext_list_item hi hL (by simpa using hx') λh' d7 hs=>?_
   have B:=same (tk:=s.toks) hs (D3 _)
   exact Eb v x _ hx (B.val hoI hdI rx) B (.Bv hl hn d7)
  | none =>
   have hx':items[i]? = none:=by
    rw [List.getElem?_eq_none_iff] at hx ⊢
    exact qz rs.length.symm hx
   exact rO (wpAny_pyNext_list_end hh hi hL (by simpa using hx') λh' he hz=>k8 _ hx (ext he hz))
 ·subst e
  cases hx:l[i]? with
  | some c =>
   have hx':(Str.mk l.toArray).cps[i]? = some c:=by simpa using hx
   have Cf:(Aa.It.fix (l.map λc=>V.str [c])).at H i=some (.str [c]):=by simp [Aa.It.at,hx]
   rcases ht with rfl|rfl
   ·refine wpAny_pyNext_ascii_item hi hx' λh' d7 hs=>?_
    exact Eb _ _ _ Cf (dM (by simp [Aa.P0])) (same hs (E4 _)) (.str (Or.inl rfl) d7)
   ·refine wpAny_pyNext_wide_item hi hx' λh' d7 hs=>?_
    exact Eb _ _ _ Cf (dM (by simp [Aa.P0])) (same hs (E4 _)) (.str (Or.inr rfl) d7)
  | none =>
   have hx':(Str.mk l.toArray).cps[i]? = none:=by
    rw [List.getElem?_eq_none_iff] at hx
    simpa using hx
   have Cf:(Aa.It.fix (l.map λc=>V.str [c])).at H i=none:=by simp [Aa.It.at,hx]
   rcases ht with rfl|rfl
   ·exact rO (wpAny_pyNext_ascii_end hh hi hx' λh' he hz=>k8 _ Cf (ext he hz))
   ·exact rO (wpAny_pyNext_wide_end hh hi hx' λh' he hz=>k8 _ Cf (ext he hz))
 ·apply Ah;intro g9 k9
  subst e
  apply k9
  by_cases hlt:i<n
  ·have Cf:(Aa.It.fix ((List.range n).map λk:Nat=>V.int (k:Int))).at H i=some (.int (i:Int)):=by simp [Aa.It.at,hlt]
   refine wpAny_pyNext_range_item hi (by lia) λh' d7 hs=>?_
   refine Eb _ _ _ Cf U8 (same hs (E4 _)) (.rng hlt ?_)
   have e1:((i:Int)+1)=((i+1:Nat):Int):=rfl
   have e2:((n:Int) - (i:Int) - 1)=(n:Int) - ((i+1:Nat):Int):=Int.sub_sub _ _ _
   rw [e1,e2] at d7
   exact d7
  ·have Cf:(Aa.It.fix ((List.range n).map λk:Nat=>V.int (k:Int))).at H i=none:=by simp [Aa.It.at];exact Aa.S5 (Nat.le_of_not_lt hlt)
   exact rO (wpAny_pyNext_range_end hh hi (by lia) λh' he hz=>k8 _ Cf (ext he hz))
theorem By4 {x:Value}{K:Value->Shared->Prop}{EX:Value->Shared->Prop}(O:Ok X.h₀ φ H s.heap) (r:L8 X.h₀ φ s.heap v x) (h:Aa.cP v=some it)
  (k:∀ o s',s'={ s with heap:=s.heap.push o }->bN X φ it s.heap.objs.size 0 s'.heap->O8 X.h₀ φ s φ H s'->K (.ref s.heap.objs.size) s'):wpAny (S9 X) A (pyIter x) K EX s:=by
 cases v with
 | ref a =>
  cases h
  apply Ah;intro g9 k9
  obtain ⟨p,hp,rfl⟩:=Q3 r
  obtain ⟨vs,n,e⟩:=O.mem (E5 hp)
  apply k9
  exact wpAny_pyIter_list ⟨_,e,rfl,n,rfl⟩ (k _ _ rfl (.lst hp ⟨_,Heap.get?_push_size _ rfl,rfl,rfl⟩) (O8.push (tk:=s.toks) O (D3 _)))
 | Bv a0 =>
  cases h
  obtain ⟨_,a,vs,rfl,hl,hn⟩:=fF r
  have hL:s.heap.IsList a vs.toArray:=by obtain ⟨o,ho,r⟩:=hl;exact ⟨o,O.base _ _ ho,r⟩
  exact wpAny_pyIter_list hL (k _ _ rfl (.Bv hl hn ⟨_,Heap.get?_push_size _ rfl,rfl,rfl⟩) (O8.push (tk:=s.toks) O (D3 _)))
 | str l =>
  cases h
  obtain ⟨t,rfl⟩:=N0 r
  cases ha:(Str.mk l.toArray).cps.all (· < 128) with
  | true=>exact wpAny_pyIter_ascii ha (k _ _ rfl (.str (Or.inl rfl) ⟨_,Heap.get?_push_size _ rfl,rfl,rfl⟩) (O8.push (tk:=s.toks) O (D3 _)))
  | false=>exact wpAny_pyIter_wide ha (k _ _ rfl (.str (Or.inr rfl) ⟨_,Heap.get?_push_size _ rfl,rfl,rfl⟩) (O8.push (tk:=s.toks) O (D3 _)))
 | _=>exact Aa.xN (show Option.none=some _ from h)
theorem By3 {K:Value->Shared->Prop}{EX:Value->Shared->Prop}(W:bN X φ it I i s.heap) (k:K (.ref I) s):wpAny (S9 X) A (pyIter (.ref I)) K EX s:=by
 refine W.inv (λa p e hp hi=>wpAny_pyIter_listiter hi k) (λns a items e hl hn hi=>wpAny_pyIter_listiter hi k) (λl ty t e ht hi=>?_) λn e d6 hi=>wpAny_pyIter_rangeiter hi k
 ·rcases ht with rfl|rfl
  ·exact wpAny_pyIter_striter_ascii hi k
  ·exact wpAny_pyIter_striter_wide hi k
set_option tactic.hygienic true in
theorem Bl7 {x:Value}{K:Value->Shared->Prop}{EX:Value->Shared->Prop}(O:Ok X.h₀ φ H s.heap) (r:L8 X.h₀ φ s.heap v x) (h:Aa.cF v=some it)
  (k:∀ I s',s.heap.objs.size<=I->bN X φ it I 0 s'.heap->O8 X.h₀ φ s φ H s'->K (.ref I) s'):wpAny (S9 X) A (call (.type "range") [x]) (λy s9=>wpAny (S9 X) A (pyIter y) K EX s9) EX s:=by
 unfold Aa.cF at h
 split at h
 ·rename_i n
  split at h
  ·rename_i hn
   cases h
   obtain ⟨t,rfl⟩:=K9 r
   refine call_range_1 ?_
   have F1:O8 X.h₀ φ s φ H { s with heap:=s.heap.push { cls:=.type "range",data:=.fields #[.int 0 s.toks,.int n t,.int 1 (s.toks+1)] },toks:=s.toks+1+1 }:=O8.push O (by lia)
   ·refine wpAny_pyIter_range (IsRange.new ..) (small_one (by lia) (by lia) (by lia) (by lia)) ?_
    have F2:=O8.push (ob:={ cls:=.type "range_iterator",data:=.fields #[rawInt 0,rawInt (Builtin.Range.rangeSize 0 n 1),rawInt 1] }) (tk:=s.toks+1+1) F1.ok (D3 _)
    refine k _ _ ?_ (.rng (D8 _) ?_) (F1.trans F2)
    ·show s.heap.objs.size<=(s.heap.push _).objs.size
     exact qz (Heap.size_push _ _) (E4 _)
    ·have e:Builtin.Range.rangeSize 0 n 1=((n.toNat:Nat):Int) - ((0:Nat):Int):=by
      refine qz (rangeSize_one _ _) ?_;split<;>lia
     exact qz e (Heap.get?_push_size _ rfl)
  ·cases h
 ·cases h
end
noncomputable def Y8 (env:Env):List (Str×NameKind)->List (Str×Addr)->List (Str×Addr)
 | [],d5=>d5
 | (n,k)::r,d5=>if k==.free then Y8 env r ((n,(env.cells.lookup n).getD 0)::d5) else Y8 env r d5
theorem uI (env:Env) (f:Str×NameKind->List (Str×Addr)->Sem (ForInStep (List (Str×Addr)))) (hf:∀ n k cs,f (n,k) cs=if k==.free then (do let a <- cellOf env n;pure (.yield ((n,a)::cs))) else pure (.yield cs)) :
  ∀ (names:List (Str×NameKind)) (d5:List (Str×Addr)),(∀ x∈names,x.2=.free->(env.cells.lookup x.1).isSome=true)->(forIn names d5 f:Sem (List (Str×Addr)))=pure (Y8 env names d5)
 | []=>λd5 Z=>by refine qz List.forIn_nil ?_;rfl
 | (n,k)::r=>λd5 h=>by
  refine qz (List.forIn_cons _ _ _ _) ?_;rw [hf]
  unfold Y8
  cases hk:k==NameKind.free with
  | false =>
   simp only [Bool.false_eq_true,if_false]
   show (forIn r d5 f:Sem _)=_
   exact uI env f hf r d5 λx hx=>h x (C5 _ hx)
  | true =>
   simp only [if_true]
   have hs:=h (n,k) (by simp) (by simpa using hk)
   obtain ⟨c,hc⟩:=Option.isSome_iff_exists.mp hs
   have e:cellOf env n=pure c:=by unfold cellOf;simp only at hc;exact qz hc rfl
   refine qz e ?_
   simp only at hc
   refine qz hc ?_
   show (forIn r ((n,c)::d5) f:Sem _)=_
   exact uI env f hf r _ λx hx=>h x (C5 _ hx)
theorem rF {env:Env}(h:∀ x∈scope.names,x.2=.free->(env.cells.lookup x.1).isSome=true):closureFor scope env=pure (Y8 env scope.names []):=by
 unfold closureFor
 have:=uI env (λx cs=>match x with | (name,kind)=>if kind==.free then (do let a <- cellOf env name;pure (.yield ((name,a)::cs))) else pure (.yield cs)) (λn k cs=>rfl) scope.names [] h
 show (do let s <- forIn scope.names [] _;pure s)=_
 refine qz this ?_
 rfl
theorem kT (env:Env):∀ (names:List (Str×NameKind)) (d5:List (Str×Addr)),(∀ x∈names,x.2=.free->(env.cells.lookup x.1).isSome=true)->(∀ x c,d5.lookup x=some c->env.cells.lookup x=some c) ->
  ∀ x c,(Y8 env names d5).lookup x=some c->env.cells.lookup x=some c
 | []=>λZ Z ha x c h=>ha x c h
 | (n,k)::r=>λd5 hn ha x c h=>by
  unfold Y8 at h
  split at h
  ·rename_i hk
   refine kT env r _ (λy hy=>hn y (C5 _ hy)) (λy d hd=>?_) x c h
   rw [List.lookup_cons] at hd
   split at hd
   ·rename_i e
    have e:y=n:=by simpa using e
    subst e
    cases hd
    obtain ⟨c',j0⟩:=Option.isSome_iff_exists.mp (hn (y,k) (by simp) (by simpa using hk))
    simp only at j0
    refine qz j0 ?_;rfl
   ·exact ha y d hd
  ·exact kT env r d5 (λy hy=>hn y (C5 _ hy)) ha x c h
theorem kU (env:Env):∀ (names:List (Str×NameKind)) (d5:List (Str×Addr)) (x:Str),((x,NameKind.free)∈names∨(d5.lookup x).isSome=true)->((Y8 env names d5).lookup x).isSome=true
 | []=>λZ Z h=>by
  rcases h with h|h
  ·cases h
  ·exact h
 | (n,k)::r=>λd5 x h=>by
  unfold Y8
  split
  ·rename_i hk
   refine kU env r _ x ?_
   rcases h with h|h
   ·rcases B0 h with h|h
    ·cases h;right;simp
    ·exact Or.inl h
   ·right
    refine qz List.lookup_cons ?_
    split
    ·rfl
    ·exact h
  ·rename_i hk
   refine kU env r _ x ?_
   rcases h with h|h
   ·rcases B0 h with h|h
    ·cases h;simp at hk
    ·exact Or.inl h
   ·exact Or.inr h
theorem lR {env:Env}(hk:env.scope.kind=.function):(relabel scope env).names=Aa.eK env.scope.names scope.names:=by
 unfold relabel Aa.eK
 simp only [hk]
 apply List.map_congr_left
 intro x _
 obtain ⟨n,k⟩:=x
 simp [Env.kindOf]
theorem jV:∀ {names:List (Str×NameKind)}{z:Str}{k:NameKind},(Aa.eK sc names).lookup z=some k->∃ k',names.lookup z=some k'/\(k=k'∨(k'=.free/\k=.cell))
 | [],_,_,h=>by simp [Aa.eK] at h
 | (n,k0)::r,z,k,h=>by
  unfold Aa.eK at h
  simp only [List.map_cons] at h
  by_cases hz:z=n
  ·subst hz
   by_cases hc:(k0==NameKind.free&&sc.lookup z==some NameKind.cell)=true
   ·rw [if_pos hc] at h
    simp at h
    refine ⟨k0,by simp,Or.inr ⟨?_,h.symm⟩⟩
    simp at hc;exact hc.1
   ·rw [if_neg hc] at h
    simp at h
    exact ⟨k0,by simp,Or.inl h.symm⟩
  ·have hb:(z==n)=false:=by simpa using hz
   have:(Aa.eK sc r).lookup z=some k:=by
    unfold Aa.eK
    by_cases hc:(k0==NameKind.free&&sc.lookup n==some NameKind.cell)=true
    ·rw [if_pos hc] at h
     simpa [List.lookup_cons,hb] using h
    ·rw [if_neg hc] at h
     simpa [List.lookup_cons,hb] using h
   obtain ⟨k',e,q⟩:=jV this
   exact ⟨k',by simp [List.lookup_cons,hb,e],q⟩
section
variable {X:Cx}{A:Around}{C:Aa.Calls}
structure Ad8 (env:Env) (nm:List Str) (id:Str) (scope:Scope):Prop where
 kind:scope.kind=.function
 loc:scope.names.lookup id=some .local
 Gd:∀ x∈scope.names,x.2≠.cell
 locs:∀ x∈scope.names,x.2=.local->scope.names.lookup x.1=some .local/\(x.1=id∨x.1 ∉ nm)
 frees:∀ x∈scope.names,x.2=.free->x.1∈nm/\(env.kindOf x.1=some .cell∨env.kindOf x.1=some .free)
theorem sD {env:Env}{nm:List Str}{id:Str}(h:Aa.aW env.scope.names nm id scope=true):Ad8 env nm id scope:=by
 unfold Aa.aW at h
 simp only [Bool.and_eq_true,List.all_eq_true,beq_iff_eq,bne_iff_ne,Bool.or_eq_true] at h
 obtain ⟨⟨⟨h1,h2⟩,h3⟩,h4⟩:=h
 refine ⟨h1,h2,λx hx=>(h3 x hx).1,λx hx hl=>?_,λx hx hf=>?_⟩
 ·rcases (h3 x hx).2 with q|q
  ·exact absurd hl q
  ·refine ⟨q.1,q.2.imp _root_.id λq=>by simpa using q⟩
 ·rcases h4 x hx with q|q
  ·exact absurd hf q
  ·exact ⟨by simpa using q.1,q.2⟩
end
theorem iI.ok' {h₀ φ H a s s'}(B:iI a s s') (K:Ok h₀ φ H s.heap) (p9:a ∉ φ) (ho:s.heap.get? a=some o) (ht:¬ T6 o) (l8:h₀.objs.size<=a):Ok h₀ φ H s'.heap:=by
 have Bu:∀ b o,T6 o->s.heap.get? b=some o->s'.heap.get? b=some o:=λb o' h e=>B.keep b o' (by
  rintro rfl
  rw [e] at ho;cases ho;exact ht h) e
 refine ⟨λb o e=>B.keep b o (λq=>?_) (K.base b o e),K.len,K.nodup,K.above,K.small,D2 K.room B.size,λi b l hi hl=>?_⟩
 ·subst q;exact absurd (Heap.lt_size e) (Nat.not_lt.mpr l8)
 ·obtain ⟨vs',⟨n,e⟩,r⟩:=K.lists i b l hi hl
  have hb:b≠a:=λq=>p9 (q▸E5 hi)
  exact ⟨vs',⟨n,B.keep b _ hb e⟩,H8.mono (λZ Z q=>q) Bu l r⟩
theorem iI.val' {h₀ φ a s s'}(B:iI a s s') (ho:s.heap.get? a=some o) (ht:¬ T6 o) {x:Value}(r:L8 h₀ φ s.heap v x):L8 h₀ φ s'.heap v x :=
 L8.mono (λZ Z q=>q) (λb o' h e=>B.keep b o' (by
  rintro rfl
  rw [e] at ho;cases ho;exact ht h) e) v r
theorem iI.vals' {h₀ φ a s s'}(B:iI a s s') (ho:s.heap.get? a=some o) (ht:¬ T6 o) {x:List Value}(r:H8 h₀ φ s.heap v x):H8 h₀ φ s'.heap v x :=
 H8.mono (λZ Z q=>q) (λb o' h e=>B.keep b o' (by
  rintro rfl
  rw [e] at ho;cases ho;exact ht h) e) v r
theorem iI.env' {X:Cx}{φ nm env ρ a s s'}(B:iI a s s') (L:L9 X φ nm env ρ s) (ho:s.heap.get? a=some o) (ht:¬ T6 o) (hd1:∀ es ep,o.data≠.dict es ep) (hd2:∀ ov,o.data≠.cell ov):L9 X φ nm env ρ s':=by
 have hr:∀ v x,L8 X.h₀ φ s.heap v x->L8 X.h₀ φ s'.heap v x:=λv x r=>B.val' ho ht r
 have hcell:∀ c ov,s.heap.IsCell c ov->s'.heap.IsCell c ov:=λc ov hc=>by
  obtain ⟨oc,Cb,hdc⟩:=hc
  refine ⟨oc,B.keep c oc (λq=>?_) Cb,hdc⟩
  subst q
  rw [ho] at Cb;cases Cb;exact hd2 _ hdc
 refine ⟨L.kind,L.glob,L.blt,L.len,L.nodup,λhp=>D6 (L.pos hp) B.toks,?_,?_,L.above,L.Bj,λx c hc=>?_,L.apart⟩
 ·apply Ah;intro g9 k9
  obtain ⟨m,⟨ol,es,ep,Eu,hdl,q⟩,hm⟩:=L.locals
  apply k9
  have hn:env.locals≠a:=λe=>by
   rw [e,ho] at Eu;cases Eu;exact hd1 _ _ hdl
  exact ⟨m,⟨ol,es,ep,B.keep _ _ hn Eu,hdl,q⟩,λi x hx hk=>⟨(hm i x hx hk).1.mono hr,(hm i x hx hk).2.mono B.toks⟩⟩
 ·intro i x hx hk
  apply Ah;intro g9 k9
  obtain ⟨c,ov,hc,g8,r,lr⟩:=L.cells i x hx hk
  apply k9
  exact ⟨c,ov,hc,hcell c ov g8,r.mono hr,lr.mono B.toks⟩
 ·obtain ⟨ov,g8⟩:=L.As x c hc
  exact ⟨ov,hcell c ov g8⟩
theorem O8.but {h₀ φ7 s₀ φ H a s s'}(F:O8 h₀ φ7 s₀ φ H s) (B:iI a s s') (ha:s₀.heap.objs.size<=a) (O:Ok h₀ φ H s'.heap):O8 h₀ φ7 s₀ φ H s':=by
 obtain ⟨⟨⟨h1,t1,e1⟩,k1,z1,w1⟩,g1,_⟩:=F
 obtain ⟨⟨h2,t2,e2⟩,k2,z2,w2⟩:=B
 exact ⟨⟨⟨h2,t2,qz e2 (qz e1 rfl)⟩,λb o hb e=>k2 b o (λq=>by
  subst q;exact absurd (Heap.lt_size e) (Nat.not_lt.mpr ha)) (k1 b o hb e),D2 z1 z2,D2 w1 w2⟩,g1,O⟩
theorem iI.of_same (hs:Heap.SameBut a s.heap h') (ht:s.toks<=tk):iI a s { s with heap:=h',toks:=tk } :=
 ⟨⟨_,_,rfl⟩,λb o hb e=>(hs.2 b hb).trans e,A4 hs.1.symm,ht⟩
theorem aO {ep}(h:o.data=.dict es ep):¬ T6 o:=by
 rintro ⟨_,vs,n,e⟩;rw [h] at e;cases e
theorem bM (h:o.data=.fields vs):¬ T6 o:=by
 rintro ⟨_,vs,n,e⟩;rw [h] at e;cases e
theorem jW (h:o.cls=.type "list"):¬ T6 o:=by
 rintro ⟨e,_⟩;rw [h] at e;simp at e
theorem Ok.add {h₀ φ H h}(K:Ok h₀ φ H h) (p9:a ∉ φ) (l8:h₀.objs.size<=a) (hp:h.PlainList a vs.toArray) (r:H8 h₀ φ h l vs) (hl:l.length<=Aa.P0):Ok h₀ (φ++[a]) (H++[l]) h:=by
 have hi:∀ (i:Nat) (b:Addr),φ[i]? = some b->(φ++[a])[i]? = some b:=λi b e=>by
  exact qz (List.getElem?_append_left (A3 e).1) e
 refine ⟨K.base,by simp [K.len],?_,?_,?_,K.room,?_⟩
 ·rw [List.nodup_append]
  refine ⟨K.nodup,by simp,λb hb c hc=>?_⟩
  simp at hc;subst hc
  rintro rfl;exact p9 hb
 ·intro b hb
  rcases C0 hb with q|q
  ·exact K.above b q
  ·simp at q;subst q;exact l8
 ·intro l' hl'
  rcases C0 hl' with q|q
  ·exact K.small l' q
  ·simp at q;subst q;exact hl
 ·intro i b l' e el
  by_cases hlt:i<φ.length
  ·rw [List.getElem?_append_left hlt] at e
   rw [List.getElem?_append_left (qz K.len.symm hlt)] at el
   obtain ⟨vs',p,r'⟩:=K.lists i b l' e el
   exact ⟨vs',p,H8.mono hi (λa o Z q=>q) l' r'⟩
  ·have d6:φ.length<=i:=Nat.le_of_not_lt hlt
   rw [List.getElem?_append_right d6] at e
   rw [List.getElem?_append_right (qz K.len.symm d6)] at el
   have:i - φ.length=0:=by
    cases h:i - φ.length with
    | zero=>rfl
    | succ k=>rw [h] at e;simp at e
   rw [this] at e
   rw [<- K.len,this] at el
   simp at e el
   subst e;subst el
   exact ⟨vs,hp,H8.mono hi (λa o Z q=>q) _ r⟩
theorem O8.add {h₀ φ7 s₀ φ H s}(F:O8 h₀ φ7 s₀ φ H s) (p9:a ∉ φ) (ha:s₀.heap.objs.size<=a) (l8:h₀.objs.size<=a) (hp:s.heap.PlainList a vs.toArray) (r:H8 h₀ φ s.heap l vs) (hl:l.length<=Aa.P0) :
  O8 h₀ φ7 s₀ (φ++[a]) (H++[l]) s:=by
 obtain ⟨st,⟨ψ,g,m⟩,O⟩:=F
 refine ⟨st,⟨ψ++[a],qz g (qz (D5 _ _ _) rfl),λb hb=>?_⟩,O.add p9 l8 hp r hl⟩
 rcases C0 hb with q|q
 ·exact m b q
 ·simp at q;subst q;exact ha
section
variable {X:Cx}{A:Around}{C:Aa.Calls}
theorem zN {env:Env}{nm:List Str}{φ:List Addr}{s:Shared}{K:Unit->Shared->Prop}{EX:Value->Shared->Prop}{id:Str}{x:Nat}
  (L:L9 X φ nm env ρ s) (hx:nm[x]? = some id) (e:env.kindOf id=some .local) (Fi:x ∉ X.gl.lits)
  (r:L8 X.h₀ φ s.heap v y) (k:∀ s',iI env.locals s s'->L9 X φ nm env (ρ.set x (some v)) s'->K () s'):wpAny (S9 X) A (storeName env id y) K EX s:=by
 have hxl:x<ρ.length:=qz L.len ((A3 hx).1)
 have Et:∀ (i:Nat) (z:Str),nm[i]? = some z->z=id->i=x:=λi z hz e=>by
  subst e
  exact (List.getElem?_inj (A3 hz).1 L.nodup).mp (hz.trans hx.symm)
 have By:∀ (i:Nat) (z:Str),nm[i]? = some z->z≠id->i≠x:=λi z hz e q=>by
  subst q
  rw [hx] at hz;cases hz;exact e rfl
 obtain ⟨m,i7,hm⟩:=L.locals
 obtain ⟨o,es,ep,ho,hd,_⟩:=_root_.id i7
 refine wpAny_storeName_local e i7 (λh' hn hs=>?_) (by refine qz L.kind ?_;rfl)
 have B:iI env.locals s { s with heap:=h',toks:=s.toks+1 }:=iI.of_same hs (E4 _)
 have hr:∀ v x,L8 X.h₀ φ s.heap v x->L8 X.h₀ φ h' v x:=λv x q=>B.val' ho (aO hd) q
 refine k _ B ?_
 refine ⟨L.kind,L.glob,L.blt,by simp [L.len],L.nodup,λhp=>D6 (L.pos hp) (E4 _),⟨_,hn,λi z hz hk=>?_⟩,λi z hz hk=>?_,L.above,L.Bj,λz c hc=>?_,L.apart⟩
 ·by_cases Dl:z=id
  ·have:=Et i z hz Dl
   subst this
   exact qz (eE hxl) (qz (if_pos Dl) ⟨⟨y,rfl,hr _ _ r⟩,λhi=>absurd hi Fi⟩)
  ·exact qz (Z4 (Ne.symm (By i z hz Dl))) (qz (if_neg Dl) ⟨(hm i z hz hk).1.mono hr,(hm i z hz hk).2.mono (E4 _)⟩)
 ·apply Ah;intro g9 k9
  obtain ⟨c,ov,hc,⟨oc,Cb,hdc⟩,q,lr⟩:=L.cells i z hz hk
  apply k9
  have Dl:z≠id:=by
   rintro rfl
   rw [e] at hk
   rcases hk with hk|hk<;>cases hk
  have g8:c≠env.locals:=by
   rintro rfl
   rw [ho] at Cb;cases Cb;rw [hd] at hdc;cases hdc
  exact qz (Z4 (Ne.symm (By i z hz Dl))) ⟨c,ov,hc,⟨oc,(hs.2 c g8).trans Cb,hdc⟩,q.mono hr,lr.mono (E4 _)⟩
 ·obtain ⟨ov,oc,Cb,hdc⟩:=L.As z c hc
  have g8:c≠env.locals:=by
   rintro rfl
   rw [ho] at Cb;cases Cb;rw [hd] at hdc;cases hdc
  exact ⟨ov,oc,(hs.2 c g8).trans Cb,hdc⟩
theorem Bl9 {env:Env}{nm:List Str}{φ:List Addr}{s:Shared}{id:Str}{x:Nat}{Ca:Addr}(L:L9 X φ nm env ρ s) (W:Ad8 env nm id scope) (hx:nm[x]? = some id)
  (hn:s.heap.Ns Ca λZ=>none) (l8:X.h₀.objs.size<=Ca) :
  L9 X φ nm (compEnvC scope (Y8 env scope.names []) Ca env) (ρ.set x none) s:=by
 have hclos:∀ y∈scope.names,y.2=.free->(env.cells.lookup y.1).isSome=true:=λy hy hf=>by
  apply Ah;intro g9 k9
  obtain ⟨hm,hk⟩:=W.frees y hy hf
  obtain ⟨i,hi⟩:=List.getElem?_of_mem hm
  obtain ⟨c,ov,hc,_⟩:=L.cells i _ hi hk
  apply k9
  refine qz hc ?_;rfl
 have i8:=kT env scope.names [] hclos (λx c h=>by simp at h)
 have Gj:∀ z k,(compEnvC scope (Y8 env scope.names []) Ca env).kindOf z=some k->∃ k',scope.names.lookup z=some k'/\(k=k'∨(k'=.free/\k=.cell)):=λz k h=>by
  have h:(relabel scope env).names.lookup z=some k:=h
  rw [lR L.kind] at h
  exact jV h
 refine ⟨W.kind,L.glob,L.blt,by simp [L.len],L.nodup,L.pos,⟨_,hn,λi z hz hk=>?_⟩,λi z hz hk=>?_,l8,λz c hc=>L.Bj z c (i8 z c hc),λz c hc=>L.As z c (i8 z c hc),λy z c hy hz=>L.apart y z c (i8 y c hy) (i8 z c hz)⟩
 ·obtain ⟨k',hk',e⟩:=Gj z _ hk
  rcases e with rfl|⟨_,e⟩
  ·obtain ⟨_,e|e⟩:=W.locs (z,.local) (mem_of_lookup hk') rfl
   ·have:i=x:=by
     simp only at e;subst e
     exact (List.getElem?_inj (A3 hz).1 L.nodup).mp (hz.trans hx.symm)
    subst this
    refine ⟨?_,λZ y hy=>Aa.xN hy⟩
    refine qz (B9 (by rw [L.len];exact (A3 hz).1)) ?_
    trivial
   ·exact absurd (E5 hz) e
  ·cases e
 ·have hf:scope.names.lookup z=some .free:=by
   rcases hk with hk|hk
   ·obtain ⟨k',hk',e⟩:=Gj z _ hk
    rcases e with rfl|⟨rfl,_⟩
    ·exact absurd rfl (W.Gd _ (mem_of_lookup hk'))
    ·exact hk'
   ·obtain ⟨k',hk',e⟩:=Gj z _ hk
    rcases e with rfl|⟨rfl,_⟩
    ·exact hk'
    ·exact hk'
  obtain ⟨hm,hk2⟩:=W.frees (z,.free) (mem_of_lookup hf) rfl
  obtain ⟨c,ov,hc,g8,r,lr⟩:=L.cells i z hz hk2
  obtain ⟨c',j0⟩:=Option.isSome_iff_exists.mp (kU env scope.names [] z (Or.inl (mem_of_lookup hf)))
  have e:=i8 z c' j0
  rw [hc] at e;cases e
  have hix:i≠x:=by
   rintro rfl
   rw [hx] at hz;cases hz
   rw [W.loc] at hf;cases hf
  refine ⟨c,ov,j0,g8,?_,lr⟩
  exact qz (A9 (Ne.symm hix)) r
structure By6 (X:Cx) (Q:List V->Aa.Heap->Prop) (φ7:List Addr) (s₀:Shared) (Da Ca:Addr) (s':Shared):Prop where
 ex:∃ d5 H' φ' vs m,Q d5 H'/\O8 X.h₀ φ7 s₀ φ' H' s'/\Da ∉ φ'/\s'.heap.PlainList Da vs.toArray/\H8 X.h₀ φ' s'.heap d5 vs/\d5.length<=Aa.P0/\s'.heap.Ns Ca m
 D:s₀.heap.objs.size<=Da
 C:s₀.heap.objs.size<=Ca
 ne:Da≠Ca
theorem Aw8 (hh:A.handled=none) (he:L7 X A C i6)
  {env:Env}{nm:List Str}{φ:List Addr}{H:Aa.Heap}{s₀ s:Shared}{I:Addr}{x n:Nat}{id:Str}
  {Q:List V->Aa.Heap->Prop}{R:Value->Addr->Result->Shared->Prop}{EX:Value->Shared->Prop}
  (L:L9 X φ nm env ρ s) (F0:O8 X.h₀ φ s₀ φ H s) (j3:X.h₀.objs.size<=s₀.heap.objs.size) (W:bN X φ it I 0 s.heap) (hI:s₀.heap.objs.size<=I) (hx:nm[x]? = some id) (i9:X.gl.lits.contains x=false)
  (hsc:Aa.aW env.scope.names nm id scope=true) (h1:Aa.K2 X.gl (Aa.eK env.scope.names scope.names) nm i6 elt'=true)
  (hwp:Aa.bS (Aa.L0 C i6) x ρ it n 0 [] Q H) (k:∀ Da Ca s',By6 X Q φ s₀ Da Ca s'->R (.ref Da) Ca (.ok .next) s') :
  wpAny (S9 X) A (newList []) (λd5 s7 =>
   wpAny (S9 X) A (newFunctionEnv scope env.globals (Y8 env scope.names []) [] env.qual none .none (some env)) (λcenv s8 =>
    codeAny (S9 X) A (.compStart (.ListComp elt' [⟨.Name id px,iter,[],0⟩] scope pos) 0 (.ref I) d5 { cenv with scope:=relabel scope env }) (R d5 cenv.locals) s8) EX s7) EX s:=by
 have CW:=sD hsc
 have hkd:(compEnvC scope (Y8 env scope.names []) default env).scope.kind=.function:=CW.kind
 refine wpAny_newObj_type (hd:=kO (by simp)) (wpAny_newFunctionEnv CW.Gd (by intro y hy;simp at hy) (λh₁ i7 hsb=>?_) CW.kind)
 dsimp only at i7 hsb ⊢
 generalize hH2:s.heap.push { cls:=.type "list",dict:=none,data:=.seq ([]:List Value).toArray }=H2 at i7 hsb ⊢
 have hC:H2.objs.size=s.heap.objs.size+1:=qz hH2.symm (qz (Heap.size_push _ _) rfl)
 generalize hDa:s.heap.objs.size=Da at hC ⊢
 generalize hCa:H2.objs.size=Ca at hC i7 hsb ⊢
 have hz0:=F0.step.size
 have hIlt:@LT.lt Nat _ I Da:=by
  obtain ⟨o,vs,ho,_⟩:=W.obj
  exact qz hDa.symm (Heap.lt_size ho)
 have hC:@Eq Nat Ca (Da+1):=hC
 have hDa:@Eq Nat s.heap.objs.size Da:=hDa
 have hDC:@LT.lt Nat _ Da Ca:=qz hC (D9 _)
 have old:∀ b o,s.heap.get? b=some o->h₁.get? b=some o:=λb o e=>by
  have:=Heap.lt_size e
  have f6:b≠Ca:=by
   have:@LT.lt Nat _ b s.heap.objs.size:=this
   exact D1 (Nat.lt_trans (hDa▸this) hDC)
  exact hsb.extBut b o f6 (Heap.get?_push_of_some _ (hH2▸Heap.get?_push_of_some _ e))
 have Gs:Da≠Ca:=D1 hDC
 have hDIne:Da≠I:=Nat.ne_of_gt hIlt
 have hICne:I≠Ca:=D1 (Nat.lt_trans hIlt hDC)
 have zD:s₀.heap.objs.size<=Da:=D2 hI (E2 hIlt)
 have zC:s₀.heap.objs.size<=Ca:=D2 zD (E2 hDC)
 have zC0:X.h₀.objs.size<=Ca:=D2 j3 zC
 have zD0:X.h₀.objs.size<=Da:=D2 j3 zD
 have zI0:X.h₀.objs.size<=I:=D2 j3 hI
 have hDobj:h₁.PlainList Da ([]:List Value).toArray:=⟨0,hsb.extBut _ _ Gs (Heap.get?_push_of_some _ (hH2▸hDa▸Heap.get?_push_size _ rfl))⟩
 have hz1:@LT.lt Nat _ Ca h₁.objs.size:=i7.lt
 have F1:O8 X.h₀ φ s φ H { s with heap:=h₁,toks:=s.toks+([]:List (Str×Value)).length }:=O8.ext F0.ok old (by show @LE.le Nat _ s.heap.objs.size h₁.objs.size;exact qz hDa (E2 (Nat.lt_trans hDC hz1))) (D3 _)
 have L1:=Bl9 (Ca:=Ca) (L.fwd F0.ok F1) CW hx (by simpa using i7) zC0
 have p9:∀ a,s.heap.objs.size<=a->a ∉ φ:=λa ha hm=>absurd (F0.ok.lt hm) (Nat.not_lt.mpr ha)
 apply Ah;intro g9 k9
 obtain ⟨oI,vI,hoI,hdI,hItk⟩:=W.obj
 apply k9
 let J:Nat->Shared->Prop:=λk st=>∃ i d5 H' φ' ov vs,Aa.bS (Aa.L0 C i6) x ρ it k i d5 Q H'/\O8 X.h₀ φ s₀ φ' H' st /\
  L9 X φ' nm (compEnvC scope (Y8 env scope.names []) Ca env) (ρ.set x ov) st/\bN X φ' it I i st.heap/\Da ∉ φ'/\st.heap.PlainList Da vs.toArray/\H8 X.h₀ φ' st.heap d5 vs/\d5.length<=Aa.P0
 have hJ:J n { s with heap:=h₁,toks:=s.toks+([]:List (Str×Value)).length } :=
  ⟨0,[],H,φ,none,[],hwp,F0.trans F1,L1,hItk φ h₁ (λZ Z q=>q) (old _ _ hoI),p9 _ (A4 hDa),hDobj,H8.nil,by simp⟩
 have names:(compEnvC scope (Y8 env scope.names []) Ca env).scope.names=Aa.eK env.scope.names scope.names:=lR L.kind
 have kid:(compEnvC scope (Y8 env scope.names []) Ca env).kindOf id=some .local:=lookup_relabel_local CW.loc
 have loop:∀ st,J n st->codeAny (S9 X) A (.compLoop (.ListComp elt' [⟨.Name id px,iter,[],0⟩] scope pos) 0 (.ref I) (.ref Da) (compEnvC scope (Y8 env scope.names []) Ca env)) (R (.ref Da) Ca) st:=by
  intro st f9
  refine codeAny_compLoop_tests J (λk0 st f9=>?_) n f9
  apply Ah;intro g9 k9
  obtain ⟨i,d5,H',φ',ov,vs,hw,F,LE,WI,hD,hDp,rs,b7⟩:=f9
  apply k9
  cases k0 with
  | zero=>exact B4 hw
  | succ k0 =>
   replace hw:(match it.at H' i with | none=>_ | some v=>_):=hw
   apply Ah;intro g9 k9
   obtain ⟨oJ,vJ,hoJ,hdJ,hJk⟩:=WI.obj
   apply k9
   refine Ao7 hh F.ok WI (λv y s' Cf ry B WI'=>?_) (λs' Cf B=>?_)
   ·rw [Cf] at hw
    simp only at hw
    have hDI:Da≠I:=hDIne
    have O1:=B.ok F.ok hoJ hdJ zI0
    have F2:=F.but B hI O1
    have LE2:=B.env LE hoJ hdJ
    have hDp2:s'.heap.PlainList Da vs.toArray:=by obtain ⟨m,e⟩:=hDp;exact ⟨m,B.keep _ _ hDI e⟩
    have rs2:=B.vals' hoJ (bM hdJ) rs
    refine wpAny_assign_Name (zN LE2 hx kid (by simpa using i9) ry λs2 B2 LE3=>?_)
    rw [List.set_set] at LE3
    apply Ah;intro g9 k9
    obtain ⟨m2,⟨o2,es2,ep2,ho2,hd2,_⟩,_⟩:=LE2.locals
    have hCD:Da≠Ca:=Gs
    have hIC:I≠Ca:=hICne
    have hCφ:Ca ∉ φ':=λhm=>by
     obtain ⟨vs',n',e'⟩:=O1.mem hm
     have ho2:s'.heap.get? Ca=some o2:=ho2
     rw [e'] at ho2;cases ho2;cases hd2
    have O2:=B2.ok' O1 hCφ ho2 (aO hd2) zC0
    have F3:=F2.but B2 zC O2
    have hDp3:s2.heap.PlainList Da vs.toArray:=by obtain ⟨m,e⟩:=hDp2;exact ⟨m,B2.keep _ _ hCD e⟩
    have rs3:=B2.vals' ho2 (aO hd2) rs2
    obtain ⟨oK,vK,hoK,hdK,hKk⟩:=WI'.obj
    apply k9
    have WI2:=hKk φ' s2.heap (λZ Z q=>q) (B2.keep _ _ hIC hoK)
    refine wpAny_tests_nil ?_
    have hDφ:∀ {φa sa φb Hb sb},Da ∉ φa->(∃ m:Nat,sa.heap.get? Da=some { cls:=.type "list",data:=.seq vs.toArray m })->O8 X.h₀ φa sa φb Hb sb->Da ∉ φb:=λh0 hm Fx hmem=>by
     obtain ⟨ψ,e,hψ⟩:=Fx.grow
     rw [e] at hmem
     rcases C0 hmem with q|q
     ·exact h0 q
     ·obtain ⟨m,em⟩:=hm
      exact absurd (Heap.lt_size em) (Nat.not_lt.mpr (hψ _ q))
    have keepI:∀ {φa Ha sa φb Hb sb},Ok X.h₀ φa Ha sa.heap->bN X φa it I (i+1) sa.heap->O8 X.h₀ φa sa φb Hb sb->bN X φb it I (i+1) sb.heap:=λOa Wa Fx=>by
     apply Ah;intro g9 k9
     obtain ⟨oN,vN,hoN,hdN,hNk⟩:=Wa.obj
     apply k9
     refine hNk _ _ Fx.idx (Fx.step.keep _ _ (λhm=>?_) hoN)
     obtain ⟨vs',n',e'⟩:=Oa.mem hm
     rw [e'] at hoN;cases hoN;simp at hdN
    simp only [if_true]
    refine he elt' _ nm _ _ H' φ' s2 _ _ (qz names h1) LE3 O2 hw λw H6 φ6 y6 s6 q6 F6 r6=>?_
    obtain ⟨hlt,q6⟩:=q6
    have hD6:Da ∉ φ6:=hDφ hD hDp3 F6
    obtain ⟨m6,Fu⟩:s6.heap.PlainList Da vs.toArray:=by obtain ⟨m,e⟩:=hDp3;exact ⟨m,F6.step.keep _ _ hD e⟩
    have rs6:=F6.vals O2 rs3
    have WI6:=keepI O2 WI2 F6
    have LE6:=LE3.fwd O2 F6
    have hz:vs.toArray.size<=sizeLine:=by refine qz M2 ?_;simp [<- rs6.length];exact Aa.S5 b7
    refine call_meets PySem.F.slot_list_append ⟨_,Fu,rfl⟩ PySem.F.entry_list_append (PySem.F.args_list_append_2 _ _) (list_append Da _ m6 y6 hz) ⟨Fu,?_⟩
    have B7:iI Da s6 { s6 with heap:=s6.heap.update Da (Obj.mapSeq λxs=>xs.push y6),toks:=s6.toks }:=iI.of_same (Heap.SameBut.update s6.heap Da (Obj.mapSeq λxs=>xs.push y6)) (D3 _)
    have nt:¬ T6 { cls:=.type "list",data:=.seq vs.toArray m6 }:=jW rfl
    have O7:=B7.ok' F6.ok hD6 Fu nt zD0
    have F7:=(F3.trans F6).but B7 zD O7
    have hp7:PySem.Heap.PlainList (s6.heap.update Da (Obj.mapSeq λxs=>xs.push y6)) Da (vs++[y6]).toArray:=⟨_,by
     have:=IsL.update Fu (λxs=>xs.push y6)
     rwa [List.push_toArray] at this⟩
    have rs7:=B7.vals' Fu nt (rs6.append (H8.one r6))
    have LE7:=B7.env' LE6 Fu nt (λZ Z h=>by cases h) (λZ h=>by cases h)
    apply Ah;intro g9 k9
    obtain ⟨oN,vN,hoN,hdN,hNk⟩:=WI6.obj
    apply k9
    refine ⟨k0,D9 _,i+1,d5++[w],H6,φ6,_,vs++[y6],q6,F7,LE7,hNk _ _ (λZ Z q=>q) (B7.keep _ _ (Ne.symm hDI) hoN),hD6,hp7,rs7,by simp;exact Aa.S5 hlt⟩
   ·rw [Cf] at hw
    simp only at hw
    have O1:=B.ok F.ok hoJ hdJ zI0
    have F2:=F.but B hI O1
    have LE2:=B.env LE hoJ hdJ
    obtain ⟨m2,hns2,_⟩:=LE2.locals
    have hDp2:s'.heap.PlainList Da vs.toArray:=by obtain ⟨m,e⟩:=hDp;exact ⟨m,B.keep _ _ hDIne e⟩
    exact k Da Ca s' ⟨⟨d5,H',φ',vs,m2,hw,F2,hD,hDp2,B.vals' hoJ (bM hdJ) rs,b7,hns2⟩,zD,zC,Gs⟩
 refine codeAny_compStart_list (loop _ hJ) (By3 (hItk φ h₁ (λZ Z q=>q) (old _ _ hoI)) (loop _ hJ))
end
theorem Cg2 {gl sc nm e re}(h:Aa.K2 gl sc nm e re=true) (env:Env) (x:Value):foldedSetIterable re env x=pure x:=by
 have h:=(Aa.lK h).Dt
 cases re<;>first | rfl | nomatch h
section
variable {X:Cx}{A:Around}{C:Aa.Calls}
noncomputable def Bc3 (X:Cx) (φ:List Addr) (s:Shared) (Q:Aa.It->Aa.Heap->Prop) (s9:Shared) (y:Value) (sy:Shared):Prop :=
 ∃ it I H1 φ1,y=.ref I/\O8 X.h₀ φ s φ1 H1 s9/\O8 X.h₀ φ1 s9 φ1 H1 sy/\bN X φ1 it I 0 sy.heap/\s9.heap.objs.size<=I/\Q it H1
theorem pU (hs:L7 X A C src) {env:Env}{EX:Value->Shared->Prop}{Q:Aa.It->Aa.Heap->Prop}
  (hc:Aa.K2 X.gl env.scope.names nm src re=true) (L:L9 X φ nm env ρ s) (O:Ok X.h₀ φ H s.heap)
  (h:Aa.L0 C src ρ (λv Hw=>match Aa.cP v with
   | some it=>Q it Hw
   | none=>False) H):wpAny (S9 X) A (eval re env) (λx s9=>wpAny (S9 X) A (pyIter x) (Bc3 X φ s Q s9) EX s9) EX s:=by
 refine hs re env nm ρ _ H φ s _ EX hc L O h λv H1 φ1 x s1 q F1 r=>?_
 cases hi:Aa.cP v with
 | none=>simp only [hi] at q
 | some it =>
  simp only [hi] at q
  refine By4 F1.ok r hi λo s' e W F2=>⟨it,_,H1,φ1,rfl,F1,F2,W,D3 _,q⟩
theorem zW (G:eU X) (hs:L7 X A C src) {env:Env}{EX:Value->Shared->Prop}{Q:Aa.It->Aa.Heap->Prop}
  (hf:Aa.W7 env.scope.names "range" fn=true) (hc:Aa.K2 X.gl env.scope.names nm src re=true) (L:L9 X φ nm env ρ s) (O:Ok X.h₀ φ H s.heap)
  (h:Aa.L0 C src ρ (λv Hw=>match Aa.cF v with
   | some it=>Q it Hw
   | none=>False) H):wpAny (S9 X) A (eval (.Call fn [re] [] p) env) (λx s9=>wpAny (S9 X) A (pyIter x) (λy sy=>∃ s'0,Bc3 X φ s Q s'0 y sy/\O8 X.h₀ φ s φ H s) EX s9) EX s:=by
 refine ty1 G (by decide) hs hc hf L O h λv H1 φ1 x s1 q F1 r=>?_
 cases hi:Aa.cF v with
 | none=>simp only [hi] at q
 | some it =>
  simp only [hi] at q
  exact Bl7 F1.ok r hi λI s' hI W F2=>⟨s1,⟨it,_,H1,φ1,rfl,F1,F2,W,hI,q⟩,O8.refl O⟩
abbrev Cv1 (C:Aa.Calls) (i6:Aa.E) (x:Nat) (ρ:Aa.M6) (Q:V->Aa.Heap->Prop) (it:Aa.It) (Hw:Aa.Heap):Prop :=
 ∃ n,Aa.bS (Aa.L0 C i6) x ρ it n 0 [] (λvs Hz=>Q (.ref Hz.length) (Hz++[vs])) Hw
theorem hclos {env:Env}{nm:List Str}{φ:List Addr}{s:Shared}{id:Str}(L:L9 X φ nm env ρ s) (W:Ad8 env nm id scope):closureFor scope env=pure (Y8 env scope.names []) :=
 rF λy hy hf=>by
  obtain ⟨hm,hk⟩:=W.frees y hy hf
  obtain ⟨i,hi⟩:=List.getElem?_of_mem hm
  obtain ⟨c,ov,hc,_⟩:=L.cells i _ hi hk
  refine qz hc ?_;rfl
theorem Aw7 (hh:A.handled=none) (he:L7 X A C i6)
  {env:Env}{nm:List Str}{φ:List Addr}{H:Aa.Heap}{s:Shared}{x:Nat}{id:Str}
  {Q:V->Aa.Heap->Prop}{K EX:Value->Shared->Prop}(L:L9 X φ nm env ρ s) (O:Ok X.h₀ φ H s.heap) (hx:nm[x]? = some id) (i9:X.gl.lits.contains x=false)
  (hsc:Aa.aW env.scope.names nm id scope=true) (h1:Aa.K2 X.gl (Aa.eK env.scope.names scope.names) nm i6 elt'=true)
  (i7:∀ y,foldedSetIterable iter env y=pure y)
  (hf:wpAny (S9 X) A (eval iter env) (λx' s9=>wpAny (S9 X) A (pyIter x') (λy sy=>∃ s'0,Bc3 X φ s (Cv1 C i6 x ρ Q) s'0 y sy/\O8 X.h₀ φ s φ H s) EX s9) EX s)
  (k:aG X Q φ s K):wpAny (S9 X) A (eval (.ListComp elt' [⟨.Name id px,iter,[],0⟩] scope pos) env) K EX s:=by
 have W:=sD hsc
 show wpAny (S9 X) A (comprehension (.ListComp elt' [⟨.Name id px,iter,[],0⟩] scope pos) scope env _ (newList []) false (eval iter env) none) K EX s
 refine wpAny_comprehension_free rfl i7 (hclos L W) W.kind (λy hy hl=>(W.locs y hy hl).1) (wpAny_mono hf (λx1 s1 hx1=>wpAny_mono hx1 (λy s2 hy=>?_) λZ Z q=>q) λZ Z q=>q)
 apply Ah;intro g9 k9
 obtain ⟨s1',⟨it,I,H1,φ1,rfl,F1,F2,WI,hI,n,hw⟩,_⟩:=hy
 apply k9
 refine Aw8 (R:=compPost (S9 X) A EX none K) hh he (L.fwd O (F1.trans F2)) F2 (D2 O.room F1.step.size) WI hI hx i9 hsc h1 hw λDa Ca s' E=>?_
 apply Ah;intro g9 k9
 obtain ⟨d5,H',φ',vs,m,q,F,hD,hp,rs,hl,hn⟩:=E.ex
 apply k9
 refine ⟨m,hn,λh' hsb=>?_⟩
 have zD:=D2 (D2 O.room F1.step.size) E.D
 have zC:=D2 (D2 O.room F1.step.size) E.C
 have Fa:=F.add hD E.D zD hp rs hl
 have B:iI Ca s' { s' with heap:=h',toks:=s'.toks }:=iI.of_same hsb (D3 _)
 apply Ah;intro g9 k9
 obtain ⟨o,es,ep,ho,hd,_⟩:=hn
 apply k9
 have Ex:Ca ∉ φ'++[Da]:=λhm=>by
  obtain ⟨_,_,e⟩:=Fa.ok.mem hm
  rw [e] at ho;cases ho;cases hd
 have Fb:=Fa.but B E.C (B.ok' Fa.ok Ex ho (aO hd) zC)
 exact k _ _ _ _ _ q (F1.trans Fb) (fA (by refine qz F.ok.len.symm ?_;simp))
theorem Bk0 (hh:A.handled=none) {x:Nat}(he:L7 X A C i6) (hs:L7 X A C src):L7 X A C (.comp i6 x src):=by
 intro re env nm ρ Q H φ s K EX hc L O h k
 refine Aa.Bo1 hc λelt' l7 px it' scope pos e9 Af=>?_
 clear hc;subst e9
 ·replace Af:=Aa.a5 Af
  apply Ah;intro g9 k9
  obtain ⟨⟨⟨⟨h1,h2⟩,h3⟩,h4⟩,h5⟩:=Af
  apply k9
  replace h1:=eq_of_beq h1
  replace h2:=Aa.An2 h2
  replace h:=Aa.Bz6 h
  exact Aw7 hh he L O h1 h2 h3 h5 (Cg2 h4 env) (wpAny_mono (pU hs h4 L O h) (λZ Z q=>wpAny_mono q (λZ Z q=>⟨_,q,O8.refl O⟩) λZ Z q=>q) λZ Z q=>q) k
end
theorem H8.set {h₀ φ h}:∀ {l:List V}{vs:List Value}{k:Nat}{v:V}{x:Value},H8 h₀ φ h l vs->L8 h₀ φ h v x->H8 h₀ φ h (l.set k v) (vs.set k x)
 | [],vs,_=>λH Z=>by obtain rfl:=H.Bo;exact H
 | w::l,vs,0=>λH r=>by
  obtain ⟨y,r',rfl,_,ht⟩:=H.Ax
  exact H8.cons r ht
 | w::l,vs,k+1=>λH r=>by
  obtain ⟨y,r',rfl,hy,ht⟩:=H.Ax
  exact H8.cons hy (H8.set ht r)
noncomputable def By5 (h₀:Heap) (φ:List Addr) (h:Heap):Aa.gO->Flow->Prop
 | .next,f=>f=.next
 | .ret v,f=>∃ x,f=.ret x/\L8 h₀ φ h v x
noncomputable def dR (X:Cx) (Q:Aa.O3) (env:Env) (nm:List Str) (φ:List Addr) (s:Shared) (K:Flow->Shared->Prop):Prop :=
 ∀ fl ρ' H' φ' f s',Q fl ρ' H'->S4 X.h₀ env φ s φ' H' s'->L9 X φ' nm env ρ' s'->By5 X.h₀ φ' s'.heap fl f->K f s'
noncomputable def iJ (X:Cx) (A:Around) (C:Aa.Calls) (st:Aa.S):Prop :=
 ∀ (re:Stmt) (env:Env) (nm:List Str) (ρ:Aa.M6) (Q:Aa.O3) (H:Aa.Heap) (φ:List Addr) (s:Shared) (K:Flow->Shared->Prop) (EX:Value->Shared->Prop),
  Aa.cN X.gl env.scope.names nm st re=true->L9 X φ nm env ρ s->Ok X.h₀ φ H s.heap->Aa.lE C st ρ Q H->dR X Q env nm φ s K ->
  wpAny (S9 X) A (exec re env) K EX s
noncomputable def eJ (X:Cx) (A:Around) (C:Aa.Calls) (st:List Aa.S):Prop :=
 ∀ (re:List Stmt) (env:Env) (nm:List Str) (ρ:Aa.M6) (Q:Aa.O3) (H:Aa.Heap) (φ:List Addr) (s:Shared) (K:Flow->Shared->Prop) (EX:Value->Shared->Prop),
  Aa.S8 X.gl env.scope.names nm st re=true->L9 X φ nm env ρ s->Ok X.h₀ φ H s.heap->Aa.K1 C st ρ Q H->dR X Q env nm φ s K ->
  wpAny (S9 X) A (execs re env) K EX s
section
variable {X:Cx}{A:Around}{C:Aa.Calls}
theorem dR.after {env nm φ s K φ0 Hw s9}(k:dR X Q env nm φ s K) (F:S4 X.h₀ env φ s φ0 Hw s9):dR X Q env nm φ0 s9 K :=
 λfl ρ' H' φ' f s' q F' L' r=>k fl ρ' H' φ' f s' q (F.trans F') L' r
theorem Bw6:eJ X A C []:=by
 intro re env nm ρ Q H φ s K EX hc L O h k
 obtain rfl:=Aa.qC hc
 ·replace h:=Aa.Bf2 h
  exact wpAny_execs_nil (k .next ρ H φ _ s h (S4.refl O) L rfl)
theorem Bj9 {st:Aa.S}{sts:List Aa.S}(h1:iJ X A C st) (h2:eJ X A C sts):eJ X A C (st::sts):=by
 intro re env nm ρ Q H φ s K EX hc L O h k
 obtain ⟨re,res,e9,Af⟩:=Aa.V1 hc
 clear hc;subst e9
 have hc:=Af
 clear Af
 ·replace h:=Aa.Ap6 h
  refine wpAny_execs_cons (h1 re env nm ρ _ H φ s _ EX hc.1 L O h λfl ρ1 H1 φ1 f s1 q F1 L1 r=>?_)
  cases fl with
  | next =>
   obtain rfl:=r
   exact h2 res env nm ρ1 Q H1 φ1 s1 K EX hc.2 L1 F1.ok q (k.after F1)
  | ret v =>
   obtain ⟨x,rfl,r⟩:=r
   exact k _ _ _ _ _ _ q F1 L1 ⟨x,rfl,r⟩
theorem oU {gl sc nm e re}(h:Aa.K2 gl sc nm e re=true) (hn:Aa.dT e=true) (t:Option Expr) (l:Nat) (env:Env):swapsWith re t l env=pure false:=by
 have hf:=(Aa.lK h).Dt
 have hc:=(Aa.lK h).comp hn
 clear h
 cases re<;>first | rfl | exact Bool.noConfusion hf | exact Bool.noConfusion hc
theorem Av2 (re:Expr) (o i:Expr) (p:Pos) (l:Nat) (env:Env):swapsWith re (some (.Subscript o i p)) l env=pure false:=by
 cases re<;>rfl
theorem Ah4 (G:eU X) {x:Nat}(he:L7 X A C e):iJ X A C (.assign x e):=by
 intro re env nm ρ Q H φ s K EX hc L O h k
 refine Aa.Ak0 hc λid p e' p' e9 Af=>?_
 clear hc;subst e9
 ·replace Af:=Aa.a6 Af
  apply Ah;intro g9 k9
  obtain ⟨⟨⟨⟨⟨h1,h2⟩,h3⟩,h4⟩,h5⟩,h6⟩:=Af
  apply k9
  replace h1:=eq_of_beq h1
  replace h4:=Aa.An2 h4
  replace h:=Aa.Ax1 h
  refine wpAny_Assign_Name (he e' env nm ρ _ H φ s _ EX h5 L O h λv H1 φ1 y s1 q F1 r=>?_) (oU h5 h6 _ _ env)
  exact gE (L.fwd O F1) F1.ok h1 h2 h3 h4 r λs2 F2 L2=>k .next _ _ _ _ _ q ((F1.toS env).trans F2) L2 rfl
set_option tactic.hygienic true in
theorem Ag9 (ho:L7 X A C o) (hi:L7 X A C i) (he:L7 X A C e):iJ X A C (.Bs o i e):=by
 intro re env nm ρ Q H φ s K EX hc L O h k
 have hlim:Aa.P0=16777216:=rfl
 refine Aa.Aj7 hc λo' i' p e' p' e9 Af=>?_
 clear hc;subst e9
 ·replace Af:=Aa.a3 Af
  obtain ⟨⟨h1,h2⟩,h3⟩:=Af
  replace h:=Aa.Ax0 h
  refine wpAny_Assign_Subscript (he _ env nm ρ _ H φ s _ EX h3 L O h λv H1 φ1 x1 s1 q1 F1 r1=>?_) (Av2 ..)
  refine ho _ env nm ρ _ H1 φ1 s1 _ EX h1 (L.fwd O F1) F1.ok q1 λvo H2 φ2 x2 s2 q2 F2 r2=>?_
  have F12:=F1.trans F2
  refine hi _ env nm ρ _ H2 φ2 s2 _ EX h2 (L.fwd O F12) F12.ok q2 λvi H3 φ3 x3 s3 q3 F3 r3=>?_
  have F13:=F12.trans F3
  have r1':=F3.val F2.ok (F2.val F1.ok r1)
  have r2':=F3.val F2.ok r2
  unfold Aa.Cy at q3
  split at q3
  ·rename_i H4 e4
   replace e4:=Aa.jN e4;obtain ⟨a,rfl,e4⟩:=e4
   replace e4:=Aa.O6 e4;obtain ⟨j,rfl,e4⟩:=e4
   ·obtain ⟨p,hp,rfl⟩:=Q3 r2'
    obtain ⟨t,rfl⟩:=K9 r3
    cases e0:H3[a]? with
    | none=>rw [e0] at e4;cases e4
    | some l =>
     rw [e0] at e4
     simp only [Option.bind_some] at e4
     apply Ah;intro g9 k9
     obtain ⟨kk,ek,rfl⟩:=C1 e4
     obtain ⟨vs,⟨n,hl⟩,rl⟩:=F3.ok.lists _ _ _ hp e0
     apply k9
     have b7:=rl.length
     have hz:=F3.ok.small l (E5 e0)
     have fin:∀ kk',kk'=kk->K .next { s3 with heap:=s3.heap.update p (Obj.mapSeq (·.setIfInBounds kk' x1)) }:=λkk' ekk=>by
      subst ekk
      have F4:=O8.change (tk:=s3.toks) F3.ok hp (Heap.SameBut.update s3.heap p (Obj.mapSeq (·.setIfInBounds kk' x1))) (vs':=vs.set kk' x1) (l':=l.set kk' v) ⟨_,by
       have:=IsL.update hl (λxs=>xs.setIfInBounds kk' x1)
       rwa [List.setIfInBounds_toArray] at this⟩ (rl.set r1') (by simpa using hz) (D3 _)
      exact k .next _ _ _ _ _ q3 ((F13.trans F4).toS env) (L.fwd O (F13.trans F4)) rfl
     unfold Aa.R2 at ek
     split at ek
     ·rename_i h0
      split at ek
      ·rename_i hlt
       cases ek
       exact PySem.W.ki_setAt hl h0 (by lia) (by simpa [<- b7] using hlt) (fin _ rfl)
      ·cases ek
     ·rename_i h0
      split at ek
      ·rename_i d6
       cases ek
       refine PySem.W.ki_setBack hl (by lia) (by simpa [<- b7] using d6) (by lia) (fin _ ?_)
       simp [<- b7]
      ·cases ek
  ·exact q3.elim
theorem Bj8 (he:L7 X A C e):iJ X A C (.expr e):=by
 intro re env nm ρ Q H φ s K EX hc L O h k
 refine Aa.xU hc λe' p e9 Af=>?_
 clear hc;subst e9
 ·replace Af:=Aa.E7 Af
  replace h:=Aa.By9 h
  refine wpAny_Expr_any (he _ env nm ρ _ H φ s _ EX Af.2 L O h λv H1 φ1 x1 s1 q1 F1 r1=>k .next _ _ _ _ _ q1 (F1.toS env) (L.fwd O F1) rfl) ?_ (oU Af.2 Af.1 _ _ env)
  unfold interactive;refine qz L.kind ?_;rfl
theorem Bx0 (j0:gM X A C c) (ht:eJ X A C t) (hf:eJ X A C f):iJ X A C (.ite c t f):=by
 intro re env nm ρ Q H φ s K EX hc L O h k
 refine Aa.uO hc λc' t' f' p e9 Af=>?_
 clear hc;subst e9
 ·replace Af:=Aa.a3 Af
  obtain ⟨⟨h1,h2⟩,h3⟩:=Af
  replace h:=Aa.Cm8 h
  refine wpAny_If (j0 _ env nm ρ _ H φ s _ EX h1 L O h λb H1 φ1 s1 q1 F1=>?_)
  cases b with
  | true=>exact ht _ env nm ρ Q H1 φ1 s1 K EX h2 (L.fwd O F1) F1.ok q1 (k.after (F1.toS env))
  | false=>exact hf _ env nm ρ Q H1 φ1 s1 K EX h3 (L.fwd O F1) F1.ok q1 (k.after (F1.toS env))
theorem Bv7 (j0:gM X A C c) (hb:eJ X A C b):iJ X A C (.Dq c b):=by
 intro re env nm ρ Q H φ s K EX hc L O h k
 refine Aa.Ca0 hc λc' b' p e9 Af=>?_
 clear hc;subst e9
 ·replace Af:=Aa.E7 Af
  obtain ⟨h1,h2⟩:=Af
  replace h:=Aa.Cm6 h
  obtain ⟨n,hn⟩:=h
  refine wpAny_While (codeAny_whileLoop (λk0 st=>∃ ρ' H' φ',Aa.kE (Aa.L0 C c) (Aa.K1 C b) k0 ρ' Q H'/\S4 X.h₀ env φ s φ' H' st/\L9 X φ' nm env ρ' st) (λk0 st f9=>?_) n ⟨ρ,H,φ,hn,S4.refl O,L⟩)
  apply Ah;intro g9 k9
  obtain ⟨ρ',H',φ',hw,F,L'⟩:=f9
  apply k9
  cases k0 with
  | zero=>exact B4 hw
  | succ k0 =>
   refine j0 _ env nm ρ' _ H' φ' st _ _ h1 L' F.ok hw λt H1 φ1 s1 q1 F1=>?_
   have L1:=L'.fwd F.ok F1
   have FF:=F.trans (F1.toS env)
   cases t with
   | false =>
    simp only [Bool.false_eq_true,if_false]
    exact wpAny_execs_nil (k .next _ _ _ _ _ q1 FF L1 rfl)
   | true =>
    simp only [if_true]
    refine hb _ env nm ρ' _ H1 φ1 s1 _ _ h2 L1 F1.ok q1 λfl ρ2 H2 φ2 f s2 q2 F2 L2 r2=>?_
    cases fl with
    | next=>obtain rfl:=r2;exact ⟨k0,D9 _,ρ2,H2,φ2,q2,FF.trans F2,L2⟩
    | ret v =>
     obtain ⟨x,rfl,r⟩:=r2
     exact k (.ret v) _ _ _ _ _ q2 (FF.trans F2) L2 ⟨x,rfl,r⟩
theorem xK (hh:A.handled=none) {b:List Aa.S}{x n:Nat}(hb:eJ X A C b) {id:Str}{b':List Stmt}{env:Env}{nm:List Str}{Q:Aa.O3}{H:Aa.Heap}{φ:List Addr}{s₀ s:Shared}{φ7:List Addr}{I:Addr}{K:Flow->Shared->Prop}{EX:Value->Shared->Prop}
  (L:L9 X φ nm env ρ s) (F0:S4 X.h₀ env φ7 s₀ φ H s) (j3:X.h₀.objs.size<=s₀.heap.objs.size) (W:bN X φ it I 0 s.heap) (hI:s₀.heap.objs.size<=I)
  (h1:nm[x]? = some id) (h2:Aa.Y3 env.scope.names id=true) (h3:(env.scope.names.lookup id != some .free)=true) (h4:X.gl.lits.contains x=false)
  (h6:Aa.S8 X.gl env.scope.names nm b b'=true) (hw:Aa.cM (Aa.K1 C b) x it n 0 ρ Q H) (k:dR X Q env nm φ7 s₀ K) :
  codeAny (S9 X) A (.forLoop (.Name id p) (.ref I) b' [] env) (λr s'=>match r with | .ok f=>K f s' | .error e=>cameBackBy (S9 X) A env EX e s') s:=by
 refine codeAny_forLoop (λk0 st=>∃ i ρ' H' φ',Aa.cM (Aa.K1 C b) x it k0 i ρ' Q H'/\S4 X.h₀ env φ7 s₀ φ' H' st/\L9 X φ' nm env ρ' st/\bN X φ' it I i st.heap) (λk0 st f9=>?_) n ⟨0,ρ,H,φ,hw,F0,L,W⟩
 apply Ah;intro g9 k9
 obtain ⟨i,ρ',H',φ',hw,F,L',WI⟩:=f9
 apply k9
 cases k0 with
 | zero=>exact B4 hw
 | succ k0 =>
  replace hw:(match it.at H' i with | none=>_ | some v=>_):=hw
  apply Ah;intro g9 k9
  obtain ⟨oI,vI,hoI,hdI,hIk⟩:=WI.obj
  apply k9
  refine Ao7 hh F.ok WI (λv y s' Cf ry B WI'=>?_) (λs' Cf B=>?_)
  ·rw [Cf] at hw
   simp only at hw
   have O1:=B.ok F.ok hoI hdI (D2 j3 hI)
   have F1:=F.but B hI O1
   have L1:=B.env L' hoI hdI
   refine wpAny_assign_Name (gE L1 O1 h1 h2 h3 h4 ry λs2 F2 L2=>?_)
   apply Ah;intro g9 k9
   obtain ⟨oJ,vJ,hoJ,hdJ,hJk⟩:=WI'.obj
   apply k9
   have WI2:=hJk φ' s2.heap (λZ Z q=>q) (S4.fields O1 L1 F2 hdJ hoJ)
   refine hb _ env nm _ _ H' φ' s2 _ _ h6 L2 F2.ok hw λfl ρ3 H3 φ3 f s3 q3 F3 L3 r3=>?_
   have FF:=(F1.trans F2).trans F3
   obtain ⟨oK,vK,hoK,hdK,hKk⟩:=WI2.obj
   have WI3:=hKk φ3 s3.heap F3.idx (S4.fields F2.ok L2 F3 hdK hoK)
   cases fl with
   | next=>obtain rfl:=r3;exact ⟨k0,D9 _,i+1,ρ3,H3,φ3,q3,FF,L3,WI3⟩
   | ret v =>
    obtain ⟨x,rfl,r⟩:=r3
    exact k (.ret v) _ _ _ _ _ q3 FF L3 ⟨x,rfl,r⟩
  ·rw [Cf] at hw
   simp only at hw
   have O1:=B.ok F.ok hoI hdI (D2 j3 hI)
   exact wpAny_execs_nil (k .next _ _ _ _ _ hw (F.but B hI O1) (B.env L' hoI hdI) rfl)
theorem Av7 (hh:A.handled=none) {x:Nat}{b:List Aa.S}(he:L7 X A C e) (hb:eJ X A C b):iJ X A C (.forIn x e b):=by
 intro re env nm ρ Q H φ s K EX hc L O h k
 refine Aa.Ay8 hc λid p e' b' p' e9 Af=>?_
 clear hc;subst e9
 ·replace Af:=Aa.a6 Af
  obtain ⟨⟨⟨⟨⟨h1,h2⟩,h3⟩,h4⟩,h5⟩,h6⟩:=Af
  replace h1:=eq_of_beq h1
  replace h4:=Aa.An2 h4
  replace h:=Aa.Bm3 h
  refine wpAny_For (wpAny_mono (pU (Q:=λit Hw=>∃ n,Aa.cM (Aa.K1 C b) x it n 0 ρ Q Hw) he h5 L O h) (λx1 s1 hx1=>wpAny_mono hx1 (λy s2 hy=>?_) λZ Z q=>q) λZ Z q=>q) (Cg2 h5 env)
  apply Ah;intro g9 k9
  obtain ⟨it,I,H1,φ1,rfl,F1,F2,WI,hI,n,hw⟩:=hy
  apply k9
  have FF:=F1.trans F2
  exact xK hh hb (L.fwd O FF) (FF.toS env) O.room WI (D2 F1.step.size hI) h1 h2 h3 h4 h6 hw k
theorem Bj6 (G:eU X) (hh:A.handled=none) {x:Nat}{b:List Aa.S}(he:L7 X A C e) (hb:eJ X A C b):iJ X A C (.Dc x e b):=by
 intro re env nm ρ Q H φ s K EX hc L O h k
 refine Aa.Bn9 hc λid p fn e' pp b' p' e9 Go Af=>?_
 clear hc;subst e9
 ·replace Af:=Aa.a6 Af
  apply Ah;intro g9 k9
  obtain ⟨⟨⟨⟨⟨h1,h2⟩,h3⟩,h4⟩,h6⟩,h7⟩:=Af
  apply k9
  replace h1:=eq_of_beq h1
  replace h4:=Aa.An2 h4
  have h5:=Go
  replace h:=Aa.By8 h
  refine wpAny_For (wpAny_mono (zW (Q:=λit Hw=>∃ n,Aa.cM (Aa.K1 C b) x it n 0 ρ Q Hw) G he h5 h6 L O h) (λx1 s1 hx1=>wpAny_mono hx1 (λy s2 hy=>?_) λZ Z q=>q) λZ Z q=>q) (λZ=>rfl)
  apply Ah;intro g9 k9
  obtain ⟨s1',⟨it,I,H1,φ1,rfl,F1,F2,WI,hI,n,hw⟩,_⟩:=hy
  apply k9
  have FF:=F1.trans F2
  exact xK hh hb (L.fwd O FF) (FF.toS env) O.room WI (D2 F1.step.size hI) h1 h2 h3 h4 h7 hw k
theorem Bw2 (he:L7 X A C e):iJ X A C (.ret e):=by
 intro re env nm ρ Q H φ s K EX hc L O h k
 refine Aa.Aq0 hc λe' p e9 Af=>?_
 clear hc;subst e9
 ·replace h:=Aa.Cm7 h
  exact wpAny_Return_some (he _ env nm ρ _ H φ s _ EX Af L O h λv H1 φ1 x1 s1 q1 F1 r1=>k (.ret v) _ _ _ _ _ q1 (F1.toS env) (L.fwd O F1) ⟨_,rfl,r1⟩)
theorem zQ:iJ X A C .Bm:=by
 intro re env nm ρ Q H φ s K EX hc L O h k
 refine Aa.Aa0 hc λp e9=>?_
 clear hc;subst e9
 ·replace h:=Aa.Ai9 h
  exact wpAny_Return_none (k (.ret .none) _ _ _ _ _ h (S4.refl O) L ⟨_,rfl,by rfl⟩)
theorem Av5 {a b}:iJ X A C (.raise a b):=by
 intro re env nm ρ Q H φ s K EX hc L O h k
 replace h:=Aa.Bm2 h
 exact h.elim
structure mF (N:Addr->Prop) (s s':Shared):Prop where
 same:∃ h' tk,s'={ s with heap:=h',toks:=tk }
 keep:∀ b o,¬ N b->s.heap.get? b=some o->s'.heap.get? b=some o
 size:s.heap.objs.size<=s'.heap.objs.size
 toks:s.toks<=s'.toks
noncomputable def Au5 (h:Heap) (N:Addr->Prop):Prop:=∀ b,N b->∃ o vs,h.get? b=some o/\o.data=.fields vs
theorem mF.Bu {N s s'}(B:mF N s s') (hN:Au5 s.heap N):∀ b o,T6 o->s.heap.get? b=some o->s'.heap.get? b=some o:=λb o ht e=>B.keep b o (λhb=>by
 obtain ⟨o',vs,ho,hd⟩:=hN b hb
 rw [e] at ho;cases ho
 exact bM hd ht) e
theorem mF.ok {h₀ φ H N s s'}(B:mF N s s') (K:Ok h₀ φ H s.heap) (hN:Au5 s.heap N) (l8:∀ b,N b->h₀.objs.size<=b):Ok h₀ φ H s'.heap:=by
 refine ⟨λb o e=>B.keep b o (λq=>absurd (Heap.lt_size e) (Nat.not_lt.mpr (l8 b q))) (K.base b o e),K.len,K.nodup,K.above,K.small,D2 K.room B.size,λi b l hi hl=>?_⟩
 obtain ⟨vs',⟨n,e⟩,r⟩:=K.lists i b l hi hl
 refine ⟨vs',⟨n,B.keep b _ (λq=>?_) e⟩,H8.mono (λZ Z q=>q) (B.Bu hN) l r⟩
 obtain ⟨o',vs,ho,hd⟩:=hN b q
 rw [e] at ho;cases ho;simp at hd
theorem mF.val {h₀ φ N s s'}(B:mF N s s') (hN:Au5 s.heap N) {x:Value}(r:L8 h₀ φ s.heap v x):L8 h₀ φ s'.heap v x:=L8.mono (λZ Z q=>q) (B.Bu hN) v r
theorem mF.env {X:Cx}{φ nm env ρ N s s'}(B:mF N s s') (L:L9 X φ nm env ρ s) (hN:Au5 s.heap N):L9 X φ nm env ρ s':=by
 have hr:∀ v x,L8 X.h₀ φ s.heap v x->L8 X.h₀ φ s'.heap v x:=λv x r=>B.val hN r
 have hcell:∀ c ov,s.heap.IsCell c ov->s'.heap.IsCell c ov:=λc ov hc=>by
  obtain ⟨oc,Cb,hdc⟩:=hc
  refine ⟨oc,B.keep c oc (λq=>?_) Cb,hdc⟩
  obtain ⟨o',vs,ho,hd⟩:=hN c q
  rw [ho] at Cb;cases Cb;rw [hd] at hdc;cases hdc
 refine ⟨L.kind,L.glob,L.blt,L.len,L.nodup,λhp=>D6 (L.pos hp) B.toks,?_,?_,L.above,L.Bj,λx c hc=>?_,L.apart⟩
 ·apply Ah;intro g9 k9
  obtain ⟨m,⟨ol,es,ep,Eu,hdl,q⟩,hm⟩:=L.locals
  apply k9
  have hn:¬ N env.locals:=λe=>by
   obtain ⟨o',vs,ho,hd⟩:=hN _ e
   rw [ho] at Eu;cases Eu;rw [hd] at hdl;cases hdl
  exact ⟨m,⟨ol,es,ep,B.keep _ _ hn Eu,hdl,q⟩,λi x hx hk=>⟨(hm i x hx hk).1.mono hr,(hm i x hx hk).2.mono B.toks⟩⟩
 ·intro i x hx hk
  apply Ah;intro g9 k9
  obtain ⟨c,ov,hc,g8,r,lr⟩:=L.cells i x hx hk
  apply k9
  exact ⟨c,ov,hc,hcell c ov g8,r.mono hr,lr.mono B.toks⟩
 ·obtain ⟨ov,g8⟩:=L.As x c hc
  exact ⟨ov,hcell c ov g8⟩
theorem S4.butP {h₀ env φ7 s₀ φ H N s s'}(F:S4 h₀ env φ7 s₀ φ H s) (B:mF N s s') (hI:∀ b,N b->s₀.heap.objs.size<=b) (O:Ok h₀ φ H s'.heap):S4 h₀ env φ7 s₀ φ H s':=by
 obtain ⟨⟨h1,t1,e1⟩,k1,z1,w1,g1,_⟩:=F
 obtain ⟨⟨h2,t2,e2⟩,k2,z2,w2⟩:=B
 exact ⟨⟨h2,t2,qz e2 (qz e1 rfl)⟩,λb o hb hn e=>k2 b o (λq=>absurd (Heap.lt_size e) (Nat.not_lt.mpr (hI b q))) (k1 b o hb hn e),D2 z1 z2,D2 w1 w2,g1,O⟩
theorem S4.val {env φ nm ρ s φ' H H' s'}(K:Ok X.h₀ φ H s.heap) (L:L9 X φ nm env ρ s) (F:S4 X.h₀ env φ s φ' H' s') {x:Value}(r:L8 X.h₀ φ s.heap v x):L8 X.h₀ φ' s'.heap v x :=
 L8.mono F.idx (λb o ht e=>F.keep b o (λhm=>by
  obtain ⟨vs',n,e'⟩:=K.mem hm
  rw [e'] at e;cases e;exact jW rfl ht) (λhn=>by
  obtain ⟨_,vs,n,hd⟩:=ht
  rcases hn with rfl|⟨x,hx⟩
  ·obtain ⟨m,⟨o',es,ep,ho',hd',_⟩,_⟩:=L.locals
   rw [ho'] at e;cases e;rw [hd'] at hd;cases hd
  ·obtain ⟨ov,o',ho',hd'⟩:=L.As x b hx
   rw [ho'] at e;cases e;rw [hd'] at hd;cases hd) e) v r
theorem Aw6 (hh:A.handled=none) {b:List Aa.S}{x y n a:Nat}(hb:eJ X A C b) {id l7:Str}{u}{b':List Stmt}{env:Env}{nm:List Str}{Q:Aa.O3}{H:Aa.Heap}{φ:List Addr}{s₀ s:Shared}{φ7:List Addr}{e it pl:Addr}{K:Flow->Shared->Prop}{EX:Value->Shared->Prop}
  (L:L9 X φ nm env ρ s) (F0:S4 X.h₀ env φ7 s₀ φ H s) (j3:X.h₀.objs.size<=s₀.heap.objs.size) (he:IsEnum s.heap e it 0 .none) (hit:s.heap.IsListIter it pl 0) (hp:φ[a]? = some pl) (f6:e≠it) (hIe:s₀.heap.objs.size<=e) (hIt:s₀.heap.objs.size<=it)
  (h1:nm[x]? = some id) (h2:Aa.Y3 env.scope.names id=true) (h3:(env.scope.names.lookup id != some .free)=true) (h4:X.gl.lits.contains x=false)
  (g1:nm[y]? = some l7) (g2:Aa.Y3 env.scope.names l7=true) (g3:(env.scope.names.lookup l7 != some .free)=true) (g4:X.gl.lits.contains y=false)
  (h6:Aa.S8 X.gl env.scope.names nm b b'=true) (hw:Aa.lM (Aa.K1 C b) x y (.lst a) n 0 ρ Q H) (k:dR X Q env nm φ7 s₀ K) :
  codeAny (S9 X) A (.forLoop (.Tuple [.Name id p,.Name l7 p'] u pt) (.ref e) b' [] env) (λr s'=>match r with | .ok f=>K f s' | .error e=>cameBackBy (S9 X) A env EX e s') s:=by
 refine codeAny_forLoop_any (λk0 st=>∃ (i:Nat) (ρ':Aa.M6) (H':Aa.Heap) (φ':List Addr) (old:Value),Aa.lM (Aa.K1 C b) x y (.lst a) k0 i ρ' Q H'/\S4 X.h₀ env φ7 s₀ φ' H' st/\L9 X φ' nm env ρ' st/\IsEnum st.heap e it ((i:Nat):Int) old/\st.heap.IsListIter it pl i/\φ'[a]? = some pl) (λk0 st f9=>?_) n ⟨0,ρ,H,φ,.none,hw,F0,L,he,hit,hp⟩
 apply Ah;intro g9 k9
 obtain ⟨i,ρ',H',φ',old,hw,F,L',he',hit',hp'⟩:=f9
 apply k9
 cases k0 with
 | zero=>exact B4 hw
 | succ k0 =>
  replace hw:(match (Aa.It.lst a).at H' i with | none=>_ | some v=>_):=hw
  have O:=F.ok
  have hlt:a<H'.length:=qz O.len.symm ((A3 hp').1)
  obtain ⟨l,hl⟩:∃ l,H'[a]? = some l:=⟨_,A8 hlt⟩
  obtain ⟨vs',hpl,rs⟩:=O.lists _ _ _ hp' hl
  have hN:Au5 st.heap (λb=>b=e∨b=it):=λb hb=>by
   rcases hb with rfl|rfl
   ·exact ⟨_,_,he',rfl⟩
   ·obtain ⟨o,ho,hc,hd⟩:=hit'
    exact ⟨o,_,ho,hd⟩
  have hI:∀ b,b=e∨b=it->s₀.heap.objs.size<=b:=λb hb=>by
   rcases hb with rfl|rfl
   ·exact hIe
   ·exact hIt
  have hI0:∀ b,b=e∨b=it->X.h₀.objs.size<=b:=λb hb=>D2 j3 (hI b hb)
  cases hx:l[i]? with
  | some v =>
   apply Ah;intro g9 k9
   obtain ⟨x1,hx',rx⟩:=rs.get hx
   apply k9
   rw [show (Aa.It.lst a).at H' i=some v by simp [Aa.It.at,hl,hx]] at hw
   simp only at hw
   have heH:e<st.heap.objs.size:=Heap.lt_size he'
   have hiH:it<st.heap.objs.size:=by obtain ⟨o,ho,_⟩:=hit';exact Heap.lt_size ho
   refine wpAny_pyNext_enum_item he' hit' hpl.isList (by simpa using hx') f6 λh₁ heo hit₁ ht1 hz4 hk4=>?_
   refine wpAny_letOwnedTupleGo_enum heo λh₂ he4 hs2=>?_
   replace hs2:Heap.SameBut e h₁ h₂:=hs2
   have htup:h₂.get? st.heap.objs.size=some { cls:=.type "tuple",data:=.seq #[.int i st.toks,x1] }:=(hs2.2 _ (Nat.ne_of_gt heH)).trans ht1
   have ht2:h₂.IsTuple st.heap.objs.size #[.int i st.toks,x1]:=⟨_,htup,rfl,_,rfl⟩
   have hz3:h₂.objs.size=st.heap.objs.size+1:=hs2.1.trans hz4
   refine wpAny_assign_Tuple hh ht2 rfl rfl λh₃ hx3=>?_
   replace hx3:Heap.ExtBut h₂.objs.size h₂ h₃:=hx3
   have old₃:∀ b o,b<st.heap.objs.size+1->h₂.get? b=some o->h₃.get? b=some o:=λb o hb q=>hx3 b o (qz hz3 (D1 hb)) q
   have he3:IsEnum h₃ e it ((i:Int)+1) x1:=old₃ e _ (Nat.lt_succ_of_lt heH) he4
   have hit₃:h₃.IsListIter it pl (i+1):=by
    obtain ⟨o,ho,hc,hd⟩:=hit₁
    exact ⟨o,old₃ it o (Nat.lt_succ_of_lt hiH) ((hs2.2 it (Ne.symm f6)).trans ho),hc,hd⟩
   have B:mF (λb=>b=e∨b=it) st { st with heap:=h₃,toks:=st.toks+1 }:=⟨⟨_,_,rfl⟩,λb o hb q=>old₃ b o (Nat.lt_succ_of_lt (Heap.lt_size q)) ((hs2.2 b λr=>hb (Or.inl r)).trans (hk4 b o (λr=>hb (Or.inl r)) (λr=>hb (Or.inr r)) q)),E2 (Heap.lt_size (old₃ _ _ (D9 _) htup)),E4 _⟩
   have O1:=B.ok O hN hI0
   have F1:=F.butP B hI O1
   have L1:=B.env L' hN
   have r1:=B.val hN rx
   show wpAny _ A (do holding [x1] (assign (.Name id p) env (.int i st.toks));do holding [] (assign (.Name l7 p') env x1);pure ()) _ _ { st with heap:=h₃,toks:=st.toks+1 }
   refine wpAny_bind (wpAny_holding (wpAny_assign_Name (gE (v:=.int (i:Int)) L1 O1 h1 h2 h3 h4 U8 λs4 F4 L4=>?_)))
   refine wpAny_bind (wpAny_holding (wpAny_assign_Name (gE L4 F4.ok g1 g2 g3 g4 (F4.val O1 L1 r1) λs5 F5 L5=>wpAny_pure ?_)))
   have keep:∀ {b:Addr}{o:Obj}{vs:Array Value},o.data=.fields vs->h₃.get? b=some o->s5.heap.get? b=some o:=λhd q=>S4.fields F4.ok L4 F5 hd (S4.fields O1 L1 F4 hd q)
   refine hb _ env nm _ _ H' φ' s5 _ _ h6 L5 F5.ok hw λfl ρ3 H3 φ3 f s3 q3 F3 L3 r3=>?_
   have FF:=((F1.trans F4).trans F5).trans F3
   have ei:((i+1:Nat):Int)=(i:Int)+1:=by push_cast;rfl
   have heN:IsEnum s3.heap e it ((i+1:Nat):Int) x1:=by
    exact qz ei (S4.fields F5.ok L5 F3 rfl (keep rfl he3))
   have hiN:s3.heap.IsListIter it pl (i+1):=by
    obtain ⟨o,ho,hc,hd⟩:=hit₃
    exact ⟨o,S4.fields F5.ok L5 F3 hd (keep hd ho),hc,hd⟩
   have hpN:φ3[a]? = some pl:=F3.idx _ _ hp'
   cases fl with
   | next=>obtain rfl:=r3;exact ⟨k0,D9 _,i+1,ρ3,H3,φ3,x1,q3,FF,L3,heN,hiN,hpN⟩
   | ret v =>
    obtain ⟨x,rfl,r⟩:=r3
    exact k (.ret v) _ _ _ _ _ q3 FF L3 ⟨x,rfl,r⟩
  | none =>
   rw [show (Aa.It.lst a).at H' i=none by simp [Aa.It.at,hl,hx]] at hw
   simp only at hw
   have hx':vs'[i]? = none:=by
    rw [List.getElem?_eq_none_iff] at hx ⊢
    exact qz rs.length.symm hx
   refine rO (wpAny_pyNext_enum_end hh he' hit' hpl.isList (by simpa using hx') λh₁ he1 hz=>?_)
   have B:mF (λb=>b=e∨b=it) st { st with heap:=h₁ }:=⟨⟨_,_,rfl⟩,λb o hb q=>he1 b o (λr=>hb (Or.inr r)) q,hz,D3 _⟩
   have O1:=B.ok O hN hI0
   exact wpAny_execs_nil (k .next _ _ _ _ _ hw (F.butP B hI O1) (B.env L' hN) rfl)
set_option tactic.hygienic true in
theorem zS (G:eU X) (hh:A.handled=none) {x y:Nat}{b:List Aa.S}(he:L7 X A C e) (hb:eJ X A C b):iJ X A C (.Bf x y e b):=by
 intro re env nm ρ Q H φ s K EX hc L O h k
 refine Aa.Aa2 hc λid p l7 p' u pt fn e' pp b' p'' e9 Go Af=>?_
 clear hc;subst e9
 simp only [Bool.and_eq_true,beq_iff_eq,Bool.not_eq_true'] at Af
 apply Ah;intro g9 k9
 obtain ⟨⟨⟨⟨⟨⟨h1,h2⟩,h3⟩,h4⟩,⟨⟨g1,g2⟩,g3⟩,g4⟩,h5⟩,h6⟩:=Af
 apply k9
 replace h:=Aa.Aj0 h
 refine wpAny_For (ty1 G (n := "enumerate") (by decide) he h5 Go L O h λv H1 φ1 x1 s1 q F1 r=>?_) (λZ=>rfl)
 split at q
 ·rename_i a
  apply Ah;intro g9 k9
  obtain ⟨n,hw⟩:=q
  obtain ⟨pl,hp,rfl⟩:=Q3 r
  have hlt:a<H1.length:=qz F1.ok.len.symm ((A3 hp).1)
  obtain ⟨l,hl⟩:∃ l,H1[a]? = some l:=⟨_,A8 hlt⟩
  obtain ⟨vs,⟨nn,hpl⟩,rs⟩:=F1.ok.lists _ _ _ hp hl
  apply k9
  refine call_enumerate_1 hpl λh' hE hI hz hk=>?_
  have B:mF (λZ=>False) s1 { s1 with heap:=h' }:=⟨⟨_,_,rfl⟩,λb o Z q=>hk b o q,by show _<=h'.objs.size;refine qz hz ?_;exact E1 _ _,D3 _⟩
  have hN:Au5 s1.heap (λZ=>False):=λZ q=>q.elim
  have O2:=B.ok F1.ok hN (λZ q=>q.elim)
  have L1:=L.fwd O F1
  have F2:=(F1.toS env).butP B (λZ q=>q.elim) O2
  exact wpAny_pyIter_enum hE (Aw6 hh hb (B.env L1 hN) F2 O.room hE hI hp (Nat.succ_ne_self _) (C8 F1.step.size) F1.step.size h1 h2 h3 h4 g1 g2 g3 g4 h6 hw k)
 ·exact q.elim
end
section
variable {X:Cx}{A:Around}{C:Aa.Calls}
theorem Av8 (h:L7 X A C e) (hs:gL X A C es):gL X A C (e::es):=λe' h'=>by
 rcases B0 h' with rfl|h'
 ·exact h
 ·exact hs e' h'
theorem Ah8 (h:gM X A C e) (hs:nH X A C es):nH X A C (e::es):=λe' h'=>by
 rcases B0 h' with rfl|h'
 ·exact h
 ·exact hs e' h'
theorem Y0 (h:L7 X A C e) (hp:Aa.Bx e=true):L7 X A C e/\gM X A C e:=⟨h,Ah6 h hp⟩
mutual
theorem M4 (G:eU X) (hh:A.handled=none) (hu:A.units+106<cLine) (hC:dP X A C):∀ e:Aa.E,L7 X A C e/\gM X A C e
 | .none=>Y0 Bi9 rfl
 | .bool _=>Y0 Bk3 rfl
 | .int _=>Y0 Bx1 rfl
 | .str _=>Y0 Bw0 rfl
 | .var _=>Y0 Bv8 rfl
 | .glob _ _=>Y0 (Bj5 G) rfl
 | .bin _ l r=>Y0 (Bx5 (M4 G hh hu hC l).1 (M4 G hh hu hC r).1) rfl
 | .neg _=>Y0 Bw7 rfl
 | .cmp _ l r=>⟨Bx4 hu (M4 G hh hu hC l).1 (M4 G hh hu hC r).1,Bk9 hu (M4 G hh hu hC l).1 (M4 G hh hu hC r).1⟩
 | .Dk _ _ a b c=>⟨Bk1 hu (M4 G hh hu hC a).1 (M4 G hh hu hC b).1 (M4 G hh hu hC c).1,Av9 hu (M4 G hh hu hC a).1 (M4 G hh hu hC b).1 (M4 G hh hu hC c).1⟩
 | .is e _=>⟨Cm2 (M4 G hh hu hC e).1,Bx8 (M4 G hh hu hC e).1⟩
 | .Az e _=>⟨Av6 (M4 G hh hu hC e).1,Ah7 (M4 G hh hu hC e).1⟩
 | .and es=>⟨Bx6 (eX G hh hu hC es).1,Bl0 (eX G hh hu hC es).2⟩
 | .or es=>⟨Cm1 (eX G hh hu hC es).1,Bx7 (eX G hh hu hC es).2⟩
 | .not e=>⟨Bw5 (M4 G hh hu hC e).1,Bk8 (M4 G hh hu hC e).2⟩
 | .idx o i=>Y0 (Bx2 (M4 G hh hu hC o).1 (M4 G hh hu hC i).1) rfl
 | .slc o l h=>Y0 (Bw1 (M4 G hh hu hC o).1 (M4 G hh hu hC l).1 (M4 G hh hu hC h).1) rfl
 | .Aw o l=>Y0 (Bi7 (M4 G hh hu hC o).1 (M4 G hh hu hC l).1) rfl
 | .Cp o h=>Y0 (Bi8 (M4 G hh hu hC o).1 (M4 G hh hu hC h).1) rfl
 | .call _ es=>Y0 (Bk2 G hC (eX G hh hu hC es).1) rfl
 | .Ae e _=>Y0 (Ah2 G (M4 G hh hu hC e).1) rfl
 | .len e=>Y0 (Bw9 G (M4 G hh hu hC e).1) rfl
 | .toInt e=>Y0 (Av3 G (M4 G hh hu hC e).1) rfl
 | .ord e=>Y0 (Bw4 G (M4 G hh hu hC e).1) rfl
 | .listOf e=>Y0 (Ah1 G (M4 G hh hu hC e).1) rfl
 | .append o e=>Y0 (Ah5 (M4 G hh hu hC o).1 (M4 G hh hu hC e).1) rfl
 | .extend o e=>Y0 (Ah3 (M4 G hh hu hC o).1 (M4 G hh hu hC e).1) rfl
 | .pop o=>Y0 (Bw3 (M4 G hh hu hC o).1) rfl
 | .find o a b=>Y0 (Bj7 (M4 G hh hu hC o).1 (M4 G hh hu hC a).1 (M4 G hh hu hC b).1) rfl
 | .replace o _ _=>Y0 (zR (M4 G hh hu hC o).1) rfl
 | .join o a=>Y0 (Bj3 (M4 G hh hu hC o).1 (M4 G hh hu hC a).1) rfl
 | .split o a=>Y0 (Av4 (M4 G hh hu hC o).1 (M4 G hh hu hC a).1) rfl
 | .lstrip o a=>Y0 (Ah0 (M4 G hh hu hC o).1 (M4 G hh hu hC a).1) rfl
 | .list es=>Y0 (Bj2 (eX G hh hu hC es).1) rfl
 | .tup es=>Y0 (Bv9 (eX G hh hu hC es).1) rfl
 | .comp i6 _ src=>Y0 (Bk0 hh (M4 G hh hu hC i6).1 (M4 G hh hu hC src).1) rfl
theorem eX (G:eU X) (hh:A.handled=none) (hu:A.units+106<cLine) (hC:dP X A C):∀ es:List Aa.E,gL X A C es/\nH X A C es
 | []=>⟨λe h=>(Aa.xL h),λe h=>(Aa.xL h)⟩
 | e::es=>⟨Av8 (M4 G hh hu hC e).1 (eX G hh hu hC es).1,Ah8 (M4 G hh hu hC e).2 (eX G hh hu hC es).2⟩
end
mutual
theorem Am9 (G:eU X) (hh:A.handled=none) (hu:A.units+106<cLine) (hC:dP X A C):∀ st:Aa.S,iJ X A C st
 | .assign _ e=>Ah4 G (M4 G hh hu hC e).1
 | .Bs o i e=>Ag9 (M4 G hh hu hC o).1 (M4 G hh hu hC i).1 (M4 G hh hu hC e).1
 | .expr e=>Bj8 (M4 G hh hu hC e).1
 | .ite c t f=>Bx0 (M4 G hh hu hC c).2 (dN G hh hu hC t) (dN G hh hu hC f)
 | .Dq c b=>Bv7 (M4 G hh hu hC c).2 (dN G hh hu hC b)
 | .forIn _ e b=>Av7 hh (M4 G hh hu hC e).1 (dN G hh hu hC b)
 | .Dc _ e b=>Bj6 G hh (M4 G hh hu hC e).1 (dN G hh hu hC b)
 | .Bf _ _ e b=>zS G hh (M4 G hh hu hC e).1 (dN G hh hu hC b)
 | .ret e=>Bw2 (M4 G hh hu hC e).1
 | .Bm=>zQ
 | .raise _ _=>Av5
theorem dN (G:eU X) (hh:A.handled=none) (hu:A.units+106<cLine) (hC:dP X A C):∀ sts:List Aa.S,eJ X A C sts
 | []=>Bw6
 | st::sts=>Bj9 (Am9 G hh hu hC st) (dN G hh hu hC sts)
end
theorem pT:∀ {names:List Str}{vals:List Value}{i:Nat}{n:Str}{v:Value},names.Nodup->names[i]? = some n->vals[i]? = some v->(names.zip vals).lookup n=some v
 | [],_,_,_,_,_,h,_=>by simp at h
 | _::_,[],_,_,_,_,_,h=>by simp at h
 | a::names,b::vals,0,n,v,_,h1,h2=>by
  simp at h1 h2;subst h1;subst h2;simp
 | a::names,b::vals,i+1,n,v,hd,h1,h2=>by
  simp at h1 h2
  have hd:=List.nodup_cons.mp hd
  have f6:(n==a)=false:=by
   rw [beq_eq_false_iff_ne];rintro rfl
   exact hd.1 (E5 h1)
  exact qz List.zip_cons_cons (qz List.lookup_cons (qz f6 (pT hd.2 h1 h2)))
theorem gW:∀ {names:List Str}{vals:List Value}(l:List (Str×Value)),names.length=vals.length->(∀ (i:Nat) (n:Str) (v:Value),names[i]? = some n->vals[i]? = some v->l.lookup n=some v) ->
  (names.filterMap λn=>(l.lookup n).map (n,·))=names.zip vals
 | [],_=>λZ Z Z=>by simp
 | _::_,[]=>λZ h Z=>by simp at h
 | a::names,b::vals=>λl h hl=>by
  refine qz List.filterMap_cons (qz (hl 0 a b rfl rfl) ?_)
  simp only [Option.map_some,List.zip_cons_cons]
  exact qz (gW l (by simpa using h) λi n v h1 h2=>hl (i+1) n v (by simpa using h1) (by simpa using h2)) rfl
theorem eF {α β γ:Type}{l:List α}(h:l=[]) (b:β) (f:α->β->Sem (ForInStep β)) (K:β->Sem γ):(forIn l b f >>= K)=K b:=by subst h;exact pure_bind b K
theorem bz {name:Str}{ar:List Arg}{vals:List Value}{l:List (Str×Value)}{kd df}(b7:(ar.map (·.arg)).length=vals.length) (hl:l=(ar.map (·.arg)).zip vals)
  (hm:((ar.map (·.arg)).filter λn=>(l.lookup n).isNone)=[]) (hf:(ar.map (·.arg)).filterMap (λn=>(l.lookup n).map λv=>(n,v))=l) :
  bindArgs (docDef name ⟨[],ar,none,[],kd,none,df⟩ body scope pm cd doc) ⟨vals,[]⟩=pure l:=by
 subst hl
 generalize hp:ar.map (·.arg)=ps at *
 unfold bindArgs docDef
 dsimp only
 refine qz hp ?_
 refine (eF rfl _ _ _).trans ?_
 refine (pure_bind (m:=Sem) (none:Option (Array Value)) _).trans ?_
 refine (if_neg ?_).trans ?_
 ·show ¬ (decide (ps.length<vals.length)&&true)=true
  exact qz b7 (qz (decide_eq_false (Nat.lt_irrefl _)) Bool.noConfusion)
 refine (if_neg ?_).trans ?_
 ·show ¬ (!(List.filter (λn=>(List.lookup n (ps.zip vals)).isNone) (List.take (ps.length - (List.drop (0 - ps.length) ([]:List Value)).length) ps)).isEmpty)=true
  refine qz List.drop_nil ?_
  show ¬ (!(List.filter (λn=>(List.lookup n (ps.zip vals)).isNone) (List.take ps.length ps)).isEmpty)=true
  exact qz List.take_length (qz hm Bool.noConfusion)
 refine (eF (show List.zip _ (List.drop (0 - ps.length) ([]:List Value))=[] by exact qz List.drop_nil (qz List.zip_nil_right rfl)) _ _ _).trans ?_
 refine (eF rfl _ _ _).trans ?_
 exact (if_neg Bool.noConfusion).trans (D0 pure (show List.filterMap _ (ps++[])=_ by exact qz (List.append_nil _) hf))
theorem Bm1 {name:Str}{vals:List Value}
  (h1:params.posonlyargs=[]) (h2:params.vararg=none) (h3:params.kwonlyargs=[]) (h4:params.kwarg=none) (b7:params.args.length=vals.length) (m7:(params.args.map (·.arg)).Nodup) :
  bindArgs (docDef name params body scope pm cd doc) ⟨vals,[]⟩=pure ((params.args.map (·.arg)).zip vals):=by
 have hz:∀ (i:Nat) (n:Str) (v:Value),(params.args.map (·.arg))[i]? = some n->vals[i]? = some v->((params.args.map (·.arg)).zip vals).lookup n=some v:=λi n v e1 e2=>pT m7 e1 e2
 have hf:=gW (names:=params.args.map (·.arg)) (vals:=vals) ((params.args.map (·.arg)).zip vals) (by simpa using b7) hz
 have hm:((params.args.map (·.arg)).filter λn=>(((params.args.map (·.arg)).zip vals).lookup n).isNone)=[]:=by
  rw [List.filter_eq_nil_iff]
  intro n hn
  obtain ⟨i,hi⟩:=List.getElem?_of_mem hn
  have:i<vals.length:=by
   have:=(A3 hi).1
   simp at this;exact Aa.S5 (Aa.U1 this (A4 b7))
  refine qz (hz i n _ hi (A8 this)) ?_
  simp
 obtain ⟨po,ar,va,ko,kd,kw,df⟩:=params
 cases (show po=[] from h1)
 cases (show va=none from h2)
 cases (show ko=[] from h3)
 cases (show kw=none from h4)
 exact bz ((E3 _).trans b7) rfl hm hf
theorem lT {kindOf:Str->Option NameKind}:∀ {names:List Str}{vals:List Value}{m:Str->Option Value}{n:Str},n ∉ names->bindL kindOf (names.zip vals) m n=m n
 | [],_=>λZ=>rfl
 | _::_,[]=>λZ=>rfl
 | a::names,b::vals=>λh=>by
  simp only [List.mem_cons,not_or] at h
  refine qz List.zip_cons_cons ?_
  unfold bindL
  refine qz (lT h.2) ?_
  split
  ·exact if_neg h.1
  ·rfl
theorem sF {kindOf:Str->Option NameKind}:∀ {names:List Str}{vals:List Value}{m:Str->Option Value}{i:Nat}{n:Str}{v:Value},names.Nodup->names[i]? = some n->vals[i]? = some v->kindOf n=some .local->bindL kindOf (names.zip vals) m n=some v
 | [],_,_,_=>λZ h Z Z=>by simp at h
 | _::_,[],_,_=>λZ Z h Z=>by simp at h
 | a::names,b::vals,m,0=>λhd h1 h2 hk=>by
  simp at h1 h2;subst h1;subst h2
  rw [List.zip_cons_cons]
  unfold bindL
  refine qz (lT (List.nodup_cons.mp hd).1) ?_;rw [if_pos hk,if_pos rfl]
 | a::names,b::vals,m,i+1=>λhd h1 h2 hk=>by
  simp at h1 h2
  refine qz List.zip_cons_cons ?_
  unfold bindL
  exact sF (List.nodup_cons.mp hd).2 h1 h2 hk
theorem lU {kindOf:Str->Option NameKind}:∀ {names:List Str}{vals:List Value}{m:Str->Option Value}{n:Str},n ∉ names->bindC kindOf (names.zip vals) m n=m n
 | [],_=>λZ=>rfl
 | _::_,[]=>λZ=>rfl
 | a::names,b::vals=>λh=>by
  simp only [List.mem_cons,not_or] at h
  refine qz List.zip_cons_cons ?_
  unfold bindC
  refine qz (lU h.2) ?_
  split
  ·rfl
  ·exact if_neg h.1
theorem sG {kindOf:Str->Option NameKind}:∀ {names:List Str}{vals:List Value}{m:Str->Option Value}{i:Nat}{n:Str}{v:Value},names.Nodup->names[i]? = some n->vals[i]? = some v->kindOf n≠some .local->bindC kindOf (names.zip vals) m n=some v
 | [],_,_,_=>λZ h Z Z=>by simp at h
 | _::_,[],_,_=>λZ Z h Z=>by simp at h
 | a::names,b::vals,m,0=>λhd h1 h2 hk=>by
  simp at h1 h2;subst h1;subst h2
  rw [List.zip_cons_cons]
  unfold bindC
  refine qz (lU (List.nodup_cons.mp hd).1) ?_;rw [if_neg hk,if_pos rfl]
 | a::names,b::vals,m,i+1=>λhd h1 h2 hk=>by
  simp at h1 h2
  refine qz List.zip_cons_cons ?_
  unfold bindC
  exact sG (List.nodup_cons.mp hd).2 h1 h2 hk
theorem Z5:∀ (names:List (Str×NameKind)) (n:Nat) (d5:List (Str×Addr)) (x:Str),((x,NameKind.cell)∈names∨(d5.lookup x).isSome=true)->((cellsFrom n names d5).lookup x).isSome=true
 | []=>λZ Z Z h=>by
  rcases h with h|h
  ·cases h
  ·exact h
 | (a,k)::r=>λn d5 x h=>by
  unfold cellsFrom
  split
  ·rename_i hk
   refine Z5 r _ _ x ?_
   rcases h with h|h
   ·rcases B0 h with h|h
    ·cases h;right;simp
    ·exact Or.inl h
   ·right
    refine qz List.lookup_cons ?_
    split
    ·rfl
    ·exact h
  ·rename_i hk
   refine Z5 r _ _ x ?_
   rcases h with h|h
   ·rcases B0 h with h|h
    ·cases h;simp at hk
    ·exact Or.inl h
   ·exact Or.inr h
theorem Ai3:∀ {l:List Str},Aa.tJ l=true->l.Nodup:=by
 intro l
 induction l with
 | nil=>exact λZ=>List.nodup_nil
 | cons x l ih =>
  exact λh=>by
   simp only [Aa.tJ,Bool.and_eq_true,Bool.not_eq_true'] at h
   exact List.nodup_cons.mpr ⟨by simpa using h.1,ih h.2⟩
theorem zU {M:Model}{A:Around}{E:Value->Shared->Prop}{s:Shared}{scope:Scope}{globals:Addr}{l6:List (Str×Value)}{qual:Str}{func:Option Addr}{code:Value}{builtins:Addr}{Q:Env->Shared->Prop}
  (hk:scope.kind=.function)
  (d9:∀ x∈l6,scope.names.lookup x.1=some .local∨(scope.names.lookup x.1=some .cell/\((cellsFrom (s.heap.objs.size+1) scope.names []).lookup x.1).isSome=true))
  (hQ:∀ env,env=newEnv scope s.heap.objs.size globals (cellsFrom (s.heap.objs.size+1) scope.names []) qual func code none builtins ->
   ∀ s',InCallC s env.locals (bindL env.kindOf l6 λZ=>none) env.cells (bindC env.kindOf l6 λZ=>none) s'->s.toks<=s'.toks->(∀ n v r,l6=(n,v)::r->scope.names.lookup n=some .local->s.toks<s'.toks)->Q env s') :
  wpAny M A (newFunctionEnv scope globals [] l6 qual func code none builtins) Q E s:=by
 cases l6 with
 | nil=>exact free (wpAny_newFunctionEnv_cells hk d9 λenv he s' W ht=>hQ env he s' W ht λZ Z Z e=>Aa.xE e)
 | cons b r =>
  obtain ⟨n,v⟩:=b
  by_cases hl:scope.names.lookup n=some .local
  ·refine free ?_
   simp only [newFunctionEnv,Option.isSome_none,Bool.false_eq_true,if_false]
   refine wpAny_bind (wpAny_alloc ?_)
   refine wpAny_bind (wpAny_layCells _ (λname kind cells=>by cases hkc:kind==NameKind.cell<;>simp [hkc]) _ _ _ _ ?_)
   have ok:=cellsFrom_ok scope.names (s.heap.push { cls:=.type "frame",data:=.dict #[] }) (s.heap.objs.size+1) [] ⟨λZ Z hm=>(Aa.xL hm),List.Pairwise.nil⟩ (qz (Heap.size_push _ _) (D3 _))
   rw [Heap.size_push] at ok
   refine qz (show ({ s with heap:=s.heap.push { cls:=.type "frame",data:=.dict #[] } }:Shared).heap.objs.size=s.heap.objs.size+1 from Heap.size_push ..) ?_
   refine qz (List.forIn_cons _ _ _ _) ?_
   generalize hE:newEnv scope s.heap.objs.size globals (cellsFrom (s.heap.objs.size+1) scope.names []) qual func code none builtins=env at hQ
   have hEk:env.scope=scope:=by refine qz hE.symm ?_;rfl
   have hEl:env.locals=s.heap.objs.size:=by refine qz hE.symm ?_;rfl
   have hEc:env.cells=cellsFrom (s.heap.objs.size+1) scope.names []:=by refine qz hE.symm ?_;rfl
   have x:InCallC s env.locals (λZ=>none) env.cells (λZ=>none) { s with heap:=pushCells (s.heap.push { cls:=.type "frame",data:=.dict #[] }) scope.names }:=by
    refine qz hEl (qz hEc ?_)
    exact ⟨⟨⟨_,_,rfl⟩,(Heap.Ns.new s.heap (.type "frame")).keeps (pushCells_keeps _ _),λb o e=>pushCells_keeps _ _ b o (Heap.get?_push_of_some _ e),D3 _⟩,
     λn c hc=>(ok.empty n c (mem_of_lookup hc)).1,ok.apart,λn c hm=>(ok.empty n c hm).2⟩
   have hkl:env.kindOf n=some .local:=by show env.scope.names.lookup n=_;exact qz hEk hl
   show wpAny M A ((do storeName (newEnv scope s.heap.objs.size globals (cellsFrom (s.heap.objs.size+1) scope.names []) qual func code none builtins) n v;pure (ForInStep.yield PUnit.unit)) >>= _ >>= _) _ _ _
   refine qz hE ?_
   refine wpAny_bind (wpAny_bind (wpAny_bind (wpAny_storeName_local hkl x.toInCall.ns (λh' hn' hs'=>wpAny_pure ?_) (by refine qz hEk (qz hk ?_);rfl))))
   have x':InCallC s env.locals (λy=>if y=n then some v else none) env.cells (λZ=>none) { s with heap:=h',toks:=s.toks+1 } :=
    ⟨⟨⟨h',_,rfl⟩,hn',λb o e=>hs'.extBut b o (D1 (D6 (Heap.lt_size e) x.toInCall.fresh)) (x.toInCall.keep b o e),x.toInCall.fresh⟩,
     λk c hc=>(x.cell k c hc).sameBut hs' (Nat.ne_of_gt (x.above k c (mem_of_lookup hc))),x.apart,x.above⟩
   refine free (wpAny_bindParams (s₀:=s) (env:=env) _ (λZ Z Z=>by refine qz hE.symm ?_;rfl) (qz hEk hk) r _ _ _ _ x' (λy hy=>?_) λs'' x'' ht=>wpAny_pure λht'=>?_)
   ·have:=d9 y (C5 _ hy)
    show env.scope.names.lookup y.1=_∨(env.scope.names.lookup y.1=_/\_)
    exact qz hEk (qz hEc this)
   ·have hq:=hQ env rfl s'' (by unfold bindL bindC;exact qz (if_pos hkl) (qz (if_pos hkl) x'')) ht' λZ Z Z Z Z=>ht
    rw [<- hE] at hq
    exact hq
  ·exact free (wpAny_newFunctionEnv_cells hk d9 λenv he s' W ht=>hQ env he s' W ht λn' v' r' e hl'=>by cases e;exact absurd hl' hl)
noncomputable def M5 (X:Cx) (ls:List Nat):Cx:={ X with gl:={ X.gl with lits:=ls } }
theorem eU.lits (G:eU X) (ls:List Nat):eU (M5 X ls):=⟨G.g,G.b,G.nolimit,G.globs,G.fns,G.bf,G.bt⟩
structure In (X:Cx) (fn:Aa.Fn) (φ:List Addr) (H:Aa.Heap) (vs:List V) (scope:Scope) (s:Shared) (env:Env) (s9:Shared):Prop where
 L:L9 (M5 X fn.lits) φ (fn.names.map Str.ofString) env (Aa.frame fn vs) s9
 F:O8 X.h₀ φ s φ H s9
 keep:∀ b o,s.heap.get? b=some o->s9.heap.get? b=some o
 own:∀ b,b<s.heap.objs.size->¬ Own env b
 fr:env.frame=some env.locals
 new:s.heap.objs.size<=env.locals
 sc:env.scope=scope
theorem In.fwd {env:Env}(I:In X fn φ H vs scope s env s9) (F2:S4 X.h₀ env φ s9 φ' H' s'):O8 X.h₀ φ s φ' H' s':=by
 apply Ah;intro g9 k9
 obtain ⟨⟨h2,t2,e2⟩,k2,z2,w2,⟨ψ,g2,m2⟩,o2⟩:=F2
 obtain ⟨⟨⟨h1,t1,e1⟩,_,z1,w1⟩,_,_⟩:=I.F
 apply k9
 exact ⟨⟨⟨h2,t2,qz e2 (qz e1 rfl)⟩,λb o hb e=>k2 b o hb (I.own b (Heap.lt_size e)) (I.keep b o e),D2 z1 z2,D2 w1 w2⟩,⟨ψ,g2,λa ha=>D2 z1 (m2 a ha)⟩,o2⟩
theorem gG (G:eU X) (hd:A.depth<recursionLimit) {f:String}{fa:Addr}{fn:Aa.Fn}{o:Obj}{params:Arguments}{body bodyC:List Stmt}{scope:Scope}{pm cd doc:Value}{vs:List V}{xs:List Value}{H:Aa.Heap}{φ:List Addr}{s:Shared}{Kr:Result->Shared->Prop}
  (ho:X.h₀.get? fa=some o) (hdt:o.data=.func (docDef (Str.ofString f) params body scope pm cd doc)) (o9:X.h₀.CodeRec cd (Str.ofString f)) (n3:Aa.iO X.gl fn params bodyC scope=true) (b7:vs.length=fn.params)
  (O:Ok X.h₀ φ H s.heap) (rs:H8 X.h₀ φ s.heap vs xs) (j5:X.gl.pos=true->0<s.toks∨fn.bump=true) (i9:∀ j∈fn.lits,∀ x,xs[j]? = some x->∃ y t,x=.str y t/\0<t/\t<s.toks)
  (run:∀ env s9,In X fn φ H vs scope s env s9->Aa.S8 (M5 X fn.lits).gl env.scope.names (fn.names.map Str.ofString) fn.body bodyC=true ->
   wpAny (S9 X) (A.deeper env) (execs body env) (λfl s'=>Kr (.ok (.ret (match fl with | .ret v=>v | _=>.none))) s') (λe s'=>wpAny (S9 X) (A.deeper env) (leaving env e) (λZ s''=>Kr (.error e) s'') (λe' s''=>Kr (.error e') s'') s') s9) :
  codeAny (S9 X) A (.call (.ref fa) ⟨xs,[]⟩) Kr s:=by
 unfold Aa.iO at n3
 simp only [Bool.and_eq_true,List.isEmpty_iff,Option.isNone_iff_eq_none,decide_eq_true_eq,beq_iff_eq,List.all_eq_true] at n3
 apply Ah;intro g9 k9
 obtain ⟨⟨⟨⟨⟨⟨⟨⟨⟨⟨⟨⟨⟨c1,c2⟩,c3⟩,c4⟩,c5⟩,c6⟩,c7⟩,c8⟩,c9⟩,c10⟩,c11⟩,c12⟩,c14⟩,c13⟩:=n3
 apply k9
 unfold Aa.Bg4 at c1
 simp only [Bool.and_eq_true,beq_iff_eq,Bool.not_eq_true',List.all_eq_true,bne_iff_ne] at c1
 obtain ⟨⟨⟨d1,d2⟩,d3⟩,d4⟩:=c1
 have m7:=Ai3 c2
 have hxl:xs.length=fn.params:=qz rs.length.symm (qz b7 rfl)
 have hpl:params.args.length=xs.length:=by
  have:=D0 List.length c10
  simp at this
  lia
 have hndA:(params.args.map (·.arg)).Nodup:=by
  exact qz c10 (qz List.map_take (m7.sublist (List.take_sublist _ _)))
 have hbind:=Bm1 (name:=Str.ofString f) (body:=body) (scope:=scope) (pm:=pm) (cd:=cd) (doc:=doc) c4 c5 c6 c7 hpl hndA
 have ho':=O.base _ _ ho
 have hcd':s.heap.CodeRec cd (Str.ofString f):=o9.keeps O.base
 have hlim':s.heap.NoLimit:=G.nolimit.keeps O.base
 refine codeAny_call_function hd ho' hdt d3 d2 rfl hcd' ?_
 refine qz hbind ?_
 have j3:=O.room
 have hkindA:∀ x∈(params.args.map (·.arg)).zip xs,scope.names.lookup x.1=some .local∨(scope.names.lookup x.1=some .cell/\((cellsFrom (s.heap.objs.size+1) scope.names []).lookup x.1).isSome=true):=λx hx=>by
  have hx1:=(List.of_mem_zip (a:=x.1) (b:=x.2) hx).1
  obtain ⟨ar,har,e⟩:=List.mem_map.mp hx1
  have:=c11 ar har
  simp only [Bool.or_eq_true,beq_iff_eq] at this
  refine qz e.symm ?_
  rcases this with q|q
  ·exact Or.inl q
  ·exact Or.inr ⟨q,Z5 _ _ _ _ (Or.inl (mem_of_lookup q))⟩
 refine wpAny_pure (zU d1 hkindA λenv he s9 W htk hbump=>?_)
 have hpos1:X.gl.pos=true->0<s9.toks:=λhp=>by
  rcases j5 hp with q|e2
  ·exact D6 q htk
  ·rw [e2] at c14
   simp only [Bool.not_true,Bool.false_or] at c14
   unfold Aa.xY at c14
   cases ha:params.args with
   | nil=>rw [ha] at c14;cases c14
   | cons a0 r0 =>
    rw [ha] at c14
    have c14:scope.names.lookup a0.arg=some .local:=by simpa using c14
    cases hx:xs with
    | nil=>rw [hx,ha] at hpl;simp at hpl
    | cons x0 xr =>
     exact D7 (D8 _) (hbump a0.arg x0 ((r0.map (·.arg)).zip xr) (by refine qz ha (qz hx ?_);rfl) c14)
 refine ⟨hlim'.keeps W.toInCall.keep,codeAny_func ?_⟩
 have eL:env.locals=s.heap.objs.size:=by refine qz he ?_;rfl
 have eS:env.scope=scope:=by refine qz he ?_;rfl
 have eC:env.cells=cellsFrom (s.heap.objs.size+1) scope.names []:=by refine qz he ?_;rfl
 have eG:env.globals=mainGlobals:=by refine qz he ?_;rfl
 have eB:env.builtins=builtinsNs:=by refine qz he ?_;rfl
 have hz1:s.heap.objs.size<=s9.heap.objs.size:=E2 (by have:=W.toInCall.ns.lt;rw [eL] at this;exact this)
 obtain ⟨h1,tk1,e1⟩:=W.toInCall.same
 have F1:O8 X.h₀ φ s φ H s9:=by
  exact qz e1 (O8.ext O (λb o e=>by have:=W.toInCall.keep b o e;rwa [e1] at this) (by rw [e1] at hz1;exact hz1) (by rw [e1] at htk;exact htk))
 have rs1:=F1.vals O rs
 have Gf:∀ x,env.kindOf x=scope.names.lookup x:=λx=>by show env.scope.names.lookup x=_;exact qz eS rfl
 have argAt:∀ (i:Nat) (x:Str),(fn.names.map Str.ofString)[i]? = some x->i<fn.params->(params.args.map (·.arg))[i]? = some x:=λi x hx hi=>by
  exact qz c10 (qz List.map_take (qz List.getElem?_take (qz (if_pos hi) hx)))
 have Fl:∀ i,i<fn.params->∃ v,vs[i]? = some v/\((Aa.frame fn vs)[i]?).getD none=some v:=λi hi=>by
  have d7:i<vs.length:=qz b7 hi
  refine ⟨vs[i],A8 d7,?_⟩
  unfold Aa.frame
  refine qz (List.getElem?_append_left (by simpa using d7)) ?_
  simp [d7]
 have Eh:∀ (i:Nat) (x:Str),(fn.names.map Str.ofString)[i]? = some x->¬ i<fn.params->((Aa.frame fn vs)[i]?).getD none=none:=λi x hx hi=>by
  unfold Aa.frame
  refine qz (List.getElem?_append_right (by rw [E3,b7];exact Nat.le_of_not_lt hi)) ?_
  refine qz List.getElem?_replicate ?_
  split<;>rfl
 have L1:L9 (M5 X fn.lits) φ (fn.names.map Str.ofString) env (Aa.frame fn vs) s9:=by
  refine ⟨by refine qz eS ?_;exact d1,eG,eB,?_,m7,hpos1,⟨_,W.toInCall.ns,λi x hx hk=>?_⟩,λi x hx hk=>?_,?_,λx c hc=>?_,λx c hc=>⟨_,W.cell x c hc⟩,λx y c hx hy=>?_⟩
  ·unfold Aa.frame;simp;lia
  ·by_cases hi:i<fn.params
   ·apply Ah;intro g9 k9
    obtain ⟨v,hv,o7⟩:=Fl i hi
    obtain ⟨y,hy,ry⟩:=rs1.get hv
    apply k9
    have hb:=sF (kindOf:=env.kindOf) (m:=λZ=>none) hndA (argAt i x hx hi) hy hk
    refine qz o7 (qz hb ?_)
    exact ⟨⟨y,rfl,ry⟩,λhil z hz=>by
     cases hz
     obtain ⟨l,t,e,p1,p2⟩:=i9 i hil y hy
     exact ⟨l,t,e,p1,D6 p2 htk⟩⟩
   ·refine qz (Eh i x hx hi) ?_
    refine ⟨trivial,λhil=>?_⟩
    exact absurd (c12 i hil) hi
  ·have hk':env.kindOf x=some .cell:=by
    rcases hk with hk|hk
    ·exact hk
    ·rw [Gf] at hk
     exact absurd rfl (d4 _ (mem_of_lookup hk))
   have hcm:(x,NameKind.cell)∈scope.names:=by rw [Gf] at hk';exact mem_of_lookup hk'
   obtain ⟨c,hc⟩:=Option.isSome_iff_exists.mp (Z5 scope.names (s.heap.objs.size+1) [] x (Or.inl hcm))
   rw [<- eC] at hc
   refine ⟨c,_,hc,W.cell x c hc,?_⟩
   by_cases hi:i<fn.params
   ·apply Ah;intro g9 k9
    obtain ⟨v,hv,o7⟩:=Fl i hi
    obtain ⟨y,hy,ry⟩:=rs1.get hv
    apply k9
    have hb:=sG (kindOf:=env.kindOf) (m:=λZ=>none) hndA (argAt i x hx hi) hy (by refine qz hk' ?_;simp)
    refine qz o7 (qz hb ?_)
    exact ⟨⟨y,rfl,ry⟩,λhil z hz=>by
     cases hz
     obtain ⟨l,t,e,p1,p2⟩:=i9 i hil y hy
     exact ⟨l,t,e,p1,D6 p2 htk⟩⟩
   ·refine qz (Eh i x hx hi) ?_
    refine ⟨trivial,λhil=>?_⟩
    exact absurd (c12 i hil) hi
  ·exact qz eL j3
  ·have:=W.above x c (mem_of_lookup hc)
   rw [eL] at this
   exact D2 j3 (E2 this)
  ·exact name_of_addr W.apart (mem_of_lookup hx) (mem_of_lookup hy)
 refine run env s9 ⟨L1,F1,W.toInCall.keep,λb hb hown=>?_,by refine qz he ?_;rfl,by refine qz eL ?_;exact D3 _,eS⟩ (qz eS c13)
 rcases hown with rfl|⟨x,hx⟩
 ·rw [eL] at hb;exact Nat.lt_irrefl _ hb
 ·have:=W.above x b (mem_of_lookup hx)
  rw [eL] at this
  exact absurd hb (Nat.not_lt.mpr (E2 this))
theorem uJ:∀ (n:Nat) (X:Cx) (A:Around),eU X->A.handled=none->A.depth+n<=recursionLimit->A.units+3 * n+106<cLine->dP X A (Aa.Ac X.P n):=by
 intro n
 induction n with
 | zero =>
  exact λX A G hh hd hu=>λf ls fa vs Q H φ s xs K EX hls hm hC=>by
   exact B4 hC
 | succ n ih =>
  exact λX A G hh hd hu=>λf ls fa vs Q H φ s xs K EX hls hm hC O rs j5 i9 k=>by
   apply Ah;intro g9 k9
   obtain ⟨fn,fa',o,params,body,scope,pm,cd,doc,hP,hfl,hm',ho,hdt,o9,n3⟩:=G.fns f ls hls
   apply k9
   rw [hm] at hm';cases hm'
   replace hC:(match X.P f with | some fn=>_ | none=>_):=hC
   rw [hP] at hC
   obtain ⟨b7,hw⟩:=hC
   refine wpAny_call (gG G (D6 (C9 (Nat.succ_pos n)) hd) ho hdt o9 n3 b7 O rs (λhp=>(j5 hp).imp id λ⟨fn',e1,e2⟩=>by rw [hP] at e1;cases e1;exact e2) (λj hj=>i9 j (hfl▸hj)) λenv s9 I c13=>?_)
   have Ex:=ih (M5 X fn.lits) (A.deeper env) (G.lits _) hh (by show A.depth+1+n<=_;exact qz (B5 _ _ _) hd) (by show A.units+3+3 * n+106<_;exact qz (C2 A.units 3 _) (qz (Nat.add_comm 3 _) hu))
   refine dN (X:=M5 X fn.lits) (A:=A.deeper env) (C:=Aa.Ac X.P n) (G.lits _) hh (D7 (C4 (A6 (A7 3 (3 * n)) _) _) hu) Ex fn.body body env _ _ _ H φ s9 _ _ c13 I.L I.F.ok hw λfl ρ' H' φ' ff s' q F2 L2 r=>?_
   have FF:=I.fwd F2
   cases fl with
   | next=>obtain rfl:=r;exact k _ _ _ _ _ q FF (by rfl)
   | ret v =>
    obtain ⟨x,rfl,rx⟩:=r
    exact k _ _ _ _ _ q FF rx
end
abbrev Cz (fr:List Env):List Addr:=fr.filterMap (·.frame)
noncomputable def T3 (h₀:Heap) (fr:List Env) (h:Heap):Prop:=∀ v∈fr,v.scope.kind=.function/\v.frame=some v.locals/\h₀.objs.size<=v.locals/\∃ m,h.Ns v.locals m
theorem T3.mem (hl:T3 h₀ fr h) (hb:b∈Cz fr):h₀.objs.size<=b/\∃ m,h.Ns b m:=by
 obtain ⟨v,hv,e⟩:=List.mem_filterMap.mp hb
 obtain ⟨_,e2,h3,h4⟩:=hl v hv
 rw [e2] at e;cases e
 exact ⟨h3,h4⟩
theorem T3.funs:∀ {fr:List Env},T3 h₀ fr h->h.FunFrames h₀ fr:=by
 intro fr
 induction fr with
 | nil=>exact λZ=>trivial
 | cons v fr ih =>
  exact λhl=>by
   obtain ⟨hk,hf,hn,m,i7⟩:=hl v (.head _)
   exact Heap.FunFrames.cons (by refine qz hk ?_;decide) hf i7 (Heap.get?_none_of_le hn) (ih λu hu=>hl u (.tail _ hu))
theorem T3.not (hl:T3 h₀ fr h) (ho:h.get? b=some o) (hd:∀ es n,o.data≠.dict es n):b ∉ Cz fr:=λhb=>by
 obtain ⟨_,m,o',es,ep,ho',hd',_⟩:=hl.mem hb
 rw [ho] at ho';cases ho'
 exact hd es ep hd'
theorem T3.tail (hl:T3 h₀ (v::fr) h):T3 h₀ fr h:=λu hu=>hl u (.tail _ hu)
noncomputable def gR (C:Addr) (g h:Heap) (e:Addr) (fl:Value):Prop:=∃ oe vs T oT ts,h.get? e=some oe/\oe.cls=.ref C/\oe.data=.fields vs/\g.get? e=none/\vs[1]? = some (.ref T)/\g.get? T=none/\T≠e/\h.get? T=some oT/\oT.data=.fields ts/\ts[3]? = some fl
noncomputable def Exc (C:Addr) (g h:Heap) (e:Addr):Prop:=gR C g h e .none∨∃ oe vs,h.get? e=some oe/\oe.cls=.ref C/\oe.data=.fields vs/\g.get? e=none/\vs[1]? = some .none
noncomputable def Sub (g h:Heap):Prop:=∀ b o,g.get? b=some o->∃ o',h.get? b=some o'
theorem Sub.none (x:Sub g h) (hb:h.get? b=none):g.get? b=none:=by
 cases e:g.get? b with
 | none=>rfl
 | some o=>obtain ⟨o',e'⟩:=x b o e;rw [hb] at e';cases e'
theorem Sub.trans (x:Sub g h) (y:Sub h k):Sub g k:=λb o e=>let ⟨_,e'⟩:=x b o e;y b _ e'
theorem gR.sub (x:gR C g h e fl) (s:Sub g' g):gR C g' h e fl:=by
 apply Ah;intro g9 k9
 obtain ⟨oe,vs,T,oT,ts,a1,a2,a3,a4,a5,a6,a7⟩:=x
 apply k9
 exact ⟨oe,vs,T,oT,ts,a1,a2,a3,s.none a4,a5,s.none a6,a7⟩
theorem Exc.sub (x:Exc C g h e) (s:Sub g' g):Exc C g' h e:=by
 rcases x with x|⟨oe,vs,a1,a2,a3,a4,a5⟩
 ·exact Or.inl (x.sub s)
 ·exact Or.inr ⟨oe,vs,a1,a2,a3,s.none a4,a5⟩
structure bQ (F:List Addr) (g h h':Heap):Prop where
 Dw:∀ b o o',g.get? b=some o'->b ∉ F->h.get? b=some o->h'.get? b=some o
 Ci:∀ b o,b ∉ F->(∀ vs,o.data≠.fields vs)->h.get? b=some o->h'.get? b=some o
 slot:∀ b o,b∈F->(∀ vs,o.data≠.fields vs)->h.get? b=some o->∃ sl,h'.get? b=some { o with slots:=sl }
theorem bQ.ns (N:bQ F g h h') {m:Str->Option Value}(x:h.Ns a m):h'.Ns a m:=by
 obtain ⟨o,es,ep,ho,hd,q⟩:=x
 by_cases ha:a∈F
 ·obtain ⟨sl,e⟩:=N.slot a o ha (λvs e=>by rw [hd] at e;cases e) ho
  exact ⟨_,es,ep,e,hd,q⟩
 ·exact ⟨o,es,ep,N.Ci a o ha (λvs e=>by rw [hd] at e;cases e) ho,hd,q⟩
theorem bQ.trans (x:bQ F g h k) (y:bQ [] g k l):bQ F g h l :=
 ⟨λb o o' hg hb e=>y.Dw b o o' hg (List.not_mem_nil) (x.Dw b o o' hg hb e),λb o hb hd e=>y.Ci b o (List.not_mem_nil) hd (x.Ci b o hb hd e),λb o hb hd e=>by
  obtain ⟨sl,e1⟩:=x.slot b o hb hd e
  exact ⟨sl,y.Ci b _ (List.not_mem_nil) hd e1⟩⟩
section
variable {M:Model}{A:Around}{E:Value->Shared->Prop}{s:Shared}
theorem xM {env:Env}{head:Value}{Q:Unit->Shared->Prop}
  (o7:A.frames=some (env::outer)) (hl:s.heap.FunFrames h₀ (env::outer)) (hf:env.frame=some L) (he:s.heap.get? e=some oe) (hc:oe.cls=.ref C) (hd:oe.data=.fields vs) (j8:1<vs.size) (o8:g.get? e=none) (i8:Sub g s.heap)
  (h:∀ h',bQ (Cz (env::outer)) g s.heap h'->gR C g h' e (rawInt L)->Q () { s with heap:=h' }) :
  wpAny M A (do let a <- frameOf env;let pl <- entryPlaceOf L hadNext;let b <- EntryCells.newEntry head a .none (rawInt L) .none pl;setField (.ref e) 1 b) Q E s:=by
 have hene:e ∉ (env::outer).filterMap (·.frame):=λhm=>by
  obtain ⟨_,o,ho,hnf⟩:=hl.mem hm
  rw [he] at ho;injection ho with ho;subst ho;exact hnf vs hd
 refine wpAny_bind (wpAny_frameOf_fun o7 hl hf λh₁ hs0=>?_)
 refine wpAny_bind (wpAny_entryPlaceOf λpl hpl=>?_)
 unfold EntryCells.newEntry newFields
 refine wpAny_bind (wpAny_newObj_type ?_ (hpl.sizeOk5 _ _ _ _ _))
 have he1:h₁.get? e=some oe:=(hs0.2.1 e hene).trans he
 have he4:=Heap.get?_push_of_some (h:=h₁) { cls:=.type "traceback",dict:=none,data:=.fields ([head,.ref L,.none,rawInt L,.none]++(if pl.isEmpty then List.replicate 6 Value.none else pl)).toArray } he1
 refine wpAny_setField he4 hd j8 (h _ ?_ ?_)
 all_goals
  have hTe:h₁.objs.size≠e:=Nat.ne_of_gt (Heap.lt_size he1)
  have hd4:=Obj.data_mapFields hd (·.setIfInBounds 1 (Value.ref h₁.objs.size))
  have he3:=Heap.get?_update_self (Obj.mapFields (·.setIfInBounds 1 (Value.ref h₁.objs.size))) he4 (Obj.isFreed_of_fields hd4)
  have hT3:=(Heap.get?_update_other (h₁.push { cls:=.type "traceback",dict:=none,data:=.fields ([head,.ref L,.none,rawInt L,.none]++(if pl.isEmpty then List.replicate 6 Value.none else pl)).toArray })
   (Obj.mapFields (·.setIfInBounds 1 (Value.ref h₁.objs.size))) (Ne.symm hTe)).trans (Heap.get?_push_size h₁ rfl)
  have keep:∀ b o,b≠e->h₁.get? b=some o ->
    ((h₁.push { cls:=.type "traceback",dict:=none,data:=.fields ([head,.ref L,.none,rawInt L,.none]++(if pl.isEmpty then List.replicate 6 Value.none else pl)).toArray }).update e (Obj.mapFields (·.setIfInBounds 1 (Value.ref h₁.objs.size)))).get? b=some o :=
   λb o hbe hb=>by
    exact qz (Heap.get?_update_other _ _ (Ne.symm hbe)) (Heap.get?_push_of_some _ hb)
 ·refine ⟨λb o o' hg hb Ba=>keep b o (λq=>by rw [q,o8] at hg;cases hg) ((hs0.2.1 b hb).trans Ba),λb o hb hnf Ba=>keep b o (λq=>?_) ((hs0.2.1 b hb).trans Ba),λb o hb Z Ba=>?_⟩
  ·rw [q,he] at Ba;injection Ba with Ba;subst Ba;exact hnf vs hd
  ·obtain ⟨sl,hsl⟩:=hs0.2.2 b o Ba
   exact ⟨sl,keep b _ (λq=>hene (q▸hb)) hsl⟩
 ·have hTg:g.get? h₁.objs.size=none:=by
   cases q:g.get? h₁.objs.size with
   | none=>rfl
   | some o =>
    obtain ⟨o',e'⟩:=i8 _ o q
    have:=Heap.lt_size e'
    rw [hs0.1] at this
    exact absurd this (Nat.lt_irrefl _)
  exact ⟨_,_,h₁.objs.size,_,_,he3,(Obj.cls_mapFields _ _).trans hc,hd4,o8,by simp [j8],hTg,hTe,hT3,rfl,by first|(simp;done)|(rcases hpl with rfl|⟨_,_,_,_,_,_,_,rfl⟩<;>simp)⟩
theorem Ao3 {env:Env}{Q:Unit->Shared->Prop}
  (o7:A.frames=some (env::outer)) (hl:s.heap.FunFrames h₀ (env::outer)) (hf:env.frame=some L) (hx:Exc C g s.heap e) (i8:Sub g s.heap)
  (h:∀ h',bQ (Cz (env::outer)) g s.heap h'->gR C g h' e (rawInt L)->Q () { s with heap:=h' }):wpAny M A (noteFrame (.ref e) env) Q E s:=by
 unfold noteFrame
 simp only [hf]
 rcases hx with ⟨oe,vs,T,oT,ts,he,hc,hd,o8,h1,hgT,hTe,hT,hdT,h3⟩|⟨oe,vs,he,hc,hd,o8,h1⟩
 ·refine wpAny_bind (wpAny_field he hd h1 ?_)
  refine qz (if_pos (show (Value.ref T != Value.none)=true from by simp)) ?_
  refine wpAny_bind (wpAny_field hT hdT h3 ?_)
  refine qz (if_neg (show ¬ ((Value.none==rawInt L)=true) from by simp [rawInt])) ?_
  refine wpAny_bind (wpAny_setField hT hdT (Array.getElem?_eq_some_iff.mp h3).1 ?_)
  have other:∀ b,b≠T->(s.heap.update T (Obj.mapFields (·.setIfInBounds 3 Value.none))).get? b=s.heap.get? b:=λb hb=>Heap.get?_update_other _ _ (Ne.symm hb)
  have De:∀ b o,s.heap.get? b=some o->(∀ vs,o.data≠.fields vs)->b≠T:=λb o hb hnf q=>by
   rw [q,hT] at hb;injection hb with hb;subst hb;exact hnf ts hdT
  refine xM (g:=g) o7 (hl.of_keeps λb o hb hnf=>⟨o,(other b (De b o hb hnf)).trans hb,rfl⟩) hf ((other e (Ne.symm hTe)).trans he) hc hd (Array.getElem?_eq_some_iff.mp h1).1 o8 ?_ λh' N x=>h h' ⟨λb o o' hg hb Ba=>N.Dw b o o' hg hb ((other b λq=>by rw [q,hgT] at hg;cases hg).trans Ba),λb o hb hnf Ba=>N.Ci b o hb hnf ((other b (De b o Ba hnf)).trans Ba),λb o hb hnf Ba=>N.slot b o hb hnf ((other b (De b o Ba hnf)).trans Ba)⟩ x
  exact λb o Ba=>by
   obtain ⟨o',e'⟩:=i8 b o Ba
   exact ⟨o',(other b λq=>by rw [q,hgT] at Ba;cases Ba).trans e'⟩
 ·refine wpAny_bind (wpAny_field he hd h1 ?_)
  exact qz (if_neg (by decide)) (xM (g:=g) o7 hl hf he hc hd (Array.getElem?_eq_some_iff.mp h1).1 o8 i8 h)
theorem kR {Q:Unit->Shared->Prop}(hx:gR C g s.heap e fl) (h:∀ h',bQ [] g s.heap h'->gR C g h' e .none->Q () { s with heap:=h' }):wpAny M A (setFlight (.ref e) none) Q E s:=by
 apply Ah;intro g9 k9
 obtain ⟨oe,vs,T,oT,ts,he,hc,hd,o8,h1,hgT,hTe,hT,hdT,h3⟩:=hx
 apply k9
 have hsz3:3<ts.size:=(Array.getElem?_eq_some_iff.mp h3).1
 have other:∀ b,b≠T->(s.heap.update T (Obj.mapFields (·.setIfInBounds 3 ((none:Option Addr).elim Value.none λf=>rawInt f)))).get? b=s.heap.get? b :=
  λb hb=>Heap.get?_update_other _ _ (Ne.symm hb)
 unfold setFlight
 refine wpAny_bind (wpAny_field he hd h1 ?_)
 refine qz (if_pos (show (Value.ref T != Value.none)=true from by simp)) ?_
 refine wpAny_setField hT hdT hsz3 (h _ ⟨λb o o' hg Z Ba=>(other b λq=>by rw [q,hgT] at hg;cases hg).trans Ba,λb o Z hnf Ba=>(other b λq=>?_).trans Ba,λb o hb=>(Aa.xL hb)⟩ ?_)
 ·rw [q,hT] at Ba;injection Ba with Ba;subst Ba;exact hnf ts hdT
 ·exact ⟨oe,vs,T,_,_,(other e (Ne.symm hTe)).trans he,hc,hd,o8,h1,hgT,hTe,Heap.get?_update_self _ hT (Obj.isFreed_of_fields (Obj.data_mapFields hdT _)),Obj.data_mapFields hdT _,by simp [hsz3]⟩
theorem Ai4 {env:Env}{Q:Unit->Shared->Prop}
  (o7:A.frames=some (env::outer)) (hl:s.heap.FunFrames h₀ (env::outer)) (hf:env.frame=some L) (hx:Exc C g s.heap e) (i8:Sub g s.heap)
  (h:∀ h',bQ (Cz (env::outer)) g s.heap h'->gR C g h' e .none->Q () { s with heap:=h' }):wpAny M A (leaving env (.ref e)) Q E s:=by
 unfold leaving
 exact wpAny_bind (Ao3 o7 hl hf hx i8 λh1 N1 x1=>kR (s:={ s with heap:=h1 }) x1 λh2 N2 x2=>h h2 (N1.trans N2) x2)
end
theorem Ok.noted (K:Ok h₀ φ H h) (N:bQ (Cz fr) g h h') (hl:T3 h₀ fr h) (hb:Sub h₀ g) (hr:h₀.objs.size<=h'.objs.size):Ok h₀ φ H h':=by
 have Bu:∀ a o,T6 o->h.get? a=some o->h'.get? a=some o:=λa o ⟨_,items,n,hd⟩ e=>N.Ci a o (hl.not e λes n q=>by rw [hd] at q;cases q) (λvs q=>by rw [hd] at q;cases q) e
 refine ⟨λb o e=>?_,K.len,K.nodup,K.above,K.small,hr,λi a l hi hl'=>?_⟩
 ·obtain ⟨o',e'⟩:=hb b o e
  exact N.Dw b o o' e' (λhm=>absurd (Heap.lt_size e) (Nat.not_lt.mpr (hl.mem hm).1)) (K.base b o e)
 ·obtain ⟨vs,⟨n,e⟩,r⟩:=K.lists i a l hi hl'
  exact ⟨vs,⟨n,N.Ci a _ (hl.not e λes n q=>by cases q) (λvs q=>by cases q) e⟩,H8.mono (λZ Z q=>q) Bu l r⟩
theorem T3.noted (hl:T3 h₀ fr h) (N:bQ F g h h'):T3 h₀ fr h':=λv hv=>by
 apply Ah;intro g9 k9
 obtain ⟨a1,a2,a3,m,a4⟩:=hl v hv
 apply k9
 exact ⟨a1,a2,a3,m,N.ns a4⟩
structure mE (h₀:Heap) (W:Addr->Prop) (fr:List Env) (C:Addr) (φ:List Addr) (s:Shared) (φ':List Addr) (H':Aa.Heap) (s':Shared) (e:Addr):Prop where
 same:∃ h' tk,s'={ s with heap:=h',toks:=tk }
 keep:∀ b o,b ∉ φ->¬ W b->b ∉ Cz fr->s.heap.get? b=some o->s'.heap.get? b=some o
 slot:∀ b o,¬ W b->b∈Cz fr->(∀ vs,o.data≠.fields vs)->s.heap.get? b=some o->∃ sl,s'.heap.get? b=some { o with slots:=sl }
 toks:s.toks<=s'.toks
 grow:∃ ψ,φ'=φ++ψ/\∀ a∈ψ,s.heap.objs.size<=a
 ok:Ok h₀ φ' H' s'.heap
 live:T3 h₀ fr s'.heap
 exc:Exc C s.heap s'.heap e
 sub:Sub s.heap s'.heap
abbrev Fly (h₀:Heap) (fr:List Env):=mE h₀ (λZ=>False) fr
theorem mE.weak {h₀ W W' fr C φ s φ' H' s' e}(Y:mE h₀ W fr C φ s φ' H' s' e) (hw:∀ b,W b->W' b):mE h₀ W' fr C φ s φ' H' s' e :=
 ⟨Y.same,λb o h1 h2 h3 h4=>Y.keep b o h1 (λq=>h2 (hw b q)) h3 h4,λb o h1 h2 h3 h4=>Y.slot b o (λq=>h1 (hw b q)) h2 h3 h4,Y.toks,Y.grow,Y.ok,Y.live,Y.exc,Y.sub⟩
theorem Ok.Dv {h₀ φ H h}(K:Ok h₀ φ H h) (hl:T3 h₀ fr h) (hb:b∈Cz fr):b ∉ φ:=λhm=>by
 obtain ⟨vs,n,e⟩:=K.mem hm
 exact hl.not e (λes n q=>by cases q) hb
theorem O8.sub {h₀ φ s φ' H' s'}(F:O8 h₀ φ s φ' H' s'):Sub s.heap s'.heap:=λb o e=>by
 by_cases hb:b∈φ
 ·obtain ⟨ψ,g,_⟩:=F.grow
  obtain ⟨vs,n,e'⟩:=F.ok.mem (a:=b) (qz g (List.mem_append_left _ hb))
  exact ⟨_,e'⟩
 ·exact ⟨o,F.step.keep b o hb e⟩
theorem T3.fwd {h₀ φ s φ' H H' s'}(hl:T3 h₀ fr s.heap) (K:Ok h₀ φ H s.heap) (F:O8 h₀ φ s φ' H' s'):T3 h₀ fr s'.heap:=λv hv=>by
 apply Ah;intro g9 k9
 obtain ⟨a1,a2,a3,m,o,es,ep,ho,hd,q⟩:=hl v hv
 apply k9
 have hb:v.locals ∉ φ:=λhm=>by
  obtain ⟨vs,n,e⟩:=K.mem hm
  rw [e] at ho;cases ho;cases hd
 exact ⟨a1,a2,a3,m,o,es,ep,F.step.keep _ _ hb ho,hd,q⟩
theorem O8.fly {h₀ W fr C φ s φ0 H Hw s9 φ' H' s' e}(F:O8 h₀ φ s φ0 Hw s9) (K:Ok h₀ φ H s.heap) (hl:T3 h₀ fr s.heap) (Y:mE h₀ W fr C φ0 s9 φ' H' s' e):mE h₀ W fr C φ s φ' H' s' e:=by
 apply Ah;intro g9 k9
 obtain ⟨⟨⟨h1,t1,e1⟩,k1,z1,w1⟩,⟨ψ1,g1,m1⟩,o1⟩:=id F
 obtain ⟨⟨h2,t2,e2⟩,k2,l2,w2,⟨ψ2,g2,m2⟩,o2,v2,x2,u2⟩:=Y
 apply k9
 have hn:∀ b o,b ∉ φ->s.heap.get? b=some o->b ∉ φ0:=λb o hb e=>by
  rw [g1,List.mem_append,not_or]
  exact ⟨hb,λhm=>absurd (Heap.lt_size e) (Nat.not_lt.mpr (m1 b hm))⟩
 refine ⟨⟨h2,t2,by rw [e2,e1]⟩,λb o hb hw hf e=>k2 b o (hn b o hb e) hw hf (k1 b o hb e),λb o hw hf hd e=>l2 b o hw hf hd (k1 b o (K.Dv hl hf) e),D2 w1 w2,⟨ψ1++ψ2,by refine qz g2 (qz g1 ?_);rw [D5],λa ha=>?_⟩,o2,v2,x2.sub F.sub,F.sub.trans u2⟩
 rcases C0 ha with q|q
 ·exact m1 a q
 ·exact D2 z1 (m2 a q)
section
variable {X:Cx}{A:Around}{C:Aa.Calls}{RC:Aa.aK}{fr:List Env}{Cc:Addr}{c:String}
noncomputable def kA (X:Cx) (W:Addr->Prop) (fr:List Env) (Cc:Addr) (R:Aa.Heap->Prop) (φ:List Addr) (s:Shared) (EX:Value->Shared->Prop):Prop :=
 ∀ H' φ' s' e,R H'->mE X.h₀ W fr Cc φ s φ' H' s' e->EX (.ref e) s'
theorem kA.after {W:Addr->Prop}{R:Aa.Heap->Prop}{φ s EX H φ0 Hw s9}(k:kA X W fr Cc R φ s EX) (K:Ok X.h₀ φ H s.heap) (hl:T3 X.h₀ fr s.heap) (F:O8 X.h₀ φ s φ0 Hw s9):kA X W fr Cc R φ0 s9 EX :=
 λH' φ' s' e r Y=>k H' φ' s' e r (F.fly K hl Y)
noncomputable def iU (X:Cx) (A:Around) (fr:List Env) (Cc:Addr) (RC:Aa.aK):Prop :=
 ∀ (f:String) (ls:List Nat) (fa:Addr) (vs:List V) (R:Aa.Heap->Prop) (H:Aa.Heap) (φ:List Addr) (s:Shared) (xs:List Value) (K EX:Value->Shared->Prop),
  X.gl.fns.lookup f=some ls->X.mg (Str.ofString f)=some (.ref fa)->RC f vs R H->Ok X.h₀ φ H s.heap->H8 X.h₀ φ s.heap vs xs->(X.gl.pos=true->0<s.toks∨∃ fn,X.P f=some fn/\fn.bump=true) ->
  (∀ j∈ls,∀ x,xs[j]? = some x->∃ y t,x=.str y t/\0<t/\t<s.toks)->T3 X.h₀ fr s.heap->kA X (λZ=>False) fr Cc R φ s EX->wpAny (S9 X) A (call (.ref fa) xs) K EX s
noncomputable def RzE (X:Cx) (A:Around) (C:Aa.Calls) (RC:Aa.aK) (fr:List Env) (Cc:Addr) (e:Aa.E):Prop :=
 ∀ (re:Expr) (env:Env) (nm:List Str) (ρ:Aa.M6) (R:Aa.Heap->Prop) (H:Aa.Heap) (φ:List Addr) (s:Shared) (K EX:Value->Shared->Prop),
  Aa.K2 X.gl env.scope.names nm e re=true->L9 X φ nm env ρ s->Ok X.h₀ φ H s.heap->T3 X.h₀ fr s.heap->Aa.rzE C RC e ρ R H->kA X (λZ=>False) fr Cc R φ s EX->wpAny (S9 X) A (eval re env) K EX s
theorem Ah9 (G:eU X) (hR:iU X A fr Cc RC) (hs:∀ es,gL X A C es):RzE X A C RC fr Cc e:=by
 intro re env nm ρ R H φ s K EX hc L O hl h k
 obtain ⟨f,es,rfl,h⟩:=h
 refine Aa.xW hc λid p0 res p e9 Af=>?_
 clear hc;subst e9
 replace Af:=Aa.a5 Af
 obtain ⟨⟨⟨⟨h1,h2⟩,h3⟩,h4⟩,h5⟩:=Af
 replace h1:=eq_of_beq h1
 subst h1
 simp only [Aa.R3,Bool.and_eq_true,Bool.not_eq_true'] at h4
 unfold Aa.tQ at h2
 cases hls:X.gl.fns.lookup f with
 | none=>rw [hls] at h2;cases h2
 | some ls =>
  rw [hls] at h2
  apply Ah;intro g9 k9
  obtain ⟨fn,fa,o,params,body,scope,pm,cd,doc,hP,hlf,hm,ho,hd,o9,n3⟩:=G.fns f ls hls
  apply k9
  refine wpAny_Call_NameR (aS G L O h3 h4.1 hm ?_)
  refine callWith_function (o:=o) (fd:=docDef (Str.ofString f) params body scope pm cd doc) (Y7 h5 (cT es res env nm ρ _ H φ s _ EX p (hs es) h5 L O h λvs H1 φ1 xs s1 q1 F1 r1 d6 hla=>?_))
  refine ⟨⟨F1.ok.base _ _ ho,hd⟩,?_⟩
  refine hR f ls fa vs R H1 φ1 s1 xs K EX hls hm q1 F1.ok r1 (λhp=>Or.inl (D6 (L.pos hp) F1.step.toks)) (λj hj x hx=>?_) (hl.fwd O F1) (k.after O hl F1)
  simp only [Bool.and_eq_true,Bool.or_eq_true] at h2
  have hps:X.gl.pos=true:=by
   rcases h2.1 with q|q
   ·exact q
   ·rw [List.isEmpty_iff] at q;subst q;cases hj
  have:=List.all_eq_true.mp h2.2 j hj
  cases he:es[j]? with
  | none=>rw [he] at this;cases this
  | some e =>
   rw [he] at this
   obtain ⟨l9,rfl⟩:=Aa.mM this
   exact hla hps j _ he x hx
end
section
variable {X:Cx}{A:Around}{C:Aa.Calls}{RC:Aa.aK}{fr:List Env}{Cc:Addr}{c:String}
theorem oW (G:eU X) (hh:A.handled=none) (hu:A.units+106<cLine) (hC:dP X A C) (hR:iU X A fr Cc RC) (e:Aa.E):RzE X A C RC fr Cc e:=Ah9 G hR λes=>(eX G hh hu hC es).1
noncomputable def rP (X:Cx) (c:String) (Cc:Addr):Prop:=∃ bm newId Bn inN bmN B nid j7,OwnClsQ (Str.ofString c) Cc bm newId X.mg X.h₀/\ExcBaseFacts Bn newId inN bmN/\bm.contains (.type Bn)=true/\ExcBaseFacts B nid j7 bm/\bm.contains (.type "BaseException")=true
theorem Bl4 {W:Addr->Prop}(hx:Heap.MadeExcOf s.heap h' e (.ref Cc) args) (O:Ok h₀ φ H s.heap) (hl:T3 h₀ fr s.heap) (hr:h₀.objs.size<=h'.objs.size):mE h₀ W fr Cc φ s φ H { s with heap:=h' } e:=by
 obtain ⟨t,he,_⟩:=hx.there
 refine ⟨⟨h',s.toks,rfl⟩,λb o Z Z Z e=>hx.keeps b o e,λb o Z Z Z e=>⟨o.slots,hx.keeps b o e⟩,D3 _,⟨[],by simp,λa ha=>(Aa.xL ha)⟩,?_,λv hv=>?_,Or.inr ⟨_,_,he,rfl,rfl,hx.new,rfl⟩,λb o e=>⟨o,hx.keeps b o e⟩⟩
 ·exact ⟨λb o e=>hx.keeps b o (O.base b o e),O.len,O.nodup,O.above,O.small,hr,λi a l hi hl=>by
   obtain ⟨vs,⟨n,e⟩,r⟩:=O.lists i a l hi hl
   exact ⟨vs,⟨n,hx.keeps _ _ e⟩,H8.mono (λZ Z q=>q) (λa o Z q=>hx.keeps a o q) l r⟩⟩
 ·apply Ah;intro g9 k9
  obtain ⟨a1,a2,a3,m,o,es,ep,ho,q⟩:=hl v hv
  apply k9
  exact ⟨a1,a2,a3,m,o,es,ep,hx.keeps _ _ ho,q⟩
noncomputable def RzS (X:Cx) (A:Around) (C:Aa.Calls) (RC:Aa.aK) (fr:List Env) (c:String) (Cc:Addr) (st:Aa.S):Prop :=
 ∀ (re:Stmt) (env:Env) (nm:List Str) (ρ:Aa.M6) (R:Aa.Heap->Prop) (H:Aa.Heap) (φ:List Addr) (s:Shared) (K:Flow->Shared->Prop) (EX:Value->Shared->Prop),
  Aa.cN X.gl env.scope.names nm st re=true->L9 X φ nm env ρ s->Ok X.h₀ φ H s.heap->T3 X.h₀ fr s.heap->Aa.rzS C RC c st ρ R H->kA X (Own env) fr Cc R φ s EX->wpAny (S9 X) A (exec re env) K EX s
noncomputable def Dd0 (X:Cx) (A:Around) (C:Aa.Calls) (RC:Aa.aK) (fr:List Env) (c:String) (Cc:Addr) (st:List Aa.S):Prop :=
 ∀ (re:List Stmt) (env:Env) (nm:List Str) (ρ:Aa.M6) (R:Aa.Heap->Prop) (H:Aa.Heap) (φ:List Addr) (s:Shared) (K:Flow->Shared->Prop) (EX:Value->Shared->Prop),
  Aa.S8 X.gl env.scope.names nm st re=true->L9 X φ nm env ρ s->Ok X.h₀ φ H s.heap->T3 X.h₀ fr s.heap->Aa.Ad1 C RC c st ρ R H->kA X (Own env) fr Cc R φ s EX->wpAny (S9 X) A (execs re env) K EX s
theorem kA.own {R:Aa.Heap->Prop}{φ s EX}{W:Addr->Prop}(k:kA X W fr Cc R φ s EX):kA X (λZ=>False) fr Cc R φ s EX:=λH' φ' s' e r Y=>k H' φ' s' e r (Y.weak λZ q=>q.elim)
theorem zT (G:eU X) (hh:A.handled=none) (m8:rP X c Cc) {env:Env}{K:Flow->Shared->Prop}{EX:Value->Shared->Prop}{W:Addr->Prop}{R:Aa.Heap->Prop}(hc:Aa.cN X.gl env.scope.names nm (.raise c m) re=true) (L:L9 X φ nm env ρ s) (O:Ok X.h₀ φ H s.heap) (hl:T3 X.h₀ fr s.heap) (hR:R H) (k:kA X W fr Cc R φ s EX):wpAny (S9 X) A (exec re env) K EX s:=by
 refine Aa.Ay7 hc λid np x k9 cp cpos pos e9 hid hg m7 b7=>?_
 clear hc;subst e9;subst hid
 simp only [Aa.R3,Bool.and_eq_true,Bool.not_eq_true'] at m7
 apply Ah;intro g9 k9
 obtain ⟨bm,newId,Bn,inN,bmN,B,nid,j7,O1,Fn,hBn,FB,n8⟩:=m8
 obtain ⟨tl,N,nm',q,bs,hdct,sn,sub,ab,col,dd,k0,k1,k2,k3,k5,mN,hC,hN,hni,T⟩:=O1.own.obj
 apply k9
 refine wpAny_Raise_call_subU (C:=Cc) (nm:=nm') (q:=q) (N:=N) (bs:=bs) (bm:=tl) (hdct:=hdct) (sn:=sn) (sub:=sub) (ab:=ab) (col:=col) (dd:=dd) (k0:=k0) (k1:=k1) (k2:=k2) (k3:=k3) (k5:=k5) Fn hBn FB (mN:=mN) (T.hasType FB.hasBase) hh rfl hni (aS G L O hg m7.1 O1.bound ⟨rfl,?_⟩)
 refine evalArgs_plain (args_cons (Constant_str (args_nil ?_)) rfl)
 have F1:=O8.tok (tk:=s.toks+1) O (E4 _)
 refine ⟨rfl,by show 1<=sizeLine;decide,F1.ok.base _ _ hC,hN.keeps F1.ok.base,T.keeps F1.ok.base,λh' e hx=>?_⟩
 refine k H φ _ e hR (F1.fly O hl (Bl4 hx F1.ok (hl.fwd O F1) ?_))
 obtain ⟨mm,⟨o,es,ep,ho,_⟩,_⟩:=L.locals
 exact D2 L.above (E2 (Heap.lt_size (hx.keeps _ _ ho)))
theorem T3.fwdS {env:Env}(hl:T3 X.h₀ fr s.heap) (K:Ok X.h₀ φ H s.heap) (L:L9 X φ nm env ρ s) (L':L9 X φ' nm env ρ' s') (F:S4 X.h₀ env φ s φ' H' s'):T3 X.h₀ fr s'.heap:=λv hv=>by
 apply Ah;intro g9 k9
 obtain ⟨a1,a2,a3,m,o,es,ep,ho,hd,q⟩:=hl v hv
 apply k9
 by_cases hv':v.locals=env.locals
 ·obtain ⟨m',hn,_⟩:=L'.locals
  exact ⟨a1,a2,a3,m',qz hv' hn⟩
 ·have hb:v.locals ∉ φ:=λhm=>by
   obtain ⟨vs,n,e⟩:=K.mem hm
   rw [e] at ho;cases ho;cases hd
  have hw:¬ Own env v.locals:=λhw=>by
   rcases hw with hw|⟨x,hx⟩
   ·exact hv' hw
   ·obtain ⟨ov,o',ho',hd'⟩:=L.As x _ hx
    rw [ho] at ho';cases ho'
    rw [hd] at hd';cases hd'
  exact ⟨a1,a2,a3,m,o,es,ep,F.keep _ _ hb hw ho,hd,q⟩
theorem S4.sub {env:Env}(L':L9 X φ' nm env ρ' s') (F:S4 X.h₀ env φ s φ' H' s'):Sub s.heap s'.heap:=λb o e=>by
 by_cases hb:b∈φ
 ·obtain ⟨ψ,g,_⟩:=F.grow
  obtain ⟨vs,n,e'⟩:=F.ok.mem (a:=b) (qz g (List.mem_append_left _ hb))
  exact ⟨_,e'⟩
 ·by_cases hw:Own env b
  ·rcases hw with rfl|⟨x,hx⟩
   ·obtain ⟨m',⟨o',_,_,ho',_⟩,_⟩:=L'.locals
    exact ⟨o',ho'⟩
   ·obtain ⟨ov,o',ho',_⟩:=L'.As x b hx
    exact ⟨o',ho'⟩
  ·exact ⟨o,F.keep b o hb hw e⟩
theorem S4.fly {env:Env}(F:S4 X.h₀ env φ s φ0 Hw s9) (K:Ok X.h₀ φ H s.heap) (hl:T3 X.h₀ fr s.heap) (L':L9 X φ0 nm env ρ' s9) (Y:mE X.h₀ (Own env) fr Cc φ0 s9 φ' H' s' e):mE X.h₀ (Own env) fr Cc φ s φ' H' s' e:=by
 have i8:=S4.sub L' F
 apply Ah;intro g9 k9
 obtain ⟨⟨h1,t1,e1⟩,k1,z1,w1,⟨ψ1,g1,m1⟩,o1⟩:=F
 obtain ⟨⟨h2,t2,e2⟩,k2,l2,w2,⟨ψ2,g2,m2⟩,o2,v2,x2,u2⟩:=Y
 apply k9
 have hn:∀ b o,b ∉ φ->s.heap.get? b=some o->b ∉ φ0:=λb o hb e=>by
  rw [g1,List.mem_append,not_or]
  exact ⟨hb,λhm=>absurd (Heap.lt_size e) (Nat.not_lt.mpr (m1 b hm))⟩
 refine ⟨⟨h2,t2,by rw [e2,e1]⟩,λb o hb hw hf e=>k2 b o (hn b o hb e) hw hf (k1 b o hb hw e),λb o hw hf hd e=>l2 b o hw hf hd (k1 b o (K.Dv hl hf) hw e),D2 w1 w2,⟨ψ1++ψ2,by refine qz g2 (qz g1 ?_);rw [D5],λa ha=>?_⟩,o2,v2,x2.sub i8,i8.trans u2⟩
 rcases C0 ha with q|q
 ·exact m1 a q
 ·exact D2 z1 (m2 a q)
theorem kP (he:RzE X A C RC fr Cc e) {env:Env}{R:Aa.Heap->Prop}{K:Flow->Shared->Prop}{EX:Value->Shared->Prop}
  (hc:Aa.cN X.gl env.scope.names nm (.expr e) re=true) (L:L9 X φ nm env ρ s) (O:Ok X.h₀ φ H s.heap) (hl:T3 X.h₀ fr s.heap) (h:Aa.rzE C RC e ρ R H) (k:kA X (λZ=>False) fr Cc R φ s EX):wpAny (S9 X) A (exec re env) K EX s:=by
 refine Aa.xU hc λe' p e9 Af=>?_
 clear hc;subst e9
 replace Af:=Aa.E7 Af
 refine wpAny_Expr_any (he _ env nm ρ R H φ s _ EX Af.2 L O hl h k) ?_ (oU Af.2 Af.1 _ _ env)
 unfold interactive;refine qz L.kind ?_;rfl
theorem Bl1 (G:eU X) (hh:A.handled=none) (hu:A.units+106<cLine) (hC:dP X A C) (hR:iU X A fr Cc RC) (m8:rP X c Cc) (st:Aa.S):RzS X A C RC fr c Cc st:=by
 intro re env nm ρ R H φ s K EX hc L O hl h k
 rcases h with ⟨e,rfl,h⟩|⟨e,m,rfl,h⟩
 ·exact kP (oW G hh hu hC hR e) hc L O hl h k.own
 ·refine Aa.uO hc λc' t' f' p e9 Af=>?_
  clear hc;subst e9
  replace Af:=Aa.a3 Af
  obtain ⟨⟨h1,h2⟩,h3⟩:=Af
  refine wpAny_If ((M4 G hh hu hC e).2 _ env nm ρ _ H φ s _ EX h1 L O h λb H1 φ1 s1 q1 F1=>?_)
  obtain ⟨rfl,q1⟩:=q1
  obtain ⟨re,res,e9,h5⟩:=Aa.V1 h2
  subst e9
  exact wpAny_execs_cons (zT G hh m8 h5.1 (L.fwd O F1) F1.ok (hl.fwd O F1) q1 (k.after O hl F1))
theorem Aw1 (G:eU X) (hh:A.handled=none) (hu:A.units+106<cLine) (hC:dP X A C) (hR:iU X A fr Cc RC) (m8:rP X c Cc):∀ st:List Aa.S,Dd0 X A C RC fr c Cc st:=by
 intro st
 induction st with
 | nil=>exact λre env nm ρ R H φ s K EX Z Z Z Z q Z=>q.elim
 | cons st sts ih =>
  exact λre env nm ρ R H φ s K EX hc L O hl h k=>by
   obtain ⟨re,res,e9,Af⟩:=Aa.V1 hc
   clear hc;subst e9
   rcases h with h|h
   ·exact wpAny_execs_cons (Bl1 G hh hu hC hR m8 st re env nm ρ R H φ s _ EX Af.1 L O hl h k)
   ·refine wpAny_execs_cons (Am9 G hh hu hC st re env nm ρ _ H φ s _ EX Af.1 L O h λfl ρ1 H1 φ1 f s1 q F1 L1 r=>?_)
    obtain ⟨rfl,q⟩:=q
    obtain rfl:=r
    exact ih res env nm ρ1 R H1 φ1 s1 K EX Af.2 L1 F1.ok (hl.fwdS O L L1 F1) q λH' φ' s' e r' Y=>k H' φ' s' e r' (S4.fly F1 O hl L1 Y)
end
theorem L9.to {X:Cx}{env:Env}(L:L9 X φ nm env ρ s) (ht:s.toks<=s'.toks) (hr:∀ v x,L8 X.h₀ φ s.heap v x->L8 X.h₀ φ' s'.heap v x) (hn:∀ a m,s.heap.Ns a m->s'.heap.Ns a m) (hc:∀ c ov,s.heap.IsCell c ov->s'.heap.IsCell c ov):L9 X φ' nm env ρ s':=by
 refine ⟨L.kind,L.glob,L.blt,L.len,L.nodup,λhp=>D6 (L.pos hp) ht,?_,?_,L.above,L.Bj,?_,L.apart⟩
 ·obtain ⟨m,q,hm⟩:=L.locals
  exact ⟨m,hn _ _ q,λi x hx hk=>⟨(hm i x hx hk).1.mono hr,(hm i x hx hk).2.mono ht⟩⟩
 ·intro i x hx hk
  apply Ah;intro g9 k9
  obtain ⟨c,ov,h1,h2,r,lr⟩:=L.cells i x hx hk
  apply k9
  exact ⟨c,ov,h1,hc _ _ h2,r.mono hr,lr.mono ht⟩
 ·intro x c h1
  obtain ⟨ov,h2⟩:=L.As x c h1
  exact ⟨ov,hc _ _ h2⟩
section
variable {X:Cx}{A:Around}{C:Aa.Calls}{fr:List Env}{Cc:Addr}{c:String}
theorem L9.flyed {env:Env}(L:L9 X φ nm env ρ s) (K:Ok X.h₀ φ H s.heap) (hl:T3 X.h₀ fr s.heap) (Y:Fly X.h₀ fr Cc φ s φ' H' s' e):L9 X φ' nm env ρ s':=by
 have nl:∀ {b:Addr}{o:Obj},s.heap.get? b=some o->(∀ vs n,o≠{ cls:=.type "list",data:=.seq vs n })->b ∉ φ:=λ{b o} ho hd hm=>by
  obtain ⟨vs,n,e⟩:=K.mem hm
  rw [e] at ho;cases ho
  exact hd vs n rfl
 refine L.to Y.toks (λv x=>L8.mono (λi a hi=>?_) (λa o ht ho=>?_) v) (λa m hn=>?_) λc ov hc=>?_
 ·obtain ⟨ψ,g,_⟩:=Y.grow
  exact qz g (qz (List.getElem?_append_left (A3 hi).1) hi)
 ·obtain ⟨g8,items,n,hd⟩:=ht
  exact Y.keep a o (nl ho λvs n q=>by rw [q] at g8;exact absurd (Value.type.inj g8) (by decide)) id (hl.not ho λes n q=>by rw [hd] at q;cases q) ho
 ·obtain ⟨o,es,ep,ho,hd,q⟩:=hn
  have h1:a ∉ φ:=nl ho λvs n q=>by rw [q] at hd;cases hd
  by_cases ha:a∈Cz fr
  ·obtain ⟨sl,e⟩:=Y.slot a o id ha (λvs q=>by rw [hd] at q;cases q) ho
   exact ⟨_,es,ep,e,hd,q⟩
  ·exact ⟨o,es,ep,Y.keep a o h1 id ha ho,hd,q⟩
 ·obtain ⟨o,ho,hd⟩:=hc
  exact ⟨o,Y.keep c o (nl ho λvs n q=>by rw [q] at hd;cases hd) id (hl.not ho λes n q=>by rw [hd] at q;cases q) ho,hd⟩
theorem L9.noted {env:Env}(L:L9 X φ nm env ρ s) (hl:T3 X.h₀ fr s.heap) (hF:∀ b,b∈F->b∈Cz fr) (N:bQ F g s.heap h'):L9 X φ nm env ρ { s with heap:=h' }:=by
 refine L.to (D3 _) (λv x=>L8.mono (λZ Z q=>q) (λa o ht ho=>?_) v) (λa m hn=>N.ns hn) λc ov hc=>?_
 ·obtain ⟨g8,items,n,hd⟩:=ht
  exact N.Ci a o (λhm=>hl.not ho (λes n q=>by rw [hd] at q;cases q) (hF a hm)) (λvs q=>by rw [hd] at q;cases q) ho
 ·obtain ⟨o,ho,hd⟩:=hc
  exact ⟨o,N.Ci c o (λhm=>hl.not ho (λes n q=>by rw [hd] at q;cases q) (hF c hm)) (λvs q=>by rw [hd] at q;cases q) ho,hd⟩
theorem By0 {env:Env}(L:L9 X φ nm env ρ s):X.h₀.objs.size<=s.heap.objs.size:=by
 obtain ⟨m,⟨o,es,ep,ho,_⟩,_⟩:=L.locals
 exact D2 L.above (E2 (Heap.lt_size ho))
theorem In.live {env:Env}(I:In X fn φ H vs scope s env s9) (Cd:T3 X.h₀ fr s.heap):T3 X.h₀ (env::fr) s9.heap:=λv hv=>by
 rcases B0 hv with rfl|hv
 ·obtain ⟨m,q,_⟩:=I.L.locals
  exact ⟨I.L.kind,I.fr,I.L.above,m,q⟩
 ·apply Ah;intro g9 k9
  obtain ⟨a1,a2,a3,m,o,es,ep,ho,q⟩:=Cd v hv
  apply k9
  exact ⟨a1,a2,a3,m,o,es,ep,I.keep _ _ ho,q⟩
theorem Ap0 {env:Env}(I:In X fn φ H vs scope s env s9) (O:Ok X.h₀ φ H s.heap) (Cd:T3 X.h₀ fr s.heap) (Y:mE X.h₀ (Own env) (env::fr) Cc φ s9 φ' H' s' e) (N:bQ (Cz (env::fr)) s.heap s'.heap h') (x:gR Cc s.heap h' e .none):Fly X.h₀ fr Cc φ s φ' H' { s' with heap:=h' } e:=by
 have hnf:∀ b o,s.heap.get? b=some o->b ∉ Cz fr->b ∉ Cz (env::fr):=λb o e hb hm=>by
  rw [show Cz (env::fr)=env.locals::Cz fr by show (env::fr).filterMap _=_;refine qz List.filterMap_cons ?_;rw [I.fr]] at hm
  rcases B0 hm with q|q
  ·exact I.own b (Heap.lt_size e) (Or.inl q)
  ·exact hb q
 have hin:∀ b,b∈Cz fr->b∈Cz (env::fr):=λb hb=>by
  exact qz (show Cz (env::fr)=env.locals::Cz fr by show (env::fr).filterMap _=_;rw [List.filterMap_cons,I.fr]) (C5 _ hb)
 apply Ah;intro g9 k9
 obtain ⟨⟨h2,t2,e2⟩,k2,l2,w2,⟨ψ,g2,m2⟩,o2,v2,x2,u2⟩:=Y
 obtain ⟨⟨⟨h1,t1,e1⟩,_,z1,w1⟩,_,_⟩:=I.F
 apply k9
 have hkeep:∀ b o,b ∉ φ->b ∉ Cz fr->s.heap.get? b=some o->h'.get? b=some o:=λb o hb hf e=>N.Dw b o o e (hnf b o e hf) (k2 b o hb (I.own b (Heap.lt_size e)) (hnf b o e hf) (I.keep b o e))
 have hslot:∀ b o,b∈Cz fr->(∀ vs,o.data≠.fields vs)->s.heap.get? b=some o->∃ sl,h'.get? b=some { o with slots:=sl }:=λb o hf hd e=>by
  obtain ⟨sl,e'⟩:=l2 b o (I.own b (Heap.lt_size e)) (hin b hf) hd (I.keep b o e)
  obtain ⟨sl',e''⟩:=N.slot b { o with slots:=sl } (hin b hf) hd e'
  exact ⟨sl',e''⟩
 have hr:X.h₀.objs.size<=h'.objs.size:=by
  obtain ⟨_,_,a3,m,q⟩:=v2 env (.head _)
  obtain ⟨o,es,ep,ho,_⟩:=N.ns q
  exact D2 a3 (E2 (Heap.lt_size ho))
 have hok:Ok X.h₀ φ' H' h':=o2.noted N v2 (λb o e=>⟨o,O.base b o e⟩) hr
 refine ⟨⟨h',t2,qz e2 (qz e1 rfl)⟩,λb o hb Z hf e=>hkeep b o hb hf e,λb o Z hf hd e=>hslot b o hf hd e,by rw [e2] at w2 ⊢;exact D2 w1 w2,⟨ψ,g2,λa ha=>D2 z1 (m2 a ha)⟩,hok,v2.tail.noted N,Or.inl x,λb o e=>?_⟩
 by_cases hb:b∈φ
 ·obtain ⟨vs,n,e'⟩:=hok.mem (a:=b) (qz g2 (List.mem_append_left _ hb))
  exact ⟨_,e'⟩
 ·by_cases hf:b∈Cz fr
  ·apply Ah;intro g9 k9
   obtain ⟨_,m,o',es,ep,ho',hd',_⟩:=Cd.mem hf
   apply k9
   rw [e] at ho';cases ho'
   obtain ⟨sl,e'⟩:=hslot b o hf (λvs q=>by rw [hd'] at q;cases q) e
   exact ⟨_,e'⟩
  ·exact ⟨o,hkeep b o hb hf e⟩
theorem Bl3:∀ (n:Nat) (X:Cx) (A:Around) (fr:List Env),eU X->rP X c Cc->A.handled=none->A.frames=some fr->A.depth+n<=recursionLimit->A.units+3 * n+106<cLine->iU X A fr Cc (Aa.cE X.P c n):=by
 intro n
 induction n with
 | zero=>exact λX A fr G g8 hh hA hd hu=>λf ls fa vs R H φ s xs K EX hls hm hC=>B4 hC
 | succ n ih =>
  exact λX A fr G g8 hh hA hd hu=>λf ls fa vs R H φ s xs K EX hls hm hC O rs j5 i9 Cd k=>by
   apply Ah;intro g9 k9
   obtain ⟨fn,fa',o,params,body,scope,pm,cd,doc,hP,hfl,hm',ho,hdt,o9,n3⟩:=G.fns f ls hls
   apply k9
   rw [hm] at hm';cases hm'
   replace hC:(match X.P f with | some fn=>_ | none=>_):=hC
   rw [hP] at hC
   obtain ⟨b7,hw⟩:=hC
   refine wpAny_call (gG G (D6 (C9 (Nat.succ_pos n)) hd) ho hdt o9 n3 b7 O rs (λhp=>(j5 hp).imp id λ⟨fn',e1,e2⟩=>by rw [hP] at e1;cases e1;exact e2) (λj hj=>i9 j (hfl▸hj)) λenv s9 I c13=>?_)
   have hd':(A.deeper env).depth+n<=recursionLimit:=by show A.depth+1+n<=_;exact qz (B5 _ _ _) hd
   have hu':(A.deeper env).units+3 * n+106<cLine:=by show A.units+3+3 * n+106<_;exact qz (C2 A.units 3 _) (qz (Nat.add_comm 3 _) hu)
   have hA':(A.deeper env).frames=some (env::fr):=Around.frames_deeper hA
   have Ex:=uJ n (M5 X fn.lits) (A.deeper env) (G.lits _) hh hd' hu'
   have hRn:=ih (M5 X fn.lits) (A.deeper env) (env::fr) (G.lits _) g8 hh hA' hd' hu'
   have hl1:=I.live Cd
   refine Aw1 (X:=M5 X fn.lits) (A:=A.deeper env) (fr:=env::fr) (G.lits _) hh (D7 (C4 (A6 (A7 3 (3 * n)) _) _) hu) Ex hRn g8 fn.body body env _ _ R H φ s9 _ _ c13 I.L I.F.ok hl1 hw λH' φ' s' e r Y=>?_
   have hs1:Sub s.heap s9.heap:=λb o e=>⟨o,I.keep b o e⟩
   exact Ai4 (h₀:=X.h₀) (g:=s.heap) hA' Y.live.funs I.fr (Y.exc.sub hs1) (hs1.trans Y.sub) λh' N x=>k H' φ' { s' with heap:=h' } e r (Ap0 I O Cd Y N x)
end
section
variable {X:Cx}{A:Around}{C:Aa.Calls}{fr:List Env}{Cc:Addr}{c:String}
theorem sA:∀ (pre:List Aa.S) (re:List Stmt) (env:Env) (nm:List Str) (ρ:Aa.M6) (Q:Aa.M6->Aa.Heap->Prop) (H:Aa.Heap) (φ:List Addr) (s:Shared) (K:Flow->Shared->Prop) (EX:Value->Shared->Prop),
  (∀ st∈pre,iJ X A C st)->Aa.S8 X.gl env.scope.names nm pre re=true->L9 X φ nm env ρ s->Ok X.h₀ φ H s.heap->Aa.K1 C pre ρ (λfl ρ' H'=>fl=.next/\Q ρ' H') H ->
  (∀ ρ' H' φ' s',Q ρ' H'->S4 X.h₀ env φ s φ' H' s'->L9 X φ' nm env ρ' s'->wpAny (S9 X) A (execs rest env) K EX s') ->
  wpAny (S9 X) A (execs (re++rest) env) K EX s:=by
 intro pre
 induction pre with
 | nil =>
  exact λre env nm ρ Q H φ s K EX Z hc L O h k=>by
   obtain rfl:=Aa.qC hc
   exact k ρ H φ s (Aa.Bf2 h).2 (S4.refl O) L
 | cons st pre ih =>
  exact λre env nm ρ Q H φ s K EX hS hc L O h k=>by
   obtain ⟨re,res,e9,Af⟩:=Aa.V1 hc
   clear hc;subst e9
   replace h:=Aa.Ap6 h
   refine wpAny_execs_cons (hS st (.head _) re env nm ρ _ H φ s _ EX Af.1 L O h λfl ρ1 H1 φ1 f s1 q F1 L1 r=>?_)
   cases fl with
   | next =>
    obtain rfl:=r
    exact ih res env nm ρ1 Q H1 φ1 s1 K EX (λst f9=>hS st (.tail _ f9)) Af.2 L1 F1.ok q λρ' H' φ' s' q F' L'=>k ρ' H' φ' s' q (F1.trans F') L'
   | ret v=>exact nomatch q.1
theorem Bx9 (j0:gM X A C t) (h1:RzE X A C RC fr Cc e1) (h2:RzE X A C RC fr Cc e2) {env:Env}{R:Aa.Heap->Prop}{K:Flow->Shared->Prop}{EX:Value->Shared->Prop}
  (hc:Aa.cN X.gl env.scope.names nm (.ite t [.expr e1] [.expr e2]) re=true) (L:L9 X φ nm env ρ s) (O:Ok X.h₀ φ H s.heap) (hl:T3 X.h₀ fr s.heap)
  (h:Aa.L0 C t ρ (λv Hz=>Aa.Bb (Aa.O4 v) (λb Hz=>match b with | true=>Aa.rzE C RC e1 ρ R Hz | false=>Aa.rzE C RC e2 ρ R Hz) Hz) H) (k:kA X (λZ=>False) fr Cc R φ s EX):wpAny (S9 X) A (exec re env) K EX s:=by
 refine Aa.uO hc λc' t' f' p e9 Af=>?_
 clear hc;subst e9
 replace Af:=Aa.a3 Af
 obtain ⟨⟨g1,g2⟩,g3⟩:=Af
 refine wpAny_If (j0 _ env nm ρ _ H φ s _ EX g1 L O h λb H1 φ1 s1 q1 F1=>?_)
 cases b with
 | true =>
  obtain ⟨re,res,rfl,Af⟩:=Aa.V1 g2
  exact wpAny_execs_cons (kP h1 Af.1 (L.fwd O F1) F1.ok (hl.fwd O F1) q1 (k.after O hl F1))
 | false =>
  obtain ⟨re,res,rfl,Af⟩:=Aa.V1 g3
  exact wpAny_execs_cons (kP h2 Af.1 (L.fwd O F1) F1.ok (hl.fwd O F1) q1 (k.after O hl F1))
theorem Bl2 {n:Nat}(G:eU X) (g8:rP X c Cc) (hh:A.handled=none) (hA:A.frames=some fr) (hd:A.depth+(n+1)<=recursionLimit) (hu:A.units+3 * (n+1)+106<cLine)
  
  (ho:X.h₀.get? fa=some o) (hdt:o.data=.func (docDef (Str.ofString f) params body scope pm cd doc)) (o9:X.h₀.CodeRec cd (Str.ofString f))
  (n3:Aa.iO X.gl fn params (body.take fn.body.length) scope=true) (htr:Aa.tP (M5 X fn.lits).gl scope.names (fn.names.map Str.ofString) c (.ite t [.expr e1] [.expr e2]) [.ret (.bool true)] post (body.drop fn.body.length)=true)
  {R:Aa.Heap->Prop}(b7:vs.length=fn.params)
  (O:Ok X.h₀ φ H s.heap) (rs:H8 X.h₀ φ s.heap vs xs) (j5:X.gl.pos=true->0<s.toks∨fn.bump=true) (i9:∀ j∈fn.lits,∀ x,xs[j]? = some x->∃ y t,x=.str y t/\0<t/\t<s.toks) (Cd:T3 X.h₀ fr s.heap)
  (hw:Aa.Au6 (Aa.Ac X.P n) (Aa.cE X.P c n) fn.body t e1 e2 (Aa.frame fn vs) R H) {K EX:Value->Shared->Prop}
  (k:∀ H' φ' s' e,R H'->Fly X.h₀ fr Cc φ s φ' H' s' e->K (.bool true) s'):wpAny (S9 X) A (call (.ref fa) xs) K EX s:=by
 refine wpAny_call (gG G (D6 (C9 (Nat.succ_pos n)) hd) ho hdt o9 n3 b7 O rs j5 i9 λenv s9 I c13=>?_)
 have hdn:(A.deeper env).depth+n<=recursionLimit:=by show A.depth+1+n<=_;exact qz (B5 _ _ _) hd
 have hun:(A.deeper env).units+3 * n+106<cLine:=by show A.units+3+3 * n+106<_;exact qz (C2 A.units 3 _) (qz (Nat.add_comm 3 _) hu)
 have hun':(A.deeper env).units+106<cLine:=D7 (C4 (A6 (A7 3 (3 * n)) _) _) hu
 have hAn:(A.deeper env).frames=some (env::fr):=Around.frames_deeper hA
 have Ex:=uJ n (M5 X fn.lits) (A.deeper env) (G.lits _) hh hdn hun
 have hRn:=Bl3 (c:=c) (Cc:=Cc) n (M5 X fn.lits) (A.deeper env) (env::fr) (G.lits _) g8 hh hAn hdn hun
 refine qz (Eq.symm (List.take_append_drop fn.body.length body)) ?_
 refine sA (X:=M5 X fn.lits) (A:=A.deeper env) fn.body _ env _ _ _ H φ s9 _ _ (λst Z=>Am9 (X:=M5 X fn.lits) (A:=A.deeper env) (G.lits _) hh hun' Ex st) c13 I.L I.F.ok hw λρ2 H2 φ2 s2 q F2 L2=>?_
 refine Aa.Az0 htr λb1 idn np h0 hs hp p rest eb g1 g2 g3 g4 g5 g6=>?_
 show wpAny (S9 X) (A.deeper env) (execs (body.drop fn.body.length) env) _ _ s2
 refine qz eb ?_
 rw [<- I.sc] at g1 g3 g5
 have hl1:=I.live Cd
 have hl2:T3 X.h₀ (env::fr) s2.heap:=hl1.fwdS (X:=M5 X fn.lits) I.F.ok I.L L2 F2
 refine wpAny_execs_cons (wpAny_Try_except (wpAny_execs_cons ?_))
 refine Bx9 (X:=M5 X fn.lits) (A:=A.deeper env) (fr:=env::fr) (Cc:=Cc) (M4 (X:=M5 X fn.lits) (A:=A.deeper env) (G.lits _) hh hun' Ex t).2 (oW (X:=M5 X fn.lits) (A:=A.deeper env) (G.lits _) hh hun' Ex hRn e1) (oW (X:=M5 X fn.lits) (A:=A.deeper env) (G.lits _) hh hun' Ex hRn e2) g1 L2 F2.ok hl2 q λH3 φ3 s3 ex r Y=>?_
 have Y1:mE X.h₀ (Own env) (env::fr) Cc φ s9 φ3 H3 s3 ex:=F2.fly (X:=M5 X fn.lits) I.F.ok hl1 L2 (Y.weak λZ q=>q.elim)
 have hs1:Sub s.heap s9.heap:=λb o e=>⟨o,I.keep b o e⟩
 refine Ao3 (h₀:=X.h₀) (g:=s.heap) hAn Y.live.funs I.fr (Y1.exc.sub hs1) (hs1.trans Y1.sub) λh4 N4 x4=>kR (s:={ s3 with heap:=h4 }) x4 λh5 N5 x5=>?_
 have N45:=N4.trans N5
 have L5:=(L2.flyed F2.ok hl2 Y).noted Y.live (λb hb=>hb) N45
 have O5:Ok X.h₀ φ3 H3 h5:=Y.ok.noted N45 Y.live (λb o e=>⟨o,O.base b o e⟩) (By0 L5)
 apply Ah;intro g9 k9
 obtain ⟨bm,newId,Bn,inN,bmN,B,nid,j7,O1,Fn,hBn,FB,n8⟩:=g8
 apply k9
 simp only [Aa.R3,Bool.and_eq_true,Bool.not_eq_true'] at g4
 have hex:∃ oe,h5.get? ex=some oe/\oe.cls=.ref Cc:=by
  apply Ah;intro g9 k9
  obtain ⟨oe,_,_,_,_,he,hc,_⟩:=x5
  apply k9
  exact ⟨oe,he,hc⟩
 subst g2
 refine handleBy_own (x:=Str.ofString c) (C:=Cc) (bmB:=bm) (newId:=newId) (mg:=X.mg) n8 (aS (X:=M5 X fn.lits) (G.lits _) L5 O5 g3 g4.1 O1.bound ⟨rfl,O1.keeps O5.base,hex,?_⟩)
 refine kR (s:={ s3 with heap:=h5 }) x5 λh6 N6 x6=>?_
 obtain ⟨re,res,e9,Af⟩:=Aa.V1 g5
 cases e9
 refine Aa.Aq0 Af.1 λe' p e9 hc8=>?_
 subst e9
 refine Aa.xX hc8 λk9 p e9=>?_
 subst e9
 exact wpAny_execs_cons (wpAny_Return_some (wpAny_pure (k H3 φ3 { s3 with heap:=h6 } ex r (Ap0 I O Cd Y1 (N45.trans N6) x6))))
end
end Bq
namespace Bq
open PySem PySem.Calls PyProof.Rows PySem.W
open Aa (V D)
noncomputable def Cg3 (p:Program) (gl:Aa.Gl) (P:List (String×Aa.Fn)) (x:String×List Nat):Bool:=match P.lookup x.1 with
 | some fn=>fn.lits==x.2&&(recsOf p).any λd=>d.name==Str.ofString x.1&&Aa.iO gl fn d.params d.body d.scope
 | none=>false
noncomputable def Be8 (p:Program) (x:String×Int):Bool:=match valOf p (Str.ofString x.1) with
 | some (.int i)=>i==x.2
 | _=>false
noncomputable def Ao9 (p:Program) (loose:List Str) (x:Str):Bool :=
 !startupNames.contains x&&!loose.contains x&&!((recsOf p).map (·.name)).contains x&&!((litsOf p).map (·.1)).contains x&&!((clssOf p loose).map (·.name)).contains x
noncomputable def kQ (p:Program) (loose:List Str) (gl:Aa.Gl) (P:List (String×Aa.Fn)):Bool :=
 gl.fns.all (Cg3 p gl P)&&gl.Er.all (Be8 p)&&(fC++fB).all λn=>Ao9 p loose (Str.ofString n)
theorem fP {α:Type}:∀ {l:List (String×α)}{n:String}{c:α},l.lookup n=some c->(n,c)∈l
 | (k,v)::r,n,c,h=>by
  rw [List.lookup_cons] at h
  cases hb:n==k with
  | true=>rw [hb] at h;cases h;exact qz (beq_iff_eq.mp hb) List.mem_cons_self
  | false=>rw [hb] at h;exact C5 _ (fP h)
set_option tactic.hygienic true in
theorem Ai7 {mean:ExcName->Option Value}{mg mb:Str->Option Value}{gl:Aa.Gl}{P:List (String×Aa.Fn)}
  (T:Top p loose mean mg mb h) (hc:kQ p loose gl P=true):eU ⟨prog,w,h,gl,λf=>P.lookup f,mg,mb⟩:=by
 unfold kQ at hc
 simp only [Bool.and_eq_true,List.all_eq_true] at hc
 obtain ⟨⟨h1,h2⟩,h3⟩:=hc
 have hfree:∀ n∈fC++fB,mg (Str.ofString n)=none:=λn hn=>by
  have:=h3 n hn
  unfold Ao9 at this
  simp only [Bool.and_eq_true,Bool.not_eq_true'] at this
  obtain ⟨⟨⟨⟨a1,a2⟩,a3⟩,a4⟩,a5⟩:=this
  exact T.free _ (by simpa using a1) (by simpa using a2) (by simpa using a3) (by simpa using a4) (by simpa using a5)
 refine ⟨T.g,T.b,T.nolimit,λg i hm=>?_,λf ls hf=>?_,λn hn=>⟨hfree n (List.mem_append_left _ hn),?_⟩,λn hn=>⟨hfree n (List.mem_append_right _ hn),?_⟩⟩
 ·have:=h2 _ hm
  unfold Be8 at this
  split at this
  ·rename_i i' e
   have ei:i'=i:=by simpa using this
   subst ei
   obtain ⟨v,hv,hr⟩:=T.const _ _ e
   cases hr default
   exact ⟨_,hv⟩
  ·cases this
 ·have:=h1 _ (fP hf)
  unfold Cg3 at this
  split at this
  ·rename_i fn e
   simp only [Bool.and_eq_true,beq_iff_eq,List.any_eq_true] at this
   apply Ah;intro g9 k9
   obtain ⟨hl,d,hd,hn,n3⟩:=this
   obtain ⟨a,o,pm,code,doc,q1,q2,q3,q4⟩:=T.fn d hd
   apply k9
   rw [hn] at q1 q3 q4
   exact ⟨fn,a,o,d.params,d.body,d.scope,pm,code,doc,e,hl,q1,q2,q3,q4,n3⟩
  ·cases this
 ·show mb (Str.ofString n)=_
  rw [T.builtins (Str.ofString n) (by
   simp only [fC,List.mem_cons,List.not_mem_nil,or_false] at hn
   rcases hn with rfl|rfl|rfl|rfl<;>decide +kernel)]
  simp only [fC,List.mem_cons,List.not_mem_nil,or_false] at hn
  rcases hn with rfl|rfl|rfl|rfl<;>decide +kernel
 ·show mb (Str.ofString n)=_
  rw [T.builtins (Str.ofString n) (by
   simp only [fB,List.mem_cons,List.not_mem_nil,or_false] at hn
   rcases hn with rfl|rfl|rfl|rfl|rfl|rfl|rfl<;>decide +kernel)]
  simp only [fB,List.mem_cons,List.not_mem_nil,or_false] at hn
  rcases hn with rfl|rfl|rfl|rfl|rfl|rfl|rfl<;>decide +kernel
theorem Ai5:∀ {xs:List WData},WShape.hasItems R xs .int=true->∃ ns:List Int,xs=ns.map WData.int:=by
 intro xs
 induction xs with
 | nil=>exact λZ=>⟨[],rfl⟩
 | cons x xs ih =>
  exact λh=>by
   simp only [WShape.hasItems,Bool.and_eq_true] at h
   obtain ⟨ns,rfl⟩:=ih h.2
   obtain ⟨i,rfl⟩:∃ i,x=.int i:=by
    cases x<;>first | exact ⟨_,rfl⟩ | exact absurd (show false=true from h.1) (by decide)
   exact ⟨i::ns,rfl⟩
theorem Bl6 {l:OpenLaw}(hm:l.most=some 63) {args:List WData}(p8:l.row.claim.pre args=true):∃ ns:List Int,args=[.list (ns.map WData.int)]/\ns.length<=63:=by
 obtain ⟨h1,h2⟩:=pre_splitW p8
 obtain ⟨d,r,rfl,hd,hr⟩:=hasAllW_cons h1
 obtain rfl:=hasAllW_nil hr
 replace hd:∃ xs,d=.list xs/\WShape.hasItems l.row.records xs .int=true:=by
  cases d<;>first | exact absurd (show false=true from hd) (by decide) | exact ⟨_,rfl,(Bool.or_false _).symm.trans hd⟩
 obtain ⟨xs,rfl,hd⟩:=hd
 obtain ⟨ns,rfl⟩:=Ai5 hd
 refine ⟨ns,rfl,?_⟩
 have h2:(l.pre).holds [] { args:=[.list (ns.map WData.int)] }=true:=h2
 unfold OpenLaw.pre at h2
 rw [hm] at h2
 by_cases hlt:ns.length<=63
 ·exact hlt
 ·exfalso
  have e:decide ((63:Int)<((ns.map WData.int).length:Int))=true:=by simp;exact Int.ofNat_lt.mpr (Aa.S5 (Nat.lt_of_not_le hlt))
  replace h2:=(holds_andW h2).1
  have e3:WTm.value [] (.not (.lt (.lit (.int (63:Nat))) (.len (.arg 0)))) { args:=[.list (ns.map WData.int)] }=some (WData.bool (!(decide ((63:Int)<((ns.map WData.int).length:Int))))):=rfl
  rw [e] at e3
  have e4:WTm.holds [] (.not (.lt (.lit (.int (63:Nat))) (.len (.arg 0)))) { args:=[.list (ns.map WData.int)] }=false:=by
   unfold WTm.holds
   refine qz e3 ?_
   rfl
  exact absurd (e4.symm.trans h2) (by decide)
theorem Ai1 {cl:Str->Option Addr}:∀ {ns:List Int}{vs:List Value}{as:List Addr},ReadsAllW R cl h vs (ns.map WData.int) as->dO ns vs:=by
 intro ns
 induction ns with
 | nil=>exact λH=>by cases H;trivial
 | cons i ns ih =>
  exact λH=>by
   cases H with
   | cons h1 h2 =>
    cases h1
    exact ⟨⟨_,rfl⟩,ih h2⟩
theorem Bl5 {l:OpenLaw}{args ds:List WData}:l.row.claim.post args (.bool true) ds=true:=by kernel_rfl
end Bq
namespace Aa
open PySem (Expr Stmt Str NameKind Scope Const Operator CmpOp BoolOp UnaryOp Arguments Comprehension Keyword Pos ExceptHandler)
noncomputable def Af0 (gl:Gl) (sc:List (Str×NameKind)) (nm:List Str) (t:E) (f:String) (es:List E) (e3:E) (rest:List S) (ss:List Stmt):Bool:=match ss with
 | st::rs=>Au7 st (λt' b o Z=>K2 gl sc nm t t'&&o.isEmpty&&one? b λr=>bG r λv Z=>some? v λe=>bH e λop as Z=>op==.And&&two? as λa b=>K2 gl sc nm e3 b&&aI a λg xs ks Z=>ks.isEmpty&&S0 gl sc nm es xs&&U2 g λid Z=>id==Str.ofString f&&V6 sc id&&R3 id)&&S8 gl sc nm rest rs
 | []=>false
theorem Az1 {gl:Gl}(hc:Af0 gl sc nm t f es e3 rest ss=true) {P:Prop}
  (k:∀ t' np xs cp b bp rp ip rs,ss=.If t' [.Return (some (.BoolOp .And [.Call (.Name (Str.ofString f) np) xs [] cp,b] bp)) rp] [] ip::rs->K2 gl sc nm t t'=true->K2 gl sc nm e3 b=true->S0 gl sc nm es xs=true->V6 sc (Str.ofString f)=true->R3 (Str.ofString f)=true->S8 gl sc nm rest rs=true->P):P:=by
 cases ss with
 | nil=>exact Aa.xF (show false=true from hc)
 | cons st rs =>
  replace hc:=E7 hc
  refine Ap8 hc.1 λt' b o ip e1 h1=>?_
  refine W6 (E7 h1).2 λr e2 h2=>?_
  refine fN h2 λv rp e4 h4=>?_
  refine bV h4 λe e5 h5=>?_
  refine fO h5 λop as bp e6 h6=>?_
  refine gZ (E7 h6).2 λa b' e7 h7=>?_
  refine aU (E7 h7).2 λg xs ks cp e8 h8=>?_
  refine R9 (E7 h8).2 λid np e9 h9=>?_
  replace h9:=E7 h9
  have h10:=E7 h9.1
  have e10:=eq_of_beq h10.1
  subst e10
  exact k t' np xs cp b' bp rp ip rs (qz e1 (qz e2 (qz e4 (qz e5 (qz e6 (qz e7 (qz e8 (qz e9 (qz (eq_of_beq (E7 h6).1) (qz (V5 (E7 (E7 h8).1).1) (qz (V5 (E7 (E7 h1).1).2) rfl))))))))))) (E7 (E7 h1).1).1 (E7 h7).1 (E7 (E7 h8).1).2 h10.2 h9.2 hc.2
end Aa
namespace Bq
open PySem PySem.Calls PyProof.Rows PySem.W
open Aa (V D)
section
variable {X:Cx}{A:Around}{Cc:Addr}{c:String}
theorem sC {φ φ' ψ:List Addr}{b n:Nat}(g:φ'=φ++ψ) (m:∀ a∈ψ,n<=a) (hb:b ∉ φ) (hn:b<n):b ∉ φ':=by
 refine qz g ?_;rw [List.mem_append,not_or]
 exact ⟨hb,λhm=>absurd hn (Nat.not_lt.mpr (m b hm))⟩
theorem Aw4 {n:Nat}(G:eU X) (g8:rP X c Cc) (hh:A.handled=none) (hA:A.frames=some []) (hd:A.depth+(n+1+1)<=recursionLimit) (hu:A.units+3 * (n+1+1)+106<cLine)
  {o:Obj}{body:List Stmt}{es:List Aa.E}{rest:List Aa.S}
  (ho:X.h₀.get? fa=some o) (hdt:o.data=.func (docDef (Str.ofString f) params body scope pm cd doc)) (o9:X.h₀.CodeRec cd (Str.ofString f))
  (n3:Aa.iO X.gl fn params (body.take fn.body.length) scope=true) (htr:Aa.Af0 (M5 X fn.lits).gl scope.names (fn.names.map Str.ofString) t g es e3 rest (body.drop fn.body.length)=true)
  {og:Obj}{Fo:List Stmt}{tr e1 e2:Aa.E}{post:List Aa.S}(hm:X.mg (Str.ofString g)=some (.ref ga)) (hli:gn.lits=[])
  (hog:X.h₀.get? ga=some og) (hdg:og.data=.func (docDef (Str.ofString g) Ff Fo Ep pmG cdG docG)) (hcg:X.h₀.CodeRec cdG (Str.ofString g))
  (hkg:Aa.iO X.gl gn Ff (Fo.take gn.body.length) Ep=true) (htg:Aa.tP (M5 X gn.lits).gl Ep.names (gn.names.map Str.ofString) c (.ite tr [.expr e1] [.expr e2]) [.ret (.bool true)] post (Fo.drop gn.body.length)=true)
  {vs:List V}{xs:List Value}{H:Aa.Heap}{φ:List Addr}{s:Shared}{Q:Aa.F8}(b7:vs.length=fn.params)
  (O:Ok X.h₀ φ H s.heap) (rs:H8 X.h₀ φ s.heap vs xs) (j5:X.gl.pos=true->0<s.toks∨fn.bump=true) (i9:∀ j∈fn.lits,∀ x,xs[j]? = some x->∃ y t,x=.str y t/\0<t/\t<s.toks)
  (hw:Aa.Ck9 X.P c n fn.body t gn tr e1 e2 es e3 rest (Aa.frame fn vs) Q H) {K EX:Value->Shared->Prop}
  (k:∀ v H' φ' x s',Q v H'->(∃ h' tk,s'={ s with heap:=h',toks:=tk })->(∀ b o,b ∉ φ->s.heap.get? b=some o->s'.heap.get? b=some o)->L8 X.h₀ φ' s'.heap v x->K x s'):wpAny (S9 X) A (call (.ref fa) xs) K EX s:=by
 refine wpAny_call (gG G (D6 (C9 (Nat.succ_pos _)) hd) ho hdt o9 n3 b7 O rs j5 i9 λenv s9 I c13=>?_)
 have hdn:(A.deeper env).depth+(n+1)<=recursionLimit:=by show A.depth+1+(n+1)<=_;exact qz (B5 _ _ _) hd
 have hun:(A.deeper env).units+3 * (n+1)+106<cLine:=by show A.units+3+3 * (n+1)+106<_;exact qz (C2 A.units 3 _) (qz (Nat.add_comm 3 _) hu)
 have hun':(A.deeper env).units+106<cLine:=D7 (C4 (A6 (A7 3 (3 * (n+1))) _) _) hu
 have hAn:(A.deeper env).frames=some [env]:=Around.frames_deeper hA
 have Ex:=uJ (n+1) (M5 X fn.lits) (A.deeper env) (G.lits _) hh hdn hun
 have aE:=M4 (X:=M5 X fn.lits) (A:=A.deeper env) (G.lits _) hh hun' Ex
 have fin:∀ {v H' φ' x s'},Q v H'->(∃ h' tk,s'={ s9 with heap:=h',toks:=tk })->(∀ b o,b ∉ φ->¬ Own env b->b<s9.heap.objs.size->s9.heap.get? b=some o->s'.heap.get? b=some o)->L8 X.h₀ φ' s'.heap v x->K x s':=λ{v H' φ' x s'} q hs hk r=>by
  obtain ⟨⟨⟨h1,t1,e1⟩,_,_,_⟩,_,_⟩:=I.F
  obtain ⟨h2,t2,e2⟩:=hs
  exact k v H' φ' x s' q ⟨h2,t2,qz e2 (qz e1 rfl)⟩ (λb o hb e=>hk b o hb (I.own b (Heap.lt_size e)) (Heap.lt_size (I.keep b o e)) (I.keep b o e)) r
 refine qz (Eq.symm (List.take_append_drop fn.body.length body)) ?_
 refine sA (X:=M5 X fn.lits) (A:=A.deeper env) fn.body _ env _ _ _ H φ s9 _ _ (λst Z=>Am9 (X:=M5 X fn.lits) (A:=A.deeper env) (G.lits _) hh hun' Ex st) c13 I.L I.F.ok hw λρ2 H2 φ2 s2 q F2 L2=>?_
 refine Aa.Az1 htr λt' np ys cp b bp rp ip j9 eb g1 g2 g3 g4 g5 g6=>?_
 show wpAny (S9 X) (A.deeper env) (execs (body.drop fn.body.length) env) _ _ s2
 refine qz eb ?_
 rw [<- I.sc] at g1 g2 g3 g4 g6
 refine wpAny_execs_cons (wpAny_If ((aE t).2 _ env _ ρ2 _ H2 φ2 s2 _ _ g1 L2 F2.ok q λw H3 φ3 s3 q3 F3=>?_))
 have FF:=F2.trans (F3.toS env)
 have L3:=L2.fwd F2.ok F3
 cases w with
 | false =>
  refine wpAny_execs_nil (dN (X:=M5 X fn.lits) (A:=A.deeper env) (G.lits _) hh hun' Ex rest j9 env _ ρ2 _ H3 φ3 s3 _ _ g6 L3 F3.ok q3 λfl ρ4 H4 φ4 ff s4 q4 F4 L4 r4=>?_)
  obtain ⟨v,rfl,q4⟩:=q4
  obtain ⟨y,rfl,r4⟩:=r4
  exact fin q4 (FF.trans F4).same (λb o h1 h2 Z h3=>(FF.trans F4).keep b o h1 h2 h3) r4
 | true =>
  refine wpAny_execs_cons (wpAny_Return_some (BoolOp_and ?_))
  simp only [Aa.R3,Bool.and_eq_true,Bool.not_eq_true'] at g5
  refine wpAny_Call_NameR (aS (X:=M5 X fn.lits) (G.lits _) L3 F3.ok g4 g5.1 hm ?_)
  refine callWith_function (o:=og) (fd:=docDef (Str.ofString g) Ff Fo Ep pmG cdG docG) (Y7 (X:=M5 X fn.lits) g3 (cT (X:=M5 X fn.lits) es ys env _ ρ2 _ H3 φ3 s3 _ _ cp (eX (X:=M5 X fn.lits) (A:=A.deeper env) (G.lits _) hh hun' Ex es).1 g3 L3 F3.ok q3 λvs H4 φ4 xs s4 q4 F4 r4 d6 hla=>?_))
  have L4:=L3.fwd F3.ok F4
  have FF4:=FF.trans (F4.toS env)
  have hl4:T3 X.h₀ [env] s4.heap:=λv hv=>by
   obtain rfl:=B1 hv
   obtain ⟨m,q,_⟩:=L4.locals
   exact ⟨L4.kind,I.fr,L4.above,m,q⟩
  refine ⟨⟨F4.ok.base _ _ hog,hdg⟩,Bl2 (X:=X) (A:=A.deeper env) (fr:=[env]) G g8 hh hAn hdn hun hog hdg hcg hkg htg q4.1 F4.ok r4 (λhp=>Or.inl (L4.pos hp)) (λj hj=>by rw [hli] at hj;cases hj) hl4 q4.2 λH5 φ5 s5 e q5 Y=>?_⟩
  refine wpAny_truthy_bool ?_
  refine BoolOp_one ((aE e3).1 _ env _ ρ2 _ H5 φ5 s5 _ _ g2 (L4.flyed F4.ok hl4 Y) Y.ok q5 λv H6 φ6 x s6 q6 F6 r6=>fin q6 ?_ (λb o h1 h2 h3 h4=>?_) r6)
  ·apply Ah;intro g9 k9
   obtain ⟨h7,t7,e7⟩:=F6.step.same
   obtain ⟨h5,t5,e5⟩:=Y.same
   obtain ⟨h4,t4,e4⟩:=FF4.same
   apply k9
   exact ⟨h7,t7,qz e7 (qz e5 (qz e4 rfl))⟩
  ·obtain ⟨ψ4,gr4,m4⟩:=FF4.grow
   obtain ⟨ψ5,gr5,m5⟩:=Y.grow
   have a4:=FF4.keep b o h1 h2 h4
   have n4:b ∉ φ4:=sC gr4 m4 h1 h3
   have n5:b ∉ φ5:=sC gr5 m5 n4 (Heap.lt_size a4)
   have nf:b ∉ Cz [env]:=by
    refine qz (show Cz [env]=[env.locals] by show [env].filterMap _=_;rw [List.filterMap_cons,I.fr];rfl) ?_;rw [List.mem_singleton]
    exact λq=>h2 (Or.inl q)
   exact F6.step.keep b o n5 (Y.keep b o n4 id nf a4)
end
noncomputable def By1 (p:Program) (gl:Aa.Gl) (fn:Aa.Fn) (t:Aa.E) (g:String) (es:List Aa.E) (e3:Aa.E) (rest:List Aa.S):Bool:=(recsOf p).any λd=>d.name==Str.ofString "law" && Aa.iO gl fn d.params (d.body.take fn.body.length) d.scope&&Aa.Af0 { gl with lits:=fn.lits } d.scope.names (fn.names.map Str.ofString) t g es e3 rest (d.body.drop fn.body.length)
noncomputable def Cm3 (p:Program) (gl:Aa.Gl) (g:String) (fn:Aa.Fn) (c:String) (tr e1 e2:Aa.E) (post:List Aa.S):Bool:=(recsOf p).any λd=>d.name==Str.ofString g&&Aa.iO gl fn d.params (d.body.take fn.body.length) d.scope&&Aa.tP { gl with lits:=fn.lits } d.scope.names (fn.names.map Str.ofString) c (.ite tr [.expr e1] [.expr e2]) [.ret (.bool true)] post (d.body.drop fn.body.length)
theorem Aw3 {l:OpenLaw}(hmost:l.most=some 63) {p:Program}{loose:List Str}{w:World}{s₀ s9:Shared}{mg mb:Str->Option Value}{fa:Addr}{args:List WData}{vals:List Value}{as:List Addr}
  (T:Top p loose (ExcName.means s₀.heap) mg mb s9.heap) (hg:s9.gens=#[]) (hmg:mg (Str.ofString "law")=some (.ref fa)) (p8:l.row.claim.pre args=true) (hrd:ReadsAllW l.row.records (classAt s₀.heap) s9.heap vals args as)
  (gl:Aa.Gl) (P:List (String×Aa.Fn)) (n:Nat) (hn:n<=600) (hc:kQ p loose gl P=true) {fn gn:Aa.Fn}{c g newId:String}{bm:List Value}{t e3 tr e1 e2:Aa.E}{es:List Aa.E}{rest post:List Aa.S}(hlc:By1 p gl fn t g es e3 rest=true) (Dg:Cm3 p gl g gn c tr e1 e2 post=true)
  (Gh:specOf p (Str.ofString c)=some (newId,bm)) {Bn inN B nid j7:String}{bmN:List Value}(Fn:ExcBaseFacts Bn newId inN bmN) (hBn:bm.contains (.type Bn)=true) (FB:ExcBaseFacts B nid j7 bm) (n8:bm.contains (.type "BaseException")=true)
  (hb:fn.bump=true) (hli:fn.lits=[]) (hlg:gn.lits=[]) (hpa:fn.params=1)
  (hlaw:∀ ns:List Int,ns.length<=63->Aa.Ck9 (λf=>P.lookup f) c n fn.body t gn tr e1 e2 es e3 rest (Aa.frame fn [.Bv ns]) (λv Z=>v=.bool true) []) :
  wpAny (model l.row.prog w) callerA (call (.ref fa) vals)
   (λv s'=>GoodWG l.row.claim (classAt s₀.heap) (ExcName.means s₀.heap) args s9 (Except.ok (Flow.ret v)) s')
   (λe s'=>GoodWG l.row.claim (classAt s₀.heap) (ExcName.means s₀.heap) args s9 (Except.error e) s') s9:=by
 have G:=Ai7 (prog:=l.row.prog) (w:=w) T hc
 apply Ah;intro g9 k9
 obtain ⟨ns,rfl,i7⟩:=Bl6 hmost p8
 obtain ⟨C,O1,_⟩:=T.ownAt Gh
 replace hlc:=List.any_eq_true.mp hlc
 replace Dg:=List.any_eq_true.mp Dg
 obtain ⟨d,hd,hdc⟩:=hlc
 obtain ⟨d2,hd2,Gp⟩:=Dg
 replace hdc:=Aa.E7 hdc
 replace Gp:=Aa.E7 Gp
 have hdn:=eq_of_beq (Aa.E7 hdc.1).1
 have hdn2:=eq_of_beq (Aa.E7 Gp.1).1
 obtain ⟨a,o,pm,code,doc,q1,q2,q3,q4⟩:=T.fn d hd
 obtain ⟨a',o',pm',code',doc',u1,u2,u3,u4⟩:=T.fn d2 hd2
 apply k9
 rw [hdn] at q1 q3 q4
 rw [hdn2] at u1 u3 u4
 rw [hmg] at q1;cases q1
 cases hrd with
 | cons h1 h2 =>
  cases h2
  cases h1 with
  | list ho m8 hd0 hi =>
   have hi:=Ai1 hi
   refine Aw4 (X:=⟨l.row.prog,w,s9.heap,gl,λf=>P.lookup f,mg,mb⟩) (A:=callerA) (Cc:=C) (c:=c) (n:=n) (f := "law") (vs:=[.Bv ns]) (H:=[]) (φ:=[]) (s:=s9) G ⟨bm,newId,Bn,inN,bmN,B,nid,j7,O1,Fn,hBn,FB,n8⟩ rfl rfl ?_ ?_ q2 q3 q4 (Aa.E7 hdc.1).2 hdc.2 u1 hlg u2 u3 u4 (Aa.E7 Gp.1).2 Gp.2 (by refine qz hpa ?_;rfl) ?_ (H8.one ?_) (λhp=>Or.inr hb) (λj hj=>by rw [hli] at hj;cases hj) (hlaw ns i7) λv H' φ' x s' q hs hk r=>?_
   ·have e1:callerA.depth=301:=rfl
    have e2:recursionLimit=1000:=rfl
    exact Aa.S5 (Aa.U1 hn (Aa.U1 (A4 e1) (A4 e2.symm)))
   ·have e1:callerA.units=4:=rfl
    have e2:cLine=9900:=rfl
    exact Aa.S5 (Aa.U1 hn (Aa.U1 hn (Aa.U1 hn (Aa.U1 (A4 e1) (A4 e2.symm)))))
   ·exact ⟨λZ Z e=>e,rfl,List.nodup_nil,λa ha=>(Aa.xL ha),λl hl=>(Aa.xL hl),D3 _,λi a l hi=>(Aa.xN (show none=some a from hi))⟩
   ·have hlim:Aa.P0=16777216:=rfl
    exact ⟨by exact Aa.S5 (Aa.U1 i7 (A4 hlim.symm)),_,_,rfl,⟨_,ho,m8,_,by simpa using hd0⟩,hi⟩
   ·subst q
    obtain rfl:=aQ r
    obtain ⟨h',tk,e⟩:=hs
    refine ⟨Or.inl ⟨.bool true,.bool true,[],rfl,λZ=>rfl,.bool true,?_,λZ=>⟨List.nodup_nil,λa ha=>(Aa.xL ha)⟩⟩,.of_keep λb o e=>hk b o List.not_mem_nil e,qz e rfl,.of_eq (qz e hg)⟩
    exact Bl5
end Bq
namespace Aa
theorem lV {test:M6->F8->Heap->Prop}{body:M6->O3->Heap->Prop}(I:Nat->M6->Heap->Prop)
  (step:∀ k ρ H,I k ρ H->∀ K:M6->Heap->Prop,(∀ k' ρ' H',k'<k->I k' ρ' H'->K ρ' H')->test ρ (λv Hw=>Bb (O4 v) (λb Hw=>match b with
   | true=>body ρ (λfl ρ' Hz=>match fl with
    | .ret v=>Q (.ret v) ρ' Hz
    | _=>K ρ' Hz) Hw
   | false=>Q .next ρ Hw) Hw) H):∀ (n k:Nat) (ρ:M6) (H:Heap),k<n->I k ρ H->kE test body n ρ Q H
 | 0=>λk Z Z h Z=>absurd h (Nat.not_lt_zero _)
 | n+1=>λk ρ H h hI=>by
  exact step k ρ H hI (λρ' H'=>kE test body n ρ' Q H') λk' ρ' H' hk hI'=>lV I step n k' ρ' H' (D6 hk (Nat.le_of_lt_succ h)) hI'
theorem xQ (I:Nat->M6->Heap->Prop)
  (step:∀ k ρ H,I k ρ H->∀ K:M6->Heap->Prop,(∀ k' ρ' H',k'<k->I k' ρ' H'->K ρ' H')->L0 C c ρ (λv Hw=>Bb (O4 v) (λb' Hw=>match b' with
   | true=>K1 C b ρ (λfl ρ' Hz=>match fl with
    | .ret v=>Q (.ret v) ρ' Hz
    | _=>K ρ' Hz) Hw
   | false=>Q .next ρ Hw) Hw) H) (k:Nat) (h:I k ρ H):lE C (.Dq c b) ρ Q H:=by
 exact ⟨k+1,lV I step (k+1) k ρ H (D9 _) h⟩
theorem kY {body:M6->O3->Heap->Prop}{x:Nat}(len:Nat) (I:Nat->M6->Heap->Prop)
  (bound:∀ i ρ H v,I i ρ H->it.at H i=some v->i<len)
  (step:∀ i ρ H v,I i ρ H->it.at H i=some v->∀ K:M6->Heap->Prop,(∀ ρ' H',I (i+1) ρ' H'->K ρ' H')->body (ρ.set x (some v)) (λfl ρ' Hz=>match fl with
    | .ret v=>Q (.ret v) ρ' Hz
    | _=>K ρ' Hz) H)
  (fin:∀ i ρ H,I i ρ H->it.at H i=none->Q .next ρ H):∀ (n i:Nat) (ρ:M6) (H:Heap),len<n+i->I i ρ H->i<=len->cM body x it n i ρ Q H
 | 0=>λi Z Z h Z hi=>absurd h (Nat.not_lt_of_le (by exact qz (Nat.zero_add _) hi))
 | n+1=>λi ρ H h hI hi=>by
  show (match it.at H i with | none=>_ | some v=>_)
  cases e:it.at H i with
  | none=>exact fin i ρ H hI e
  | some v =>
   have hlt:=bound i ρ H v hI e
   exact step i ρ H v hI e (λρ' H'=>cM body x it n (i+1) ρ' Q H') λρ' H' hI'=>kY len I bound step fin n (i+1) ρ' H' (by rw [B5] at h;exact h) hI' hlt
theorem Aq5 {body:M6->O3->Heap->Prop}{x:Nat}(I:Nat->M6->Heap->Prop)
  (step:∀ i ρ H v,vs[i]? = some v->I i ρ H->∀ K:M6->Heap->Prop,(∀ ρ' H',I (i+1) ρ' H'->K ρ' H')->body (ρ.set x (some v)) (λfl ρ' Hz=>match fl with
    | .ret v=>Q (.ret v) ρ' Hz
    | _=>K ρ' Hz) H)
  (fin:∀ ρ H,I vs.length ρ H->Q .next ρ H) (h0:I 0 ρ H):∃ n,cM body x (.fix vs) n 0 ρ Q H :=
 ⟨vs.length+1,kY (it:=.fix vs) vs.length (λi ρ H=>i<=vs.length/\I i ρ H) (λi ρ H v Z e=>(A3 e).1)
  (λi ρ H v hI e K hK=>step i ρ H v e hI.2 K λρ' H' h'=>hK ρ' H' ⟨(A3 e).1,h'⟩)
  (λi ρ H hI e=>fin ρ H (by
   have:vs.length<=i:=List.getElem?_eq_none_iff.mp e
   have:i=vs.length:=Nat.le_antisymm hI.1 this
   subst this;exact hI.2)) _ 0 ρ H (D9 _) ⟨D8 _,h0⟩ (D8 _)⟩
theorem Ca9 {body:M6->O3->Heap->Prop}{x a:Nat}(I:Nat->M6->Heap->Prop) (hl:∀ i ρ H,I i ρ H->H[a]? = some l)
  (step:∀ i ρ H v,l[i]? = some v->I i ρ H->∀ K:M6->Heap->Prop,(∀ ρ' H',I (i+1) ρ' H'->K ρ' H')->body (ρ.set x (some v)) (λfl ρ' Hz=>match fl with
    | .ret v=>Q (.ret v) ρ' Hz
    | _=>K ρ' Hz) H)
  (fin:∀ ρ H,I l.length ρ H->Q .next ρ H) (h0:I 0 ρ H):∃ n,cM body x (.lst a) n 0 ρ Q H:=by
 have Gv:∀ i ρ H,I i ρ H->(It.lst a).at H i=l[i]?:=λi ρ H h=>by
  unfold It.at;simp only [hl i ρ H h]
 exact ⟨l.length+1,kY l.length (λi ρ H=>i<=l.length/\I i ρ H) (λi ρ H v h e=>by rw [Gv i ρ H h.2] at e;exact (A3 e).1)
  (λi ρ H v hI e K hK=>by
   rw [Gv i ρ H hI.2] at e
   exact step i ρ H v e hI.2 K λρ' H' h'=>hK ρ' H' ⟨(A3 e).1,h'⟩)
  (λi ρ H hI e=>fin ρ H (by
   rw [Gv i ρ H hI.2] at e
   have:l.length<=i:=List.getElem?_eq_none_iff.mp e
   have:i=l.length:=Nat.le_antisymm hI.1 this
   subst this;exact hI.2)) _ 0 ρ H (D9 _) ⟨D8 _,h0⟩ (D8 _)⟩
theorem Aq6 {i6:M6->F8->Heap->Prop}{x:Nat}{Q:List V->Heap->Prop}(vs:List V) (f:V->V)
  (Cf:∀ i,it.at H i=vs[i]?) (b7:vs.length<=P0) (he:∀ v∈vs,∀ K:F8,K (f v) H->i6 (ρ.set x (some v)) K H) (h:Q (vs.map f) H) :
  ∀ (n i:Nat) (d5:List V),vs.length<n+i->i<=vs.length->d5=(vs.take i).map f->bS i6 x ρ it n i d5 Q H
 | 0=>λi Z h hi Z=>absurd h (Nat.not_lt_of_le (by refine qz (Nat.zero_add _) ?_;exact hi))
 | n+1=>λi d5 hn hi hacc=>by
  show (match it.at H i with | none=>_ | some v=>_)
  rw [Cf]
  cases e:vs[i]? with
  | none =>
   have:i=vs.length:=Nat.le_antisymm hi (List.getElem?_eq_none_iff.mp e)
   subst this
   rw [List.take_length] at hacc
   simp only [hacc];exact h
  | some v =>
   have hlt:=(A3 e).1
   refine he v (E5 e) _ ⟨?_,Aq6 vs f Cf b7 he h n (i+1) _ (by rw [B5] at hn;exact hn) hlt (by refine qz hacc (qz List.take_add_one (qz e (qz C3 ?_)));rfl)⟩
   exact qz hacc (qz (E3 _) (qz (List.length_take_of_le hi) (D6 hlt b7)))
theorem yB {x:Nat}{Q:List V->Heap->Prop}(vs:List V) (f:V->V)
  (Cf:∀ i,it.at H i=vs[i]?) (b7:vs.length<=P0)
  (he:∀ v∈vs,∀ K:F8,K (f v) H->L0 C i6 (ρ.set x (some v)) K H) (h:Q (vs.map f) H):∃ n,bS (L0 C i6) x ρ it n 0 [] Q H :=
 ⟨vs.length+1,Aq6 vs f Cf b7 he h _ 0 [] (D9 _) (D8 _) rfl⟩
end Aa
namespace Aa
end Aa
namespace Aa
noncomputable def R8 (C:Calls) (ss:List S) (Q:O3):O3:=λfl ρ' Hw=>match fl with
 | .next=>K1 C ss ρ' Q Hw
 | fl=>Q fl ρ' Hw
noncomputable def S1 (Q:F8):O3:=λfl Z Hw=>match fl with
 | .ret v=>Q v Hw
 | _=>Q .none Hw
noncomputable def gS (Q:O3) (K:M6->Heap->Prop):O3:=λfl ρ' Hz=>match fl with
 | .ret v=>Q (.ret v) ρ' Hz
 | _=>K ρ' Hz
section
variable {C:Calls}{ρ:M6}{H:Heap}{Q:F8}{R:O3}{ss:List S}
theorem iZ (h:K1 C ss ρ R H):R8 C ss R .next ρ H:=h
theorem E9 {P:Prg}{n:Nat}(hf:P f=some fn) (hl:vs.length=fn.params) (h:K1 (Ac P n) fn.body (frame fn vs) (S1 Q) H):Ac P (n+1) f vs Q H:=by
 show (match P f with | some fn=>_ | none=>_)
 rw [hf]
 exact ⟨hl,h⟩
theorem oD (h:R .next ρ H):K1 C [] ρ R H:=h
theorem M7 (h:lE C s ρ (R8 C ss R) H):K1 C (s::ss) ρ R H:=h
theorem P1 {x:Nat}(h:L0 C e ρ (λv Hw=>K1 C ss (ρ.set x (some v)) R Hw) H):K1 C (.assign x e::ss) ρ R H:=h
theorem aH (h:L0 C e ρ (λv Hw=>R (.ret v) ρ Hw) H):K1 C (.ret e::ss) ρ R H:=h
theorem Ch3 (h:Q (.int i) H):L0 C (.int i) ρ Q H:=h
theorem Cv8 (h:Q (.str s) H):L0 C (.str s) ρ Q H:=h
theorem eY {x:Nat}(hx:ρ[x]? = some (some v)) (h:Q v H):L0 C (.var x) ρ Q H:=by
 show (match ρ[x]? with | some (some v)=>Q v H | _=>False)
 rw [hx];exact h
theorem cQ (h:L0 C l ρ (λa Hw=>L0 C r ρ (λb Hz=>res (eR o a b Hz) Q) Hw) H):L0 C (.bin o l r) ρ Q H:=h
theorem Cv9 (h:L0 C l ρ (λa Hw=>L0 C r ρ (λb Hz=>Bb (W5 o a b Hz) (λb H=>Q (.bool b) H) Hz) Hw) H):L0 C (.cmp o l r) ρ Q H:=h
theorem rT (h:L0 C o ρ (λvo Hw=>L0 C i ρ (λvi Hz=>val (cL vo vi Hz) Q Hz) Hw) H):L0 C (.idx o i) ρ Q H:=h
theorem P7 (h:V2 C es ρ (λvs Hw=>C f vs Q Hw) H):L0 C (.call f es) ρ Q H:=h
theorem aJ (h:V2 C es ρ (λvs Hw=>Q (.ref Hw.length) (Hw++[vs])) H):L0 C (.list es) ρ Q H:=h
theorem T5 (h:V2 C es ρ (λvs Hw=>Q (.tup vs) Hw) H):L0 C (.tup es) ρ Q H:=h
theorem K8 {Q:List V->Heap->Prop}(h:Q [] H):V2 C [] ρ Q H:=h
theorem Q9 {Q:List V->Heap->Prop}(h:L0 C e ρ (λv Hw=>V2 C es ρ (λvs Hz=>Q (v::vs) Hz) Hw) H):V2 C (e::es) ρ Q H:=h
theorem Z3 {k n:Nat}(h:k<n):R2 (k:Int) n=some k:=by
 unfold R2
 rw [if_pos (C6 k),if_pos (Int.ofNat_lt.mpr h)];rfl
theorem Ae1 {a:Nat}{l:List V}{k:Nat}(ha:H[a]? = some l) (hk:l[k]? = some c) (h:Q c H):val (cL (.ref a) (.int k) H) Q H:=by
 unfold cL T4
 simp only [ha,Z3 (A3 hk).1,Option.bind_some,hk];exact h
end
section
variable {H:Heap}{Q:F8}
theorem Ax8 {n:Nat}(h0:0<=i) (h:i.toNat<n):R2 i n=some i.toNat:=by
 unfold R2
 rw [if_pos h0,if_pos ((Int.toNat_lt h0).mp h)]
theorem By7 (ha:H[a]? = some l) (h0:0<=i) (hk:l[i.toNat]? = some c) (h:Q c H):val (cL (.ref a) (.int i) H) Q H:=by
 unfold cL T4
 simp only [ha,Ax8 h0 (A3 hk).1,Option.bind_some,hk];exact h
theorem gH {n:Nat}(h:0<=i):nU i n=min i.toNat n:=by unfold nU;rw [if_neg (by omega)]
theorem oX {α:Type}{l:List α}{i:Int}(h:0<=i):slice l none (some i)=l.take i.toNat:=by
 unfold slice wI Ad4
 simp only
 rw [gH h,List.drop_zero]
 by_cases q:i.toNat<=l.length
 ·rw [Nat.min_eq_left q]
 ·rw [Nat.min_eq_right (by exact S5 (Nat.lt_of_not_le q)),List.take_of_length_le (D3 _),List.take_of_length_le (by exact S5 (Nat.lt_of_not_le q))]
theorem X0 {α:Type}{l:List α}{i:Int}(h:0<=i):slice l (some i) none=l.drop i.toNat:=by
 unfold slice wI Ad4
 simp only
 rw [gH h,List.take_length]
 by_cases q:i.toNat<=l.length
 ·rw [Nat.min_eq_left q]
 ·rw [Nat.min_eq_right (by exact S5 (Nat.lt_of_not_le q)),List.drop_eq_nil_of_le (D3 _),List.drop_eq_nil_of_le (by exact S5 (Nat.lt_of_not_le q))]
theorem Z2 {α:Type}{l:List α}{i j:Int}(h:0<=i) (h':0<=j):slice l (some i) (some j)=(l.drop i.toNat).take (j.toNat - i.toNat):=by
 unfold slice wI Ad4
 simp only
 rw [gH h,gH h',List.drop_take]
 by_cases q:i.toNat<=l.length
 ·rw [Nat.min_eq_left q]
  by_cases q':j.toNat<=l.length
  ·rw [Nat.min_eq_left q']
  ·have q2:=Nat.le_of_not_le q'
   rw [Nat.min_eq_right q2]
   rw [List.take_of_length_le (by rw [List.length_drop];exact D3 _),List.take_of_length_le (by rw [List.length_drop];exact Nat.sub_le_sub_right q2 _)]
 ·have q2:=Nat.le_of_not_le q
  rw [Nat.min_eq_right q2,List.drop_eq_nil_of_le (D3 _),List.drop_eq_nil_of_le q2,List.take_nil,List.take_nil]
mutual
theorem yA:∀ d:D,vZ d d=true
 | .none=>rfl
 | .bool b=>beq_self_eq_true b
 | .int i=>beq_self_eq_true i
 | .str s=>beq_self_eq_true s
 | .list l=>kZ l
 | .tup l=>kZ l
theorem kZ:∀ l:List D,Au8 l l=true
 | []=>rfl
 | d::l=>Bool.and_eq_true_iff.mpr ⟨yA d,kZ l⟩
end
end
theorem Bm8 {n:Nat}(hn:n<4611686018427387904):(-4611686018427387904:Int)<=(n:Int)/\(n:Int)<4611686018427387904:=by
 constructor<;>omega
theorem Bm7 {n:Nat}:cF (.int (n:Int))=@ite _ (-4611686018427387904<=(n:Int)/\(n:Int)<4611686018427387904) (Classical.propDecidable _) (some (.fix ((List.range (n:Int).toNat).map λk:Nat=>V.int (k:Int)))) none:=rfl
theorem Ax7 {n:Nat}(hn:n<4611686018427387904):cF (.int (n:Int))=some (.fix ((List.range n).map λk:Nat=>V.int (k:Int))):=by
 rw [Bm7,if_pos (Bm8 hn),Int.toNat_natCast]
theorem xS:∀ l:List (List Nat),Ad0 (l.map V.str)=some l
 | []=>rfl
 | x::l=>by
  simp only [List.map_cons]
  show (Ad0 (l.map V.str)).map (x::·)=_
  rw [xS l];rfl
theorem Ch1 (l:List (List Nat)) (ha:H[a]? = some (l.map V.str)) (hl:(l.map List.length).sum+l.length * s.length<=P0) (h:Q (.str (Ad s l)) H):lL s (.ref a) Q H:=by
 unfold lL
 have:(H[a]?).bind Ad0=some l:=by rw [ha];exact xS l
 simp only [this]
 exact ⟨hl,h⟩
theorem xT:∀ l:List (List Nat),Ad [] l=l.flatten
 | []=>rfl
 | [w]=>(List.append_nil w).symm
 | w::w2::r=>by
  show w++[]++Ad [] (w2::r)=_
  rw [xT (w2::r),List.append_nil];rfl
section
variable {C:Calls}{ρ:M6}{H:Heap}{Q:F8}{R:O3}{ss:List S}
theorem Q4 (ha:H[a]? = some l) (hl:l.length<P0) (h:Q .none (H.set a (l++[v]))):Cy (W2 (.ref a) v H) Q:=by
 unfold W2;simp only [ha,Option.bind_some,if_pos hl];exact h
theorem Cv5 (ha:H[a]? = some l) (hk:R2 i l.length=some k) (h:Q .none (H.set a (l.set k v))):Cy (Ck6 (.ref a) (.int i) v H) Q:=by
 show Cy ((H[a]?).bind λl=>(R2 i l.length).map λk=>H.set a (l.set k v)) Q
 rw [ha]
 show Cy ((R2 i l.length).map λk=>H.set a (l.set k v)) Q
 rw [hk];exact h
theorem Bc5 (ha:H[a]? = some (l++[v])) (h:Q v (H.set a l)):res (Ad2 (.ref a) H) Q:=by
 unfold Ad2;simp only [ha,Option.bind_some,List.getLast?_append,List.getLast?_singleton,Option.some_or,Option.map_some,List.dropLast_concat];exact h
theorem pW {n:Nat}:R2 (-1) (n+1)=some n:=by
 unfold R2
 have e:(-1:Int)+((n+1:Nat):Int)=(n:Nat):=by rw [Int.add_comm];exact Int.add_sub_cancel (n:Int) 1
 have q:-((n+1:Nat):Int)<=-1:=Int.neg_le_neg (Int.ofNat_le.mpr (E0 (D8 n)))
 rw [if_neg (by decide),e,if_pos q];rfl
end
section
variable {C:Calls}{ρ:M6}{H:Heap}{Q:F8}
end
theorem hO (ha:H[a]? = some l) (hb:H[b]? = some r) (hl:l.length+r.length<=P0) (h:Q (.ref H.length) (H++[l++r])):res (eR .add (.ref a) (.ref b) H) Q:=by
 show res ((H[a]?).bind λl=>(H[b]?).bind λr=>if l.length+r.length<=P0 then some (.ref H.length,H++[l++r]) else none) Q
 rw [ha]
 show res ((H[b]?).bind λr=>if l.length+r.length<=P0 then some (.ref H.length,H++[l++r]) else none) Q
 rw [hb]
 show res (if l.length+r.length<=P0 then some (.ref H.length,H++[l++r]) else none) Q
 rw [if_pos hl];exact h
end Aa
open Aa
namespace L11
open Aa
noncomputable abbrev J0:E:=.var 0
noncomputable abbrev J1:E:=.var 1
noncomputable abbrev J2:E:=.var 2
noncomputable abbrev J3:E:=.var 3
noncomputable abbrev J4:E:=.var 4
noncomputable abbrev J5:E:=.var 5
noncomputable abbrev J6:E:=.var 6
noncomputable abbrev J7:E:=.var 7
noncomputable abbrev J8:E:=.var 8
noncomputable abbrev J9:E:=.var 9
noncomputable abbrev J10:E:=.var 10
noncomputable abbrev J11:E:=.var 11
noncomputable abbrev I0:E:=.int 0
noncomputable abbrev I1:E:=.int 1
noncomputable abbrev I2:E:=.int 2
noncomputable abbrev I3:E:=.int 3
noncomputable abbrev I4:E:=.int 4
noncomputable abbrev I5:E:=.int 5
noncomputable abbrev I6:E:=.int 6
noncomputable abbrev I7:E:=.int 7
noncomputable abbrev I9:E:=.int 9
noncomputable abbrev I12:E:=.int 12
noncomputable abbrev I94:E:=.int 94
noncomputable def Bb1:Fn:=⟨["sign", "code"],1,[],false,[
  .assign 1 (.ord J0),
  .ret (.and [.cmp .le (.int 32) J1,.cmp .le J1 (.int 126),.cmp .ne J1 (.int 37)])]⟩
noncomputable def Bs5:Fn:=⟨["thing", "sign"],1,[],false,[
  .ite (.not (.Ae J0 .str)) [
   .ret (.bool false)] [],
  .forIn 1 J0 [
   .ite (.not (.call "is_sign" [J1])) [
    .ret (.bool false)] []],
  .ret (.bool true)]⟩
noncomputable def Bb3:Fn:=⟨["top", "opened"],2,[],false,[
  .ite (.cmp .gt (.len J1) I0) [
   .ret (.idx (.idx J1 (.neg 1)) I2)] [],
  .ret J0]⟩
noncomputable def Aa8:Fn:=⟨["parts", "sign"],2,[],false,[
  .ite (.and [.cmp .gt (.len J0) I0,.Ae (.idx J0 (.neg 1)) .str]) [
   .Bs J0 (.neg 1) (.bin .add (.idx J0 (.neg 1)) J1)] [
   .expr (.append J0 J1)]]⟩
noncomputable def Bb4:Fn:=⟨["row", "at", "end"],2,[],false,[
  .assign 2 (.find J0 (.str [96]) (.bin .add J1 I1)),
  .ite (.cmp .lt J2 I0) [
   .ret (.tup [.tup [.str [99,111,100,101],.Aw J0 (.bin .add J1 I1),.bool false],.len J0])] [],
  .ret (.tup [.tup [.str [99,111,100,101],.slc J0 (.bin .add J1 I1) J2,.bool true],.bin .add J2 I1])]⟩
noncomputable def Ba6:Fn:=⟨["row", "at", "parts", "end"],3,[],false,[
  .ite (.cmp .ne (.slc J0 (.bin .add J1 I1) (.bin .add J1 I2)) (.str [40])) [
   .ret (.tup [.tup [.str [108,105,110,107],J2,.none,.bool true],.bin .add J1 I1])] [],
  .assign 3 (.find J0 (.str [41]) (.bin .add J1 I2)),
  .ite (.cmp .lt J3 I0) [
   .ret (.tup [.tup [.str [108,105,110,107],J2,.Aw J0 (.bin .add J1 I2),.bool false],.len J0])] [],
  .ret (.tup [.tup [.str [108,105,110,107],J2,.slc J0 (.bin .add J1 I2) J3,.bool true],.bin .add J3 I1])]⟩
noncomputable def Cf4:Fn:=⟨["row", "at", "opened"],3,[],false,[
  .ite (.cmp .ge (.len J2) (.glob "MOST_OPEN" 12)) [
   .ret (.bool false)] [],
  .ret (.or [.cmp .eq (.idx J0 J1) (.str [91]),.and [.cmp .isin (.idx J0 J1) (.str [42,95,126]),.cmp .eq (.slc J0 (.bin .add J1 I1) (.bin .add J1 I2)) (.str [40])]])]⟩
noncomputable def Bb0:Fn:=⟨["opened", "kind"],2,[],false,[
  .ret (.and [.cmp .gt (.len J0) I0,.cmp .eq (.idx (.idx J0 (.neg 1)) I0) J1])]⟩
noncomputable def Cf5:Fn:=⟨["top", "opened", "frame", "parts"],2,[],false,[
  .Dq (.cmp .gt (.len J1) I0) [
   .assign 2 (.pop J1),
   .assign 3 (.call "here_of" [J0,J1]),
   .ite (.cmp .eq (.idx J2 I0) (.str [115,112,97,110])) [
    .expr (.append J3 (.tup [.str [115,112,97,110],.idx J2 I1,.idx J2 I2,.bool false]))] [
    .expr (.append J3 (.tup [.str [108,105,110,107],.idx J2 I2,.none,.bool false]))]],
  .ret J0]⟩
noncomputable def Al5:Fn:=⟨["row", "top", "opened", "at", "sign", "parts", "made", "frame"],1,[],false,[
  .assign 1 (.list []),
  .assign 2 (.list []),
  .assign 3 I0,
  .Dq (.cmp .lt J3 (.len J0)) [
   .assign 4 (.idx J0 J3),
   .assign 5 (.call "here_of" [J1,J2]),
   .ite (.cmp .eq J4 (.str [92])) [
    .expr (.append J5 (.tup [.str [107,101,112,116],.slc J0 (.bin .add J3 I1) (.bin .add J3 I2)])),
    .assign 3 (.bin .add J3 I2)] [
    .ite (.cmp .eq J4 (.str [96])) [
     .assign 6 (.call "code_at" [J0,J3]),
     .expr (.append J5 (.idx J6 I0)),
     .assign 3 (.idx J6 I1)] [
     .ite (.call "opens" [J0,J3,J2]) [
      .ite (.cmp .eq J4 (.str [91])) [
       .expr (.append J2 (.list [.str [108,97,98,101,108],.str [],.list []])),
       .assign 3 (.bin .add J3 I1)] [
       .expr (.append J2 (.list [.str [115,112,97,110],J4,.list []])),
       .assign 3 (.bin .add J3 I2)]] [
      .ite (.and [.cmp .eq J4 (.str [41]),.call "last_is" [J2,.str [115,112,97,110]]]) [
       .assign 7 (.pop J2),
       .expr (.append (.call "here_of" [J1,J2]) (.tup [.str [115,112,97,110],.idx J7 I1,.idx J7 I2,.bool true])),
       .assign 3 (.bin .add J3 I1)] [
       .ite (.and [.cmp .eq J4 (.str [93]),.call "last_is" [J2,.str [108,97,98,101,108]]]) [
        .assign 6 (.call "link_at" [J0,J3,.idx (.pop J2) I2]),
        .expr (.append (.call "here_of" [J1,J2]) (.idx J6 I0)),
        .assign 3 (.idx J6 I1)] [
        .expr (.call "put_plain" [J5,J4]),
        .assign 3 (.bin .add J3 I1)]]]]]],
  .ret (.call "ended" [J1,J2])]⟩
noncomputable def Bs1:Fn:=⟨["row", "sign", "many"],2,[],false,[
  .assign 2 I0,
  .Dq (.cmp .eq (.slc J0 J2 (.bin .add J2 I1)) J1) [
   .assign 2 (.bin .add J2 I1)],
  .ret J2]⟩
noncomputable def Cf3:Fn:=⟨["row", "deep", "sharps", "dashes"],2,[],false,[
  .ite (.cmp .eq J0 (.str [])) [
   .ret (.tup [.str [103,97,112],I0,.str []])] [],
  .ite (.and [.cmp .lt J1 (.glob "MOST_QUOTES" 9),.cmp .eq (.Cp J0 I2) (.str [62,32])]) [
   .ret (.tup [.str [113,117,111,116,101],I0,.Aw J0 I2])] [],
  .assign 2 (.call "run_of" [J0,.str [35]]),
  .ite (.and [.cmp .le I1 J2,.cmp .le J2 (.glob "MOST_SHARPS" 6),.cmp .eq (.slc J0 J2 (.bin .add J2 I1)) (.str [32])]) [
   .ret (.tup [.str [104,101,97,100,105,110,103],J2,.Aw J0 (.bin .add J2 I1)])] [],
  .assign 3 (.call "run_of" [J0,.str [45]]),
  .ite (.and [.cmp .le I1 J3,.cmp .le J3 (.glob "MOST_DASHES" 9),.cmp .eq (.slc J0 J3 (.bin .add J3 I1)) (.str [32])]) [
   .ret (.tup [.str [105,116,101,109],J3,.Aw J0 (.bin .add J3 I1)])] [],
  .ret (.tup [.str [112,108,97,105,110],I0,J0])]⟩
noncomputable def Al9:Fn:=⟨["shapes", "top", "above", "one", "item"],1,[],false,[
  .assign 1 (.list []),
  .assign 2 (.list []),
  .forIn 3 J0 [
   .Dq (.and [.cmp .gt (.len J2) I0,.cmp .ge (.idx (.idx J2 (.neg 1)) I0) (.idx J3 I1)]) [
    .expr (.pop J2)],
   .assign 4 (.tup [.idx J3 I1,.call "parts_of" [.idx J3 I2],.list []]),
   .ite (.cmp .gt (.len J2) I0) [
    .expr (.append (.idx (.idx J2 (.neg 1)) I2) J4)] [
    .expr (.append J1 J4)],
   .expr (.append J2 J4)],
  .ret J1]⟩
noncomputable def Am2:Fn:=⟨["shapes", "deep", "kind", "one"],2,[],false,[
  .assign 2 (.idx (.idx J0 I0) I0),
  .ite (.cmp .eq J2 (.str [103,97,112])) [
   .ret (.tup [.str [103,97,112],.len J0])] [],
  .ite (.cmp .eq J2 (.str [104,101,97,100,105,110,103])) [
   .ret (.tup [.str [104,101,97,100,105,110,103],.idx (.idx J0 I0) I1,.call "parts_of" [.idx (.idx J0 I0) I2]])] [],
  .ite (.cmp .eq J2 (.str [105,116,101,109])) [
   .ret (.tup [.str [108,105,115,116],.call "items_of" [J0]])] [],
  .ite (.cmp .eq J2 (.str [112,108,97,105,110])) [
   .ret (.tup [.str [112,97,114,97],.comp (.call "parts_of" [.idx J3 I2]) 3 J0])] [],
  .ret (.tup [.str [113,117,111,116,101],.call "blocks_of" [.comp (.idx J3 I2) 3 J0,.bin .add J1 I1]])]⟩
noncomputable def Ac0:Fn:=⟨["rows", "deep", "blocks", "group", "row", "one"],2,[],false,[
  .assign 2 (.list []),
  .assign 3 (.list []),
  .forIn 4 J0 [
   .assign 5 (.call "shape" [J4,J1]),
   .ite (.and [.cmp .gt (.len J3) I0,.or [.cmp .ne (.idx (.idx J3 I0) I0) (.idx J5 I0),.cmp .eq (.idx J5 I0) (.str [104,101,97,100,105,110,103])]]) [
    .expr (.append J2 (.call "block_of" [J3,J1])),
    .assign 3 (.list [])] [],
   .expr (.append J3 J5)],
  .expr (.append J2 (.call "block_of" [J3,J1])),
  .ret J2]⟩
noncomputable def Cr3:Fn:=⟨["text", "rows", "row"],1,[],false,[
  .ite (.not (.Ae J0 .str)) [
   .raise "BadText" [110,111,32,116,101,120,116]] [],
  .assign 1 (.split J0 (.str [10])),
  .forIn 2 J1 [
   .ite (.not (.call "is_row" [J2])) [
    .raise "BadText" [97,32,115,105,103,110,32,116,104,97,116,32,110,111,32,116,101,120,116,32,104,97,115]] []],
  .ret (.call "blocks_of" [J1,I0])]⟩
noncomputable def Aa9:Fn:=⟨["made", "kind", "text"],3,[],false,[
  .ite (.cmp .ne J2 (.str [])) [
   .expr (.append J0 (.tup [J1,J2]))] []]⟩
noncomputable def rI:Fn:=⟨["part", "made"],2,[],false,[
  .expr (.call "put_piece" [J1,.str [109,97,114,107],.str [91]]),
  .expr (.call "put_pieces" [.idx J0 I1,J1]),
  .ite (.is (.idx J0 I2) .none) [
   .ite (.idx J0 I3) [
    .expr (.call "put_piece" [J1,.str [109,97,114,107],.str [93]])] [],
   .Bm] [],
  .expr (.call "put_piece" [J1,.str [109,97,114,107],.str [93,40]]),
  .expr (.call "put_piece" [J1,.str [116,97,114,103,101,116],.idx J0 I2]),
  .ite (.idx J0 I3) [
   .expr (.call "put_piece" [J1,.str [109,97,114,107],.str [41]])] []]⟩
noncomputable def vP:Fn:=⟨["parts", "made", "part"],2,[],false,[
  .forIn 2 J0 [
   .ite (.Ae J2 .str) [
    .expr (.call "put_piece" [J1,.str [119,111,114,100,115],J2])] [
    .ite (.cmp .eq (.idx J2 I0) (.str [107,101,112,116])) [
     .expr (.call "put_piece" [J1,.str [109,97,114,107],.str [92]]),
     .expr (.call "put_piece" [J1,.str [107,101,112,116],.idx J2 I1])] [
     .ite (.cmp .eq (.idx J2 I0) (.str [99,111,100,101])) [
      .expr (.call "put_piece" [J1,.str [109,97,114,107],.str [96]]),
      .expr (.call "put_piece" [J1,.str [99,111,100,101],.idx J2 I1]),
      .ite (.idx J2 I2) [
       .expr (.call "put_piece" [J1,.str [109,97,114,107],.str [96]])] []] [
      .ite (.cmp .eq (.idx J2 I0) (.str [115,112,97,110])) [
       .expr (.call "put_piece" [J1,.str [109,97,114,107],.bin .add (.idx J2 I1) (.str [40])]),
       .expr (.call "put_pieces" [.idx J2 I2,J1]),
       .ite (.idx J2 I3) [
        .expr (.call "put_piece" [J1,.str [109,97,114,107],.str [41]])] []] [
       .expr (.call "link_pieces" [J2,J1])]]]]]]⟩
noncomputable def Ab1:Fn:=⟨["parts", "made"],1,[],false,[
  .assign 1 (.list []),
  .expr (.call "put_pieces" [J0,J1]),
  .ret J1]⟩
noncomputable def Bs2:Fn:=⟨["parts", "piece"],1,[],false,[
  .ret (.join (.str []) (.comp (.idx J1 I1) 1 (.call "pieces_of" [J0])))]⟩
noncomputable def Ab9:Fn:=⟨["thing", "most"],2,[],false,[
  .ite (.or [.not (.Ae J0 .int),.Ae J0 .bool,.cmp .lt J0 I1]) [
   .ret (.bool false)] [],
  .ret (.or [.is J1 .none,.cmp .le J0 J1])]⟩
noncomputable def Am0:Fn:=⟨["thing", "kind", "size"],3,[],false,[
  .ite (.or [.not (.Ae J0 .tuple),.cmp .ne (.len J0) J2]) [
   .ret (.bool false)] [],
  .ret (.and [.Ae (.idx J0 I0) .str,.cmp .eq (.idx J0 I0) J1])]⟩
noncomputable def Bb2:Fn:=⟨["part", "within"],2,[],false,[
  .ite (.Ae J0 .str) [
   .ret (.and [.cmp .ne J0 (.str []),.call "is_row" [J0]])] [],
  .ite (.call "is_tuple" [J0,.str [107,101,112,116],I2]) [
   .ret (.and [.call "is_row" [.idx J0 I1],.cmp .le (.len (.idx J0 I1)) I1])] [],
  .ite (.call "is_tuple" [J0,.str [99,111,100,101],I3]) [
   .ret (.and [.call "is_row" [.idx J0 I1],.Ae (.idx J0 I2) .bool])] [],
  .ite (.cmp .ge J1 (.glob "MOST_OPEN" 12)) [
   .ret (.bool false)] [],
  .ite (.call "is_tuple" [J0,.str [115,112,97,110],I4]) [
   .ite (.or [.not (.call "is_row" [.idx J0 I1]),.cmp .notin (.idx J0 I1) (.tup [.str [42],.str [95],.str [126]])]) [
    .ret (.bool false)] [],
   .ret (.and [.Ae (.idx J0 I3) .bool,.call "are_parts" [.idx J0 I2,.bin .add J1 I1]])] [],
  .ite (.call "is_tuple" [J0,.str [108,105,110,107],I4]) [
   .ite (.and [.Az (.idx J0 I2) .none,.not (.call "is_row" [.idx J0 I2])]) [
    .ret (.bool false)] [],
   .ret (.and [.Ae (.idx J0 I3) .bool,.call "are_parts" [.idx J0 I1,.bin .add J1 I1]])] [],
  .ret (.bool false)]⟩
noncomputable def Ac1:Fn:=⟨["parts", "within", "part"],2,[],false,[
  .ite (.not (.Ae J0 .list)) [
   .ret (.bool false)] [],
  .forIn 2 J0 [
   .ite (.not (.call "is_part" [J2,J1])) [
    .ret (.bool false)] []],
  .ret (.bool true)]⟩
noncomputable def vU:Fn:=⟨["parts"],1,[],false,[
  .ret (.and [.call "are_parts" [J0,I0],.cmp .eq (.call "parts_of" [.call "row_of" [J0]]) J0])]⟩
noncomputable def Ac2:Fn:=⟨["items", "above", "most", "item"],2,[],false,[
  .ite (.not (.Ae J0 .list)) [
   .ret (.bool false)] [],
  .assign 2 (.glob "MOST_DASHES" 9),
  .forIn 3 J0 [
   .ite (.or [.not (.Ae J3 .tuple),.cmp .ne (.len J3) I3]) [
    .ret (.bool false)] [],
   .ite (.or [.not (.call "is_number" [.idx J3 I0,J2]),.cmp .le (.idx J3 I0) J1]) [
    .ret (.bool false)] [],
   .ite (.or [.not (.call "is_content" [.idx J3 I1]),.not (.call "are_items" [.idx J3 I2,.idx J3 I0])]) [
    .ret (.bool false)] [],
   .assign 2 (.idx J3 I0)],
  .ret (.bool true)]⟩
noncomputable def Am3:Fn:=⟨["rows", "deep", "parts"],2,[],false,[
  .ite (.or [.not (.Ae J0 .list),.cmp .eq J0 (.list [])]) [
   .ret (.bool false)] [],
  .forIn 2 J0 [
   .ite (.or [.not (.call "is_content" [J2]),.cmp .ne (.idx (.call "shape" [.call "row_of" [J2],J1]) I0) (.str [112,108,97,105,110])]) [
    .ret (.bool false)] []],
  .ret (.bool true)]⟩
noncomputable def Am1:Fn:=⟨["block", "deep"],2,[],false,[
  .ite (.call "is_tuple" [J0,.str [103,97,112],I2]) [
   .ret (.call "is_number" [.idx J0 I1,.none])] [],
  .ite (.call "is_tuple" [J0,.str [104,101,97,100,105,110,103],I3]) [
   .ret (.and [.call "is_number" [.idx J0 I1,.glob "MOST_SHARPS" 6],.call "is_content" [.idx J0 I2]])] [],
  .ite (.call "is_tuple" [J0,.str [108,105,115,116],I2]) [
   .ret (.and [.call "are_items" [.idx J0 I1,I0],.cmp .ne (.idx J0 I1) (.list [])])] [],
  .ite (.call "is_tuple" [J0,.str [112,97,114,97],I2]) [
   .ret (.call "are_rows" [.idx J0 I1,J1])] [],
  .ite (.call "is_tuple" [J0,.str [113,117,111,116,101],I2]) [
   .ret (.and [.cmp .lt J1 (.glob "MOST_QUOTES" 9),.call "are_blocks" [.idx J0 I1,.bin .add J1 I1]])] [],
  .ret (.bool false)]⟩
noncomputable def vV:Fn:=⟨["blocks", "deep", "last", "block"],2,[],false,[
  .ite (.or [.not (.Ae J0 .list),.cmp .eq J0 (.list [])]) [
   .ret (.bool false)] [],
  .assign 2 (.str []),
  .forIn 3 J0 [
   .ite (.not (.call "is_block" [J3,J1])) [
    .ret (.bool false)] [],
   .ite (.and [.cmp .eq (.idx J3 I0) J2,.cmp .ne J2 (.str [104,101,97,100,105,110,103])]) [
    .ret (.bool false)] [],
   .assign 2 (.idx J3 I0)],
  .ret (.bool true)]⟩
noncomputable def Bs4:Fn:=⟨["tree"],1,[],false,[
  .ret (.call "are_blocks" [J0,I0])]⟩
noncomputable def rH:Fn:=⟨["tree"],1,[],false,[
  .ite (.not (.call "normal" [J0])) [
   .raise "BadTree" [110,111,32,110,111,114,109,97,108,32,116,114,101,101]] []]⟩
noncomputable def Ab0:Fn:=⟨["items", "rows", "item"],2,[],false,[
  .forIn 2 J0 [
   .expr (.append J1 (.bin .add (.list [.tup [.str [109,97,114,107],.bin .add (.bin .mul (.str [45]) (.idx J2 I0)) (.str [32])]]) (.call "pieces_of" [.idx J2 I1]))),
   .expr (.call "put_items" [.idx J2 I2,J1])]]⟩
noncomputable def Ba5:Fn:=⟨["blocks", "rows", "block", "k", "parts", "row"],1,[],false,[
  .assign 1 (.list []),
  .forIn 2 J0 [
   .ite (.cmp .eq (.idx J2 I0) (.str [103,97,112])) [
    .Dc 3 (.idx J2 I1) [
     .expr (.append J1 (.list []))]] [
    .ite (.cmp .eq (.idx J2 I0) (.str [104,101,97,100,105,110,103])) [
     .expr (.append J1 (.bin .add (.list [.tup [.str [109,97,114,107],.bin .add (.bin .mul (.str [35]) (.idx J2 I1)) (.str [32])]]) (.call "pieces_of" [.idx J2 I2])))] [
     .ite (.cmp .eq (.idx J2 I0) (.str [108,105,115,116])) [
      .expr (.call "put_items" [.idx J2 I1,J1])] [
      .ite (.cmp .eq (.idx J2 I0) (.str [112,97,114,97])) [
       .forIn 4 (.idx J2 I1) [
        .expr (.append J1 (.call "pieces_of" [J4]))]] [
       .forIn 5 (.call "rows_of" [.idx J2 I1]) [
        .expr (.append J1 (.bin .add (.list [.tup [.str [109,97,114,107],.str [62,32]]]) J5))]]]]]],
  .ret J1]⟩
noncomputable def Bs3:Fn:=⟨["tree", "made", "at", "row"],1,[],false,[
  .expr (.call "need_normal" [J0]),
  .assign 1 (.list []),
  .Bf 2 3 (.call "rows_of" [J0]) [
   .ite (.cmp .gt J2 I0) [
    .expr (.append J1 (.tup [.str [101,110,100],.str [10]]))] [],
   .expr (.extend J1 J3)],
  .ret J1]⟩
noncomputable def Cf2:Fn:=⟨["tree", "piece"],1,[],false,[
  .ret (.join (.str []) (.comp (.idx J1 I1) 1 (.call "pieces" [J0])))]⟩
noncomputable def rG:Fn:=⟨["thing"],1,[],false,[
  .ite (.or [.not (.call "is_row" [J0]),.cmp .isin (.str [41]) J0]) [
   .raise "BadText" [110,111,32,116,97,114,103,101,116]] []]⟩
noncomputable def qS:Fn:=⟨["parts", "old", "new", "made", "part", "target"],3,[],false,[
  .assign 3 (.list []),
  .forIn 4 J0 [
   .ite (.or [.Ae J4 .str,.cmp .eq (.idx J4 I0) (.str [107,101,112,116]),.cmp .eq (.idx J4 I0) (.str [99,111,100,101])]) [
    .expr (.append J3 J4)] [
    .ite (.cmp .eq (.idx J4 I0) (.str [115,112,97,110])) [
     .expr (.append J3 (.tup [.str [115,112,97,110],.idx J4 I1,.call "turned_parts" [.idx J4 I2,J1,J2],.idx J4 I3]))] [
     .assign 5 (.idx J4 I2),
     .ite (.and [.Az J5 .none,.cmp .eq J5 J1]) [
      .assign 5 J2] [],
     .expr (.append J3 (.tup [.str [108,105,110,107],.call "turned_parts" [.idx J4 I1,J1,J2],J5,.idx J4 I3]))]]],
  .ret J3]⟩
noncomputable def qT:Fn:=⟨["items", "old", "new", "item"],3,[],false,[
  .ret (.comp (.tup [.idx J3 I0,.call "turned_parts" [.idx J3 I1,J1,J2],.call "turned_items" [.idx J3 I2,J1,J2]]) 3 J0)]⟩
noncomputable def mH:Fn:=⟨["blocks", "old", "new", "made", "block", "parts"],3,[],false,[
  .assign 3 (.list []),
  .forIn 4 J0 [
   .ite (.cmp .eq (.idx J4 I0) (.str [103,97,112])) [
    .expr (.append J3 J4)] [
    .ite (.cmp .eq (.idx J4 I0) (.str [104,101,97,100,105,110,103])) [
     .expr (.append J3 (.tup [.str [104,101,97,100,105,110,103],.idx J4 I1,.call "turned_parts" [.idx J4 I2,J1,J2]]))] [
     .ite (.cmp .eq (.idx J4 I0) (.str [108,105,115,116])) [
      .expr (.append J3 (.tup [.str [108,105,115,116],.call "turned_items" [.idx J4 I1,J1,J2]]))] [
      .ite (.cmp .eq (.idx J4 I0) (.str [112,97,114,97])) [
       .expr (.append J3 (.tup [.str [112,97,114,97],.comp (.call "turned_parts" [J5,J1,J2]) 5 (.idx J4 I1)]))] [
       .expr (.append J3 (.tup [.str [113,117,111,116,101],.call "turned_blocks" [.idx J4 I1,J1,J2]]))]]]]],
  .ret J3]⟩
noncomputable def Bs0:Fn:=⟨["tree", "old", "new"],3,[],false,[
  .expr (.call "need_normal" [J0]),
  .expr (.call "need_target" [J1]),
  .expr (.call "need_target" [J2]),
  .ret (.call "turned_blocks" [J0,J1,J2])]⟩
noncomputable def rJ:Fn:=⟨["_law_script", "_law_k"],2,[],false,[
  .ite (.cmp .lt J1 (.len J0)) [
   .ret (.idx J0 J1)] [],
  .ret I0]⟩
noncomputable def Ab4:Fn:=⟨["_law_some_here"],0,[],false,[
  .assign 0 (.str [32,33,34,35,36,38,39,40,41,42,43,44,45,46,47,48,49,50,51,52,53,54,55,56,57,58,59,60,61,62,63,64,65,66,67,68,69,70,71,72,73,74,75,76,77,78,79,80,81,82,83,84,85,86,87,88,89,90,91,92,93,94,95,96]),
  .ret (.bin .add J0 (.str [97,98,99,100,101,102,103,104,105,106,107,108,109,110,111,112,113,114,115,116,117,118,119,120,121,122,123,124,125,126]))]⟩
noncomputable def mC:Fn:=⟨["_law_found", "_law_due", "_law_k"],2,[],false,[
  .ite (.is J1 .none) [
   .ret (.is J0 .none)] [],
  .ite (.is J1 .tt) [
   .ret (.is J0 .tt)] [],
  .ite (.is J1 .ff) [
   .ret (.is J0 .ff)] [],
  .ite (.Ae J1 .str) [
   .ret (.and [.Ae J0 .str,.cmp .eq J0 J1])] [],
  .ite (.Ae J1 .int) [
   .ret (.and [.Ae J0 .int,.not (.Ae J0 .bool),.cmp .eq J0 J1])] [],
  .ite (.or [.and [.Ae J1 .list,.not (.Ae J0 .list)],.and [.Ae J1 .tuple,.not (.Ae J0 .tuple)]]) [
   .ret (.bool false)] [],
  .ite (.cmp .ne (.len J0) (.len J1)) [
   .ret (.bool false)] [],
  .Dc 2 (.len J1) [
   .ite (.not (.call "_law_alike" [.idx J0 J2,.idx J1 J2])) [
    .ret (.bool false)] []],
  .ret (.bool true)]⟩
noncomputable def Ba7:Fn:=⟨["_law_parts_here", "_law_row_here", "_law_part"],1,[],false,[
  .assign 1 (.str []),
  .forIn 2 J0 [
   .ite (.Ae J2 .str) [
    .assign 1 (.bin .add J1 J2)] [
    .ite (.cmp .eq (.idx J2 I0) (.str [107,101,112,116])) [
     .assign 1 (.bin .add (.bin .add J1 (.str [92])) (.idx J2 I1))] [
     .ite (.cmp .eq (.idx J2 I0) (.str [99,111,100,101])) [
      .assign 1 (.bin .add (.bin .add (.bin .add J1 (.str [96])) (.idx J2 I1)) (.bin .mul (.str [96]) (.toInt (.idx J2 I2))))] [
      .ite (.cmp .eq (.idx J2 I0) (.str [115,112,97,110])) [
       .assign 1 (.bin .add (.bin .add (.bin .add J1 (.idx J2 I1)) (.str [40])) (.call "_law_row" [.idx J2 I2])),
       .assign 1 (.bin .add J1 (.bin .mul (.str [41]) (.toInt (.idx J2 I3))))] [
       .ite (.is (.idx J2 I2) .none) [
        .assign 1 (.bin .add (.bin .add (.bin .add J1 (.str [91])) (.call "_law_row" [.idx J2 I1])) (.bin .mul (.str [93]) (.toInt (.idx J2 I3))))] [
        .assign 1 (.bin .add (.bin .add (.bin .add J1 (.str [91])) (.call "_law_row" [.idx J2 I1])) (.str [93,40])),
        .assign 1 (.bin .add (.bin .add J1 (.idx J2 I2)) (.bin .mul (.str [41]) (.toInt (.idx J2 I3))))]]]]]],
  .ret J1]⟩
noncomputable def Ab5:Fn:=⟨["_law_number", "_law_size_here", "_law_mark", "_law_deep", "_law_barred_here", "_law_words_here", "_law_k", "_law_sign"],5,[],false,[
  .assign 5 (.str []),
  .Dc 6 J1 [
   .assign 7 (.idx (.call "_law_signs" []) (.bin .mod (.bin .add J0 (.bin .mul J6 (.bin .add I1 (.bin .mod (.bin .fdiv J0 I94) I7)))) I94)),
   .ite (.or [.cmp .isin J7 (.str [92,96]),.and [.cmp .eq J2 (.str [91]),.cmp .eq J7 (.str [93])],.and [.cmp .eq (.len J2) I2,.cmp .eq J7 (.str [41])]]) [
    .assign 7 (.str [109])] [],
   .ite (.and [.cmp .lt J3 I12,.or [.cmp .eq J7 (.str [91]),.and [.cmp .eq J7 (.str [40]),.cmp .isin (.Aw J5 (.neg 1)) (.tup [.str [42],.str [95],.str [126]])]]]) [
    .assign 7 (.str [110])] [],
   .ite (.and [J4,.cmp .eq J6 I0,.cmp .eq J7 (.str [40])]) [
    .assign 7 (.str [111])] [],
   .assign 5 (.bin .add J5 J7)],
  .ite (.and [.cmp .eq J3 I12,.cmp .eq (.bin .mod J0 I2) I0]) [
   .assign 5 (.bin .add J5 (.str [42,40,91,95,40,126,40]))] [],
  .ret J5]⟩
noncomputable def Ab2:Fn:=⟨["_law_number", "_law_size_here", "_law_left", "_law_words_here", "_law_k"],3,[2],false,[
  .assign 3 (.str []),
  .Dc 4 J1 [
   .assign 3 (.bin .add J3 (.idx (.call "_law_signs" []) (.bin .mod (.bin .add J0 (.bin .mul J4 (.bin .add I1 (.bin .mod (.bin .fdiv J0 I94) I5)))) I94)))],
  .ret (.replace J3 J2 (.str [120]))]⟩
noncomputable def vT:Fn:=⟨["_law_parts_here"],1,[],false,[
  .ret (.and [.cmp .gt (.len J0) I0,.cmp .eq (.idx (.idx J0 (.neg 1)) I0) (.str [108,105,110,107]),.is (.idx (.idx J0 (.neg 1)) I2) .none])]⟩
noncomputable def Al6:Fn:=⟨["_law_number"],1,[],false,[
  .ite (.cmp .eq (.bin .mod J0 I3) I1) [
   .ret (.bin .mod (.bin .fdiv J0 I3) (.int 49))] [],
  .ret (.bin .mod (.bin .fdiv J0 I3) I7)]⟩
noncomputable def Ba9:Fn:=⟨["_law_pile", "_law_number", "_law_closed", "_law_top", "_law_parts_here"],3,[],false,[
  .assign 3 (.pop J0),
  .assign 4 (.idx (.idx J0 (.neg 1)) I1),
  .ite (.cmp .ne (.idx J3 I0) (.str [91])) [
   .expr (.append J4 (.tup [.str [115,112,97,110],.idx (.idx J3 I0) I0,.idx J3 I1,J2]))] [
   .ite (.and [J2,.cmp .gt (.bin .mod J1 I3) I0]) [
    .expr (.append J4 (.tup [.str [108,105,110,107],.idx J3 I1,.call "_law_words" [.bin .fdiv J1 I3,.call "_law_size" [.bin .fdiv J1 (.int 300)],.str [41]],.bool true]))] [
    .expr (.append J4 (.tup [.str [108,105,110,107],.idx J3 I1,.none,J2]))]]]⟩
noncomputable def Ba8:Fn:=⟨["_law_pile", "_law_cell", "_law_mixed", "_law_step", "_law_number", "_law_deep", "_law_parts_here", "_law_size_here"],2,[],false,[
  .assign 2 (.bin .mod (.bin .mul J1 (.int 48271)) (.int 2147483647)),
  .assign 3 (.bin .mod J2 I9),
  .assign 4 (.bin .fdiv J2 I9),
  .assign 5 (.bin .sub (.len J0) I1),
  .assign 6 (.idx (.idx J0 (.neg 1)) I1),
  .ite (.and [.cmp .lt J3 I3,.not (.and [.cmp .gt (.len J6) I0,.Ae (.idx J6 (.neg 1)) .str])]) [
   .assign 7 (.bin .add I1 (.call "_law_size" [.bin .fdiv J4 (.int 700)])),
   .expr (.append J6 (.call "_law_plain" [J4,J7,.idx (.idx J0 (.neg 1)) I0,J5,.call "_law_barred" [J6]]))] [
   .ite (.cmp .eq J3 I4) [
    .expr (.append J6 (.tup [.str [99,111,100,101],.call "_law_words" [J4,.call "_law_size" [.bin .fdiv J4 (.int 500)],.str [96]],.bool true]))] [
    .ite (.and [.cmp .eq J3 I5,.cmp .lt J5 I12]) [
     .expr (.append J0 (.tup [.Cp (.Aw (.str [42,40,95,40,126,40]) (.bin .mul (.bin .mod J4 I3) I2)) I2,.list []]))] [
     .ite (.and [.or [.cmp .eq J3 I6,.cmp .eq J3 I7],.cmp .lt J5 I12]) [
      .expr (.append J0 (.tup [.str [91],.list []]))] [
      .ite (.and [.cmp .eq J3 (.int 8),.cmp .gt J5 I0]) [
       .expr (.call "_law_end" [J0,J4,.bool true])] [
       .expr (.append J6 (.tup [.str [107,101,112,116],.idx (.call "_law_signs" []) (.bin .mod J4 I94)]))]]]]]]⟩
noncomputable def Ab6:Fn:=⟨["_law_number", "_law_deep", "_law_some_here"],2,[],false,[
  .ite (.cmp .gt J1 (.int 8)) [
   .ret (.list [.str [108,97,98,101,108]])] [],
  .assign 2 (.list [.list [.str [108,97,98,101,108]],.list [],.list [.str [97],.tup [.str [107,101,112,116],.str [93]],.str [98,42]],.list [.tup [.str [115,112,97,110],.str [95],.list [.str [99],.tup [.str [99,111,100,101],.str [93],.bool true]],.bool true]]]),
  .assign 2 (.bin .add J2 (.list [.list [.str [115,101,101,32],.tup [.str [108,105,110,107],.list [.str [100]],.str [101],.bool true],.str [40,102]],.list [.tup [.str [108,105,110,107],.list [.tup [.str [115,112,97,110],.str [42],.list [.str [103]],.bool true]],.none,.bool true]]])),
  .assign 2 (.bin .add J2 (.list [.list [.tup [.str [107,101,112,116],.str [120]],.tup [.str [115,112,97,110],.str [126],.list [.tup [.str [108,105,110,107],.list [.str [104]],.str [105],.bool true]],.bool true],.str [106]]])),
  .ret (.idx (.bin .add J2 (.list [.list [.tup [.str [108,105,110,107],.list [.tup [.str [108,105,110,107],.list [.str [107]],.str [108],.bool true],.str [109]],.str [110],.bool true]]])) (.bin .mod J0 (.int 8)))]⟩
noncomputable def X8:Fn:=⟨["_law_cells", "_law_last", "_law_pile", "_law_cell", "_law_closing", "_law_parts_here", "_law_size_here", "_law_label_here"],2,[],false,[
  .assign 2 (.list [.tup [.str [],.list []]]),
  .forIn 3 J0 [
   .expr (.call "_law_put" [J2,J3])],
  .assign 4 (.cmp .gt (.bin .mod J1 I7) I2),
  .assign 5 (.idx (.idx J2 (.neg 1)) I1),
  .assign 6 (.call "_law_size" [.bin .fdiv J1 I7]),
  .ite (.cmp .eq (.bin .mod J1 I7) I0) [
   .expr (.append J5 (.tup [.str [107,101,112,116],.str []]))] [],
  .ite (.cmp .eq (.bin .mod J1 I7) I1) [
   .expr (.append J5 (.tup [.str [99,111,100,101],.call "_law_words" [.bin .fdiv J1 I7,J6,.str [96]],.bool false]))] [],
  .ite (.and [.cmp .eq (.bin .mod J1 I7) I2,.cmp .lt (.len J2) (.int 13)]) [
   .assign 7 (.call "_law_label" [.bin .fdiv J1 (.int 21),.len J2]),
   .expr (.append J5 (.tup [.str [108,105,110,107],J7,.call "_law_words" [.bin .fdiv J1 I7,J6,.str [41]],.bool false]))] [],
  .assign 1 (.bin .fdiv J1 I7),
  .Dq (.cmp .gt (.len J2) I1) [
   .ite (.cmp .eq (.bin .mod J1 I4) I0) [
    .assign 4 (.bool false)] [],
   .expr (.call "_law_end" [J2,.bin .fdiv J1 I4,J4]),
   .assign 1 (.bin .fdiv J1 I4)],
  .ret (.idx (.idx J2 I0) I1)]⟩
noncomputable def Al8:Fn:=⟨["_law_items_here", "_law_dashes", "_law_parts_here"],3,[],false,[
  .Dq (.and [.cmp .ne J0 (.list []),.cmp .lt (.idx (.idx J0 (.neg 1)) I0) J1]) [
   .assign 0 (.idx (.idx J0 (.neg 1)) I2)],
  .expr (.append J0 (.tup [J1,J2,.list []]))]⟩
noncomputable def mI:Fn:=⟨["_law_row_here", "_law_deep", "_law_sharps", "_law_dashes"],2,[],false,[
  .assign 2 (.bin .sub (.len J0) (.len (.lstrip J0 (.str [35])))),
  .assign 3 (.bin .sub (.len J0) (.len (.lstrip J0 (.str [45])))),
  .ite (.and [.cmp .isin J2 (.tup [I1,I2,I3,I4,I5,I6]),.cmp .eq (.slc J0 J2 (.bin .add J2 I1)) (.str [32])]) [
   .ret (.bool false)] [],
  .ite (.and [.Dk .lt .lt I0 J3 (.int 10),.cmp .eq (.slc J0 J3 (.bin .add J3 I1)) (.str [32])]) [
   .ret (.bool false)] [],
  .ret (.and [.cmp .ne J0 (.str []),.or [.cmp .ne (.Cp J0 I2) (.str [62,32]),.cmp .eq J1 I9]])]⟩
noncomputable def Ab8:Fn:=⟨["_law_words_here", "_law_parts_here"],2,[],false,[
  .ite (.and [.cmp .ne J1 (.list []),.Ae (.idx J1 I0) .str]) [
   .ret (.bin .add (.list [.bin .add J0 (.idx J1 I0)]) (.Aw J1 I1))] [],
  .ret (.bin .add (.list [J0]) J1)]⟩
noncomputable def gY:Fn:=⟨["_law_parts_here", "_law_number", "_law_deep", "_law_some_here"],3,[],false,[
  .ite (.cmp .eq (.bin .mod J1 I3) I1) [
   .assign 3 (.list [.str [35],.str [35,35,97],.str [45],.str [45,45,45],.str [35,35,35,35,35,35,35,35],.str [62,97],.str [62],.str [45,45,45,45,45,45,45,45,45,45],.str [45,53],.str [35,35,35,35,35,35,35],.str [62,32],.str [62,62]]),
   .assign 0 (.call "_law_ahead" [.idx J3 (.bin .mod (.bin .fdiv J1 I3) I12),J0])] [],
  .ite (.call "_law_plain_row" [.call "_law_row" [J0],J2]) [
   .ret J0] [],
  .ret (.call "_law_ahead" [.str [122],J0])]⟩
noncomputable def mA:Fn:=⟨["_law_pile", "_law_way", "_law_many"],3,[],false,[
  .ite (.and [.cmp .eq J1 (.int 11),.cmp .gt (.len J0) I1,.cmp .ne (.idx J0 (.neg 1)) (.list [])]) [
   .expr (.pop J0)] [],
  .Dq (.and [.cmp .eq J1 (.int 10),.cmp .gt J2 I0,.cmp .lt (.len J0) (.int 10)]) [
   .ite (.or [.cmp .eq (.idx J0 (.neg 1)) (.list []),.cmp .ne (.idx (.idx (.idx J0 (.neg 1)) (.neg 1)) I0) (.str [113,117,111,116,101])]) [
    .expr (.append (.idx J0 (.neg 1)) (.tup [.str [113,117,111,116,101],.list []]))] [],
   .expr (.append J0 (.idx (.idx (.idx J0 (.neg 1)) (.neg 1)) I1)),
   .assign 2 (.bin .sub J2 I1)]]⟩
noncomputable def sZ:Fn:=⟨["_law_blocks_here", "_law_way", "_law_number", "_law_parts_here", "_law_deep", "_law_ahead_here"],5,[],false,[
  .assign 5 (.str []),
  .ite (.cmp .ne J0 (.list [])) [
   .assign 5 (.idx (.idx J0 (.neg 1)) I0)] [],
  .ite (.and [.cmp .lt J1 I2,.cmp .ne J5 (.str [103,97,112])]) [
   .expr (.append J0 (.tup [.str [103,97,112],.bin .add (.bin .add I1 (.bin .mod J2 I3)) (.bin .mul (.int 300) (.toInt (.cmp .eq (.bin .mod (.bin .fdiv J2 I3) I9) I5)))]))] [
   .ite (.cmp .lt J1 I4) [
    .expr (.append J0 (.tup [.str [104,101,97,100,105,110,103],.bin .add I1 (.bin .mod J2 I6),J3]))] [
    .ite (.and [.cmp .lt J1 I7,.cmp .eq J5 (.str [108,105,115,116])]) [
     .expr (.call "_law_item" [.idx (.idx J0 (.neg 1)) I1,.bin .add I1 (.bin .mod J2 I9),J3])] [
     .ite (.cmp .lt J1 I7) [
      .expr (.append J0 (.tup [.str [108,105,115,116],.list [.tup [.bin .add I1 (.bin .mod J2 I9),J3,.list []]]]))] [
      .ite (.cmp .eq J5 (.str [112,97,114,97])) [
       .expr (.append (.idx (.idx J0 (.neg 1)) I1) (.call "_law_plainly" [J3,J2,J4]))] [
       .expr (.append J0 (.tup [.str [112,97,114,97],.list [.call "_law_plainly" [J3,J2,J4]]]))]]]]]]⟩
noncomputable def qM:Fn:=⟨["_law_script", "_law_pile", "_law_at", "_law_head", "_law_many", "_law_cells"],1,[],false,[
  .assign 1 (.list [.list []]),
  .assign 2 I1,
  .Dq (.cmp .lt J2 (.len J0)) [
   .assign 3 (.bin .mod (.bin .mul (.idx J0 J2) (.int 69621)) (.int 2147483647)),
   .assign 4 (.idx (.list [I0,I1,I2,I3,I5,.int 13]) (.bin .mod (.bin .fdiv J3 I12) I6)),
   .assign 5 (.slc J0 (.bin .add J2 I1) (.bin .add (.bin .add J2 I1) J4)),
   .assign 2 (.bin .add (.bin .add J2 I1) J4),
   .ite (.cmp .gt (.bin .mod J3 I12) I9) [
    .expr (.call "_law_quote" [J1,.bin .mod J3 I12,.bin .add I1 (.bin .mul (.bin .mod (.bin .fdiv J3 (.int 72)) I3) I4)])] [
    .expr (.call "_law_add" [.idx J1 (.neg 1),.bin .mod J3 I12,.bin .fdiv J3 (.int 72),.call "_law_parts" [J5,.bin .fdiv J3 (.int 504)],.bin .sub (.len J1) I1])]],
  .ite (.cmp .eq (.idx J1 (.neg 1)) (.list [])) [
   .expr (.append (.idx J1 (.neg 1)) (.tup [.str [103,97,112],I1]))] [],
  .ret (.idx J1 I0)]⟩
noncomputable def Ab3:Fn:=⟨["_law_items_here", "_law_rows_here", "_law_item_here"],1,[],false,[
  .assign 1 (.list []),
  .forIn 2 J0 [
   .expr (.append J1 (.bin .add (.bin .add (.bin .mul (.str [45]) (.idx J2 I0)) (.str [32])) (.call "_law_row" [.idx J2 I1]))),
   .expr (.extend J1 (.call "_law_under" [.idx J2 I2]))],
  .ret J1]⟩
noncomputable def Al7:Fn:=⟨["_law_blocks_here", "_law_rows_here", "_law_block", "_law_row_here", "_law_parts_here"],1,[],false,[
  .assign 1 (.list []),
  .forIn 2 J0 [
   .ite (.cmp .eq (.idx J2 I0) (.str [103,97,112])) [
    .expr (.extend J1 (.bin .mul (.list [.str []]) (.idx J2 I1)))] [
    .ite (.cmp .eq (.idx J2 I0) (.str [104,101,97,100,105,110,103])) [
     .expr (.append J1 (.bin .add (.bin .add (.bin .mul (.str [35]) (.idx J2 I1)) (.str [32])) (.call "_law_row" [.idx J2 I2])))] [
     .ite (.cmp .eq (.idx J2 I0) (.str [108,105,115,116])) [
      .expr (.extend J1 (.call "_law_under" [.idx J2 I1]))] [
      .ite (.cmp .eq (.idx J2 I0) (.str [113,117,111,116,101])) [
       .expr (.extend J1 (.comp (.bin .add (.str [62,32]) J3) 3 (.call "_law_rows" [.idx J2 I1])))] [
       .expr (.extend J1 (.comp (.call "_law_row" [J4]) 4 (.idx J2 I1)))]]]]],
  .ret J1]⟩
noncomputable def vQ:Fn:=⟨["_law_parts_here", "_law_old", "_law_new", "_law_found", "_law_part"],3,[],false,[
  .assign 3 (.list []),
  .forIn 4 J0 [
   .ite (.or [.Ae J4 .str,.cmp .eq (.idx J4 I0) (.str [107,101,112,116]),.cmp .eq (.idx J4 I0) (.str [99,111,100,101])]) [
    .expr (.append J3 J4)] [
    .ite (.cmp .eq (.idx J4 I0) (.str [115,112,97,110])) [
     .expr (.append J3 (.tup [.str [115,112,97,110],.idx J4 I1,.call "_law_turned" [.idx J4 I2,J1,J2],.idx J4 I3]))] [
     .ite (.and [.Az (.idx J4 I2) .none,.cmp .eq (.idx J4 I2) J1]) [
      .expr (.append J3 (.tup [.str [108,105,110,107],.call "_law_turned" [.idx J4 I1,J1,J2],J2,.idx J4 I3]))] [
      .expr (.append J3 (.tup [.str [108,105,110,107],.call "_law_turned" [.idx J4 I1,J1,J2],.idx J4 I2,.idx J4 I3]))]]]],
  .ret J3]⟩
noncomputable def Ab7:Fn:=⟨["_law_items_here", "_law_old", "_law_new", "_law_item_here"],3,[],false,[
  .ret (.comp (.tup [.idx J3 I0,.call "_law_turned" [.idx J3 I1,J1,J2],.call "_law_items" [.idx J3 I2,J1,J2]]) 3 J0)]⟩
noncomputable def vS:Fn:=⟨["_law_blocks_here", "_law_old", "_law_new", "_law_found", "_law_block", "_law_parts_here"],3,[],false,[
  .assign 3 (.list []),
  .forIn 4 J0 [
   .ite (.cmp .eq (.idx J4 I0) (.str [104,101,97,100,105,110,103])) [
    .expr (.append J3 (.tup [.str [104,101,97,100,105,110,103],.idx J4 I1,.call "_law_turned" [.idx J4 I2,J1,J2]]))] [
    .ite (.cmp .eq (.idx J4 I0) (.str [108,105,115,116])) [
     .expr (.append J3 (.tup [.str [108,105,115,116],.call "_law_items" [.idx J4 I1,J1,J2]]))] [
     .ite (.cmp .eq (.idx J4 I0) (.str [113,117,111,116,101])) [
      .expr (.append J3 (.tup [.str [113,117,111,116,101],.call "_law_blocks" [.idx J4 I1,J1,J2]]))] [
      .ite (.cmp .eq (.idx J4 I0) (.str [112,97,114,97])) [
       .expr (.append J3 (.tup [.str [112,97,114,97],.comp (.call "_law_turned" [J5,J1,J2]) 5 (.idx J4 I1)]))] [
       .expr (.append J3 J4)]]]]],
  .ret J3]⟩
noncomputable def gX:Fn:=⟨["_law_parts_here", "_law_found", "_law_part"],1,[],false,[
  .assign 1 (.list []),
  .forIn 2 J0 [
   .ite (.and [.not (.Ae J2 .str),.cmp .eq (.idx J2 I0) (.str [115,112,97,110])]) [
    .assign 1 (.bin .add J1 (.call "_law_targets" [.idx J2 I2]))] [],
   .ite (.and [.not (.Ae J2 .str),.cmp .eq (.idx J2 I0) (.str [108,105,110,107])]) [
    .assign 1 (.bin .add (.bin .add J1 (.call "_law_targets" [.idx J2 I1])) (.bin .mul (.list [.idx J2 I2]) (.toInt (.Az (.idx J2 I2) .none))))] []],
  .ret J1]⟩
noncomputable def mB:Fn:=⟨["_law_items_here", "_law_found", "_law_item_here"],1,[],false,[
  .assign 1 (.list []),
  .forIn 2 J0 [
   .assign 1 (.bin .add (.bin .add J1 (.call "_law_targets" [.idx J2 I1])) (.call "_law_below" [.idx J2 I2]))],
  .ret J1]⟩
noncomputable def qN:Fn:=⟨["_law_blocks_here", "_law_found", "_law_block", "_law_parts_here"],1,[],false,[
  .assign 1 (.list []),
  .forIn 2 J0 [
   .ite (.cmp .eq (.idx J2 I0) (.str [104,101,97,100,105,110,103])) [
    .assign 1 (.bin .add J1 (.call "_law_targets" [.idx J2 I2]))] [],
   .ite (.cmp .eq (.idx J2 I0) (.str [112,97,114,97])) [
    .forIn 3 (.idx J2 I1) [
     .assign 1 (.bin .add J1 (.call "_law_targets" [J3]))]] [],
   .ite (.cmp .eq (.idx J2 I0) (.str [113,117,111,116,101])) [
    .assign 1 (.bin .add J1 (.call "_law_some" [.idx J2 I1]))] [],
   .ite (.cmp .eq (.idx J2 I0) (.str [108,105,115,116])) [
    .assign 1 (.bin .add J1 (.call "_law_below" [.idx J2 I1]))] []],
  .ret J1]⟩
noncomputable def vR:Fn:=⟨["_law_thing", "_law_one"],1,[],false,[
  .ite (.or [.Ae J0 .tuple,.Ae J0 .list]) [
   .forIn 1 (.listOf J0) [
    .expr (.call "_law_spoilt" [J1])]] [],
  .ite (.Ae J0 .list) [
   .expr (.append J0 (.str [109,111,114,101]))] []]⟩
noncomputable def U0:Fn:=⟨["_law_tree_here", "_law_old", "_law_new", "_law_way", "_law_at", "_law_bad"],4,[],false,[
  .assign 4 (.bin .mod J3 (.bin .add (.len J2) I1)),
  .assign 5 (.idx (.list [.bin .add (.bin .add (.Cp J2 J4) (.idx (.str [10,41,9]) (.bin .mod J3 I3))) (.Aw J2 J4),.none,.bin .mod J3 (.bin .pow (.int 10) I9),.list [J2]]) (.bin .mod (.bin .fdiv J3 I3) I4))]⟩
noncomputable def An6:E:=(.cmp .eq (.bin .mod (.bin .fdiv J3 I12) I2) I0)
noncomputable def Bd0:E:=(.call "turned" [J0,J5,J2])
noncomputable def Bc9:E:=(.call "turned" [J0,J1,J5])
noncomputable def Cx1:List S:=[
  .ret (.bool false)]
noncomputable def Be2:Fn:=⟨["_law_script", "_law_tree_here", "_law_first", "_law_more", "_law_some_here", "_law_old", "_law_new", "_law_due", "_law_found", "_law_text", "_law_handed", "_law_later"],1,[],true,[
  .assign 1 (.call "_law_tree" [.Aw J0 I3]),
  .assign 2 (.call "_law_cell_at" [J0,I0]),
  .assign 3 (.call "_law_cell_at" [J0,I2]),
  .assign 4 (.bin .add (.call "_law_some" [J1]) (.list [.call "_law_words" [J2,.bin .mod J2 I4,.str [41]]])),
  .assign 5 (.idx J4 (.bin .mod (.call "_law_cell_at" [J0,I1]) (.len J4))),
  .assign 6 (.call "_law_words" [J3,.bin .add (.bin .mod (.bin .fdiv J3 I5) I9) (.bin .mul (.int 40) (.toInt (.cmp .eq (.bin .mod J3 I5) I2))),.str [41]])]⟩
noncomputable def Ch8:E:=(.cmp .eq (.bin .mod J2 I6) I1)
noncomputable def Bi1:List E:=[J1,J5,J6,.bin .add (.bin .fdiv J2 I6) J3]
noncomputable def Cj3:E:=(.call "_law_alike" [J1,.call "_law_tree" [.Aw J0 I3]])
noncomputable def Bd7:List S:=[
  .assign 7 (.call "_law_blocks" [.call "_law_tree" [.Aw J0 I3],J5,J6]),
  .assign 8 (.call "turned" [J1,J5,J6]),
  .ite (.or [.not (.call "_law_alike" [J8,J7]),.not (.call "_law_alike" [J1,.call "_law_tree" [.Aw J0 I3]])]) [
   .ret (.bool false)] [],
  .assign 9 (.join (.str [10]) (.call "_law_rows" [J7])),
  .ite (.or [.cmp .ne (.call "shown" [J8]) J9,.not (.call "_law_alike" [.call "read" [J9],J7])]) [
   .ret (.bool false)] [],
  .assign 10 (.call "_law_tree" [.Aw J0 I3]),
  .assign 11 (.call "turned" [J10,J5,J6]),
  .expr (.call "_law_spoilt" [J10]),
  .ite (.or [.not (.call "_law_alike" [J11,J7]),.not (.call "_law_alike" [J8,J7])]) [
   .ret (.bool false)] [],
  .expr (.call "_law_spoilt" [J8]),
  .ite (.or [.not (.call "_law_alike" [J1,.call "_law_tree" [.Aw J0 I3]]),.not (.call "_law_alike" [.call "turned" [J1,J5,J6],J7])]) [
   .ret (.bool false)] [],
  .expr (.call "_law_spoilt" [J7]),
  .ret (.call "_law_alike" [J8,J7])]
noncomputable def prg:List (String×Fn):=[("is_sign",Bb1),("is_row",Bs5),("here_of",Bb3),("put_plain",Aa8),("code_at",Bb4),("link_at",Ba6),("opens",Cf4),("last_is",Bb0),("ended",Cf5),("parts_of",Al5),("run_of",Bs1),("shape",Cf3),("items_of",Al9),("block_of",Am2),("blocks_of",Ac0),("read",Cr3),("put_piece",Aa9),("link_pieces",rI),("put_pieces",vP),("pieces_of",Ab1),("row_of",Bs2),("is_number",Ab9),("is_tuple",Am0),("is_part",Bb2),("are_parts",Ac1),("is_content",vU),("are_items",Ac2),("are_rows",Am3),("is_block",Am1),("are_blocks",vV),("normal",Bs4),("need_normal",rH),("put_items",Ab0),("rows_of",Ba5),("pieces",Bs3),("shown",Cf2),("need_target",rG),("turned_parts",qS),("turned_items",qT),("turned_blocks",mH),("turned",Bs0),("_law_cell_at",rJ),("_law_signs",Ab4),("_law_alike",mC),("_law_row",Ba7),("_law_plain",Ab5),("_law_words",Ab2),("_law_barred",vT),("_law_size",Al6),("_law_end",Ba9),("_law_put",Ba8),("_law_label",Ab6),("_law_parts",X8),("_law_item",Al8),("_law_plain_row",mI),("_law_ahead",Ab8),("_law_plainly",gY),("_law_quote",mA),("_law_add",sZ),("_law_tree",qM),("_law_under",Ab3),("_law_rows",Al7),("_law_turned",vQ),("_law_items",Ab7),("_law_blocks",vS),("_law_targets",gX),("_law_below",mB),("_law_some",qN),("_law_spoilt",vR)]
noncomputable def gl:Gl:={ Er:=[("MOST_OPEN",12),("MOST_QUOTES",9),("MOST_SHARPS",6),("MOST_DASHES",9)],fns:=prg.map λx=>(x.1,x.2.lits) }
noncomputable abbrev P:Prg:=λf=>prg.lookup f
end L11
set_option linter.unusedVariables false
namespace Aa
noncomputable def Ev (C:Calls) (ρ:M6) (H:Heap) (e:E) (v:V):Prop:=∀ Q:F8,Q v H->L0 C e ρ Q H
theorem iq {α:Type}{v:α}{H:Heap}(Q:α->Heap->Prop) (h:Q v H):Q v H:=h
noncomputable def Fv (C:Calls) (ρ:M6) (H:Heap) (es:List E) (vs:List V):Prop:=∀ Q:List V->Heap->Prop,Q vs H->V2 C es ρ Q H
section
variable {C:Calls}{ρ:M6}{H:Heap}{R:O3}{ss:List S}
theorem iL {x:Nat}(h:ρ[x]? = some (some v)):Ev C ρ H (.var x) v:=λZ k=>eY h k
theorem G9:Ev C ρ H (.int i) (.int i):=λZ k=>k
theorem S7:Ev C ρ H (.str i) (.str i):=λZ k=>k
theorem bB:Ev C ρ H (.neg i) (.int (-i)):=λZ k=>k
theorem K0 (hl:Ev C ρ H l a) (hr:Ev C ρ H r b) (h:eR o a b H=some (c,H)):Ev C ρ H (.bin o l r) c:=λQ k=>hl _ (hr _ (by
 show res (eR o a b H) Q
 exact qz h k))
theorem H9 (hl:Ev C ρ H l a) (hr:Ev C ρ H r b) (h:W5 o a b H=some t):Ev C ρ H (.cmp o l r) (.bool t):=λQ k=>hl _ (hr _ (by
 show Bb (W5 o a b H) (λb H=>Q (.bool b) H) H
 exact qz h k))
theorem Cm5 (hl:Ev C ρ H l a) (hr:Ev C ρ H r b) (hq:Ev C ρ H q d) (h:W5 o a b H=some t) (h2:W5 o2 b d H=some t2):Ev C ρ H (.Dk o o2 l r q) (.bool (t&&t2)):=λQ k=>hl _ (hr _ (by
 show Bb (W5 o a b H) _ H
 refine qz h ?_
 cases t with
 | true=>exact hq _ (by show Bb (W5 o2 b d H) (λb H=>Q (.bool b) H) H;exact qz h2 k)
 | false=>exact k))
theorem Dd1 (he:Ev C ρ H e a):Ev C ρ H (.is e c) (.bool (isV a c)):=λQ k=>he _ k
theorem Ap5 (he:Ev C ρ H e a):Ev C ρ H (.Az e c) (.bool (!isV a c)):=λQ k=>he _ k
theorem kF (he:Ev C ρ H e a):Ev C ρ H (.Ae e c) (.bool (dU a c)):=λQ k=>he _ k
theorem bR (he:Ev C ρ H e (.bool t)):Ev C ρ H (.not e) (.bool (!t)):=λQ k=>he _ k
theorem L6 (hl:Ev C ρ H l a) (hr:Ev C ρ H r b) (h:cL a b H=some c):Ev C ρ H (.idx l r) c:=λQ k=>hl _ (hr _ (by
 show val (cL a b H) Q H
 exact qz h k))
theorem Cv2 (ho:Ev C ρ H o a) (hl:Ev C ρ H l (.int i)) (hr:Ev C ρ H r (.int j)) (h:cK a (some i) (some j) H=some (c,H)):Ev C ρ H (.slc o l r) c:=λQ k=>ho _ (hl _ (hr _ (by
 show res (cK a (some i) (some j) H) Q
 exact qz h k)))
theorem Ad9 (ho:Ev C ρ H o a) (hl:Ev C ρ H l (.int i)) (h:cK a (some i) none H=some (c,H)):Ev C ρ H (.Aw o l) c:=λQ k=>ho _ (hl _ (by
 show res (cK a (some i) none H) Q
 exact qz h k))
theorem Ae0 (ho:Ev C ρ H o a) (hl:Ev C ρ H l (.int i)) (h:cK a none (some i) H=some (c,H)):Ev C ρ H (.Cp o l) c:=λQ k=>ho _ (hl _ (by
 show res (cK a none (some i) H) Q
 exact qz h k))
theorem Q1 {n:Int}(he:Ev C ρ H e a) (h:qX a H=some n):Ev C ρ H (.len e) (.int n):=λQ k=>he _ (by
 show val ((qX a H).map .int) Q H
 exact qz h k)
theorem Bf1 (ho:Ev C ρ H o (.str s)) (ha:Ev C ρ H a (.str [c])) (hb:Ev C ρ H b (.int i)) (h:0<=i):Ev C ρ H (.find o a b) (.int (rS s c i.toNat)):=λQ k=>ho _ (ha _ (hb _ ⟨h,k⟩))
theorem iM (h:Fv C ρ H es vs):Ev C ρ H (.tup es) (.tup vs):=λQ k=>h _ k
theorem Q7:Fv C ρ H [] []:=λZ k=>k
theorem I8 (h:Ev C ρ H e v) (k:Fv C ρ H es vs):Fv C ρ H (e::es) (v::vs):=λZ q=>h _ (k _ q)
theorem Cg5 (he:Ev C ρ H e (.str [c])):Ev C ρ H (.ord e) (.int c):=λQ k=>he _ k
theorem fT (he:Ev C ρ H e (.bool b)):Ev C ρ H (.toInt e) (.int (if b then 1 else 0)):=λQ k=>he _ k
theorem K7 (h1:Ev C ρ H e (.bool b)) (h2:b=true->Ev C ρ H (.and (f::es)) (.bool b2)):Ev C ρ H (.and (e::f::es)) (.bool (b&&b2)):=λQ k=>h1 _ (by
 cases b with
 | true=>exact h2 rfl _ k
 | false=>exact k)
theorem R5 (h1:Ev C ρ H e (.bool b)) (h2:b=false->Ev C ρ H (.or (f::es)) (.bool b2)):Ev C ρ H (.or (e::f::es)) (.bool (b||b2)):=λQ k=>h1 _ (by
 cases b with
 | true=>exact k
 | false=>exact h2 rfl _ k)
theorem M9 (h1:Ev C ρ H e b):Ev C ρ H (.and [e]) b:=h1
theorem Z8 (h1:Ev C ρ H e b):Ev C ρ H (.or [e]) b:=h1
theorem jX (h:Ev C ρ H e v) (q:v=v'):Ev C ρ H e v':=q▸h
theorem Q0 (h:Ev C ρ H e (.bool v)) (q:v=v'):Ev C ρ H e (.bool v'):=q▸h
theorem U3:eR .add (.int a) (.int b) H=some (.int (a+b),H):=rfl
theorem oL:eR .sub (.int a) (.int b) H=some (.int (a - b),H):=rfl
theorem Q8 (hb:0<b):eR .mod (.int a) (.int b) H=some (.int (a % b),H):=by
 show (if _ then _ else _)=_
 exact qz (if_pos hb) rfl
theorem R4 (hb:0<b/\b<1073741824):eR .fdiv (.int a) (.int b) H=some (.int (a / b),H):=by
 show (if _ then _ else _)=_
 exact qz (if_pos hb) rfl
theorem hU (hb:a.natAbs<1152921504606846976∨b.natAbs<1152921504606846976):eR .mul (.int a) (.int b) H=some (.int (a * b),H):=if_pos hb
theorem Ae5 {n:Int}(hb:a.length * n.toNat<=P0/\-4611686018427387904<n/\n<4611686018427387904):eR .mul (.str a) (.int n) H=some (.str (List.replicate n.toNat a).flatten,H):=if_pos hb
theorem bC (hb:a.length+b.length<=P0):eR .add (.str a) (.str b) H=some (.str (a++b),H):=by
 show (if _ then _ else _)=_
 exact qz (if_pos hb) rfl
theorem tI:cK (.str s) lo hi H=some (.str (slice s lo hi),H):=rfl
theorem aA:W5 .eq (.str a) (.str b) H=some (a==b):=rfl
theorem nK:W5 .ne (.str a) (.str b) H=some (!(a==b)):=rfl
theorem Y2:W5 .eq (.int a) (.int b) H=some (a==b):=rfl
theorem Bc6:W5 .ne (.int a) (.int b) H=some (!(a==b)):=rfl
theorem aZ:W5 .lt (.int a) (.int b) H=some (decide (a<b)):=rfl
theorem tD:W5 .le (.int a) (.int b) H=some (decide (a<=b)):=rfl
theorem Z6:W5 .gt (.int a) (.int b) H=some (decide (b<a)):=rfl
theorem Ck8:W5 .ge (.int a) (.int b) H=some (decide (b<=a)):=rfl
theorem An1:W5 .isin (.str [c]) (.str b) H=some (b.contains c):=rfl
theorem oM:qX (.str s) H=some (s.length:Int):=rfl
theorem Bg0:qX (.tup s) H=some (s.length:Int):=rfl
theorem Bg1:qX (.Bv s) H=some (s.length:Int):=rfl
theorem P6 (h:H[a]? = some l):qX (.ref a) H=some (l.length:Int):=by show (H[a]?).map _=_;refine qz h ?_;rfl
theorem Bc7 {Q:F8}(ho:Ev C ρ H o (.str s)) (k:L0 C a ρ (λva Hz=>lL s va Q Hz) H):L0 C (.join o a) ρ Q H:=ho _ k
theorem Co0 {Q:F8}(ho:Ev C ρ H o vo) (hl:Ev C ρ H l (.int i)) (k:res (cK vo (some i) none H) Q):L0 C (.Aw o l) ρ Q H:=ho _ (hl _ k)
theorem Ay9 {Q:F8}(ho:Ev C ρ H o (.str s)) (k:L0 C a ρ (λva Hz=>L0 C b ρ (λvb Hv=>jM s va vb Q Hv) Hz) H):L0 C (.replace o a b) ρ Q H:=ho _ k
theorem Cv6 {Q:F8}(ho:Ev C ρ H o (.ref a)) (k:res (Ad2 (.ref a) H) Q):L0 C (.pop o) ρ Q H:=ho _ k
theorem Bg7 {x:Nat}{Q:F8}(h:L0 C e ρ (λv Hw=>match cP v with | some it=>∃ n,bS (L0 C i6) x ρ it n 0 [] (λvs Hz=>Q (.ref Hz.length) (Hz++[vs])) Hw | none=>False) H):L0 C (.comp i6 x e) ρ Q H:=h
theorem F9 {x:Nat}(h:Ev C ρ H e v) (k:K1 C ss (ρ.set x (some v)) R H):K1 C (.assign x e::ss) ρ R H:=h _ k
theorem O0 (h:Ev C ρ H e v) (k:R (.ret v) ρ H):K1 C (.ret e::ss) ρ R H:=h _ k
theorem Z9 (hc:Ev C ρ H c (.bool b)) (ht:b=true->K1 C t ρ (R8 C ss R) H) (hf:b=false->K1 C f ρ (R8 C ss R) H):K1 C (.ite c t f::ss) ρ R H:=hc _ (by
 cases b with
 | true=>exact ht rfl
 | false=>exact hf rfl)
theorem K4 (h:Fv C ρ H es vs) (k:∀ Q:F8,Q v H->C f vs Q H):Ev C ρ H (.call f es) v:=λQ q=>h _ (k Q q)
theorem E8 (hc:Ev C ρ H c (.bool false)) (k:K1 C ss ρ R H):K1 C (.ite c t []::ss) ρ R H:=hc _ k
theorem H7 (hc:Ev C ρ H c (.bool true)) (ht:K1 C t ρ (R8 C ss R) H):K1 C (.ite c t f::ss) ρ R H:=hc _ ht
theorem G8 (hc:Ev C ρ H c (.bool false)) (hf:K1 C f ρ (R8 C ss R) H):K1 C (.ite c t f::ss) ρ R H:=hc _ hf
theorem aB {x:Nat}(h:Fv C ρ H es vs) (k:C f vs (λv Hw=>K1 C ss (ρ.set x (some v)) R Hw) H):K1 C (.assign x (.call f es)::ss) ρ R H:=h _ k
theorem rU (h:Fv C ρ H es vs) (k:C f vs (λv Hw=>R (.ret v) ρ Hw) H):K1 C (.ret (.call f es)::ss) ρ R H:=h _ k
theorem P8 (h:Fv C ρ H es vs) (k:C f vs (λZ Hw=>K1 C ss ρ R Hw) H):K1 C (.expr (.call f es)::ss) ρ R H:=h _ k
end
inductive Dd3 (C:Calls) (c:E) (b:List S) (Q:O3) (ρ:M6) (H:Heap) (K:M6->Heap->Prop):Prop
 | go (hc:Ev C ρ H c (.bool true)) (hb:K1 C b ρ (gS Q K) H)
 | stop (hc:Ev C ρ H c (.bool false)) (hq:Q .next ρ H)
theorem nM {C:Calls}{c:E}{b:List S}{Q:O3}{σ:Type}(env:σ->M6) (I:σ->Heap->Prop) (μ:σ->Nat)
  (step:∀ s H,I s H->∀ K:M6->Heap->Prop,(∀ s' H',μ s'<μ s->I s' H'->K (env s') H')->Dd3 C c b Q (env s) H K) (s:σ) {H:Heap}(h:I s H):lE C (.Dq c b) (env s) Q H:=by
 refine xQ (λm ρ H=>∃ s,m=μ s/\ρ=env s/\I s H) (λk ρ H hI K hK=>?_) (μ s) ⟨s,rfl,rfl,h⟩
 obtain ⟨s,rfl,rfl,hI⟩:=hI
 rcases step s H hI K (λs' H' hm h'=>hK (μ s') _ _ hm ⟨s',rfl,rfl,h'⟩) with ⟨hc,hb⟩|⟨hc,hq⟩
 ·exact hc _ hb
 ·exact hc _ hq
theorem Ae6 {C:Calls}{x:Nat}{b:List S}{Q:O3}{σ:Type}(env:σ->M6) (I:Nat->σ->Heap->Prop) {a:Nat}{l:List V}(hl:∀ i s H,I i s H->H[a]? = some l)
  (step:∀ i s H v,l[i]? = some v->I i s H->∀ K:M6->Heap->Prop,(∀ s' H',I (i+1) s' H'->K (env s') H')->K1 C b ((env s).set x (some v)) (gS Q K) H)
  (fin:∀ s H,I l.length s H->Q .next (env s) H) (s:σ) {H:Heap}(h:I 0 s H):∃ n,cM (K1 C b) x (.lst a) n 0 (env s) Q H:=by
 refine Ca9 (l:=l) (λi ρ H=>∃ s,ρ=env s/\I i s H) (λi ρ H h=>?_) (λi ρ H v hv hI K hK=>?_) (λρ H hI=>?_) ⟨s,rfl,h⟩
 ·obtain ⟨s,rfl,h⟩:=h;exact hl i s H h
 ·obtain ⟨s,rfl,h⟩:=hI;exact step i s H v hv h K λs' H' h'=>hK _ _ ⟨s',rfl,h'⟩
 ·obtain ⟨s,rfl,h⟩:=hI;exact fin s H h
theorem Y9 {C:Calls}{x:Nat}{e:E}{b:List S}{Q:O3}{σ:Type}(env:σ->M6) (I:Nat->σ->Heap->Prop) {a:Nat}{l:List V}(hl:∀ i s H,I i s H->H[a]? = some l)
  (step:∀ i s H v,l[i]? = some v->I i s H->∀ K:M6->Heap->Prop,(∀ s' H',I (i+1) s' H'->K (env s') H')->K1 C b ((env s).set x (some v)) (gS Q K) H)
  (fin:∀ s H,I l.length s H->Q .next (env s) H) (s:σ) {H:Heap}(he:Ev C (env s) H e (.ref a)) (h:I 0 s H):lE C (.forIn x e b) (env s) Q H :=
 he (λv Hw=>match cP v with | some it=>∃ n,cM (K1 C b) x it n 0 (env s) Q Hw | none=>False) (Ae6 env I hl step fin s h)
theorem Bg3 {x:Nat}(h:L0 C e ρ (λv Hw=>match cP v with | some it=>∃ n,cM (K1 C b) x it n 0 ρ Q Hw | none=>False) H):lE C (.forIn x e b) ρ Q H:=h
theorem Ca8 (ha:H[a]? = some l) (he:Ev C ρ H e (.ref a)) (Q:F8) (k:Q (.ref H.length) (H++[l])):L0 C (.listOf e) ρ Q H:=he _ (by
 show (match H[a]? with | some l=>Q (.ref H.length) (H++[l]) | none=>False)
 exact qz ha k)
theorem N3 (ho:Ev C ρ H o (.ref a)) (he:∀ Q:F8,Q v H1->L0 C e ρ Q H) (ha:H1[a]? = some l) (hl:l.length<P0) (k:K1 C ss ρ R (H1.set a (l++[v]))):K1 C (.expr (.append o e)::ss) ρ R H:=ho _ (he _ (Q4 (Q:=λZ Hw=>K1 C ss ρ R Hw) ha hl k))
theorem fJ (ho:Ev C ρ H o (.ref a)) (h:Fv C ρ H es vs) (k:C f vs (λv Hw=>Cy (W2 (.ref a) v Hw) (λZ Hz=>K1 C ss ρ R Hz)) H):K1 C (.expr (.append o (.call f es))::ss) ρ R H:=ho _ (h _ k)
theorem Bc4 {x:Nat}(ho:Ev C ρ H o (.ref a)) (ha:H[a]? = some (l++[v])) (k:K1 C ss (ρ.set x (some v)) R (H.set a l)):K1 C (.assign x (.pop o)::ss) ρ R H:=ho _ (Bc5 (Q:=λv Hw=>K1 C ss (ρ.set x (some v)) R Hw) ha k)
theorem Bf7 (ho:Ev C ρ H o (.ref a)) (ha:H[a]? = some (l++[v])) (k:K1 C ss ρ R (H.set a l)):K1 C (.expr (.pop o)::ss) ρ R H:=ho _ (Bc5 (Q:=λZ Hw=>K1 C ss ρ R Hw) ha k)
theorem K5 {Q:List V->Heap->Prop}(h:Ev C ρ H e v) (k:V2 C es ρ (λvs Hz=>Q (v::vs) Hz) H):V2 C (e::es) ρ Q H:=h _ k
theorem R0 {Q:List V->Heap->Prop}(h:Fv C ρ H fs vs) (k:C f vs (λv Hw=>V2 C es ρ (λws Hz=>Q (v::ws) Hz) Hw) H):V2 C (.call f fs::es) ρ Q H:=h _ k
theorem cW {Q:List V->Heap->Prop}(k:Q [.ref H.length] (H++[[]])):V2 C [.list []] ρ Q H:=k
theorem Bm6 (he:Ev C ρ H e v) (ho:Ev C ρ H o (.ref a)) (hi:Ev C ρ H i (.int z)) (ha:H[a]? = some l) (hk:R2 z l.length=some k) (q:K1 C ss ρ R (H.set a (l.set k v))):K1 C (.Bs o i e::ss) ρ R H:=he _ (ho _ (hi _ (Cv5 (Q:=λZ Hw=>K1 C ss ρ R Hw) ha hk q)))
theorem P5 {x:Nat}(h:∀ Q:F8,Q v H1->L0 C e ρ Q H) (k:K1 C ss (ρ.set x (some v)) R H1):K1 C (.assign x e::ss) ρ R H:=h _ k
theorem X3 {H:Heap}{a i:Nat}{l:List V}(ha:H[a]? = some l) (hc:l[i]? = some c):cL (.ref a) (.int i) H=some c:=by
 show (H[a]?).bind _=_
 refine qz ha ?_
 show (R2 (i:Int) l.length).bind _=_
 exact qz (Z3 (A3 hc).1) hc
theorem Q6 (ha:H[a]? = some (l++[c])):cL (.ref a) (.int (-1)) H=some c:=by
 show (H[a]?).bind _=_
 refine qz ha ?_
 show (R2 (-1) (l++[c]).length).bind _=_
 refine qz D4 (qz List.length_singleton (qz pW ?_))
 show (l++[c])[l.length]? = _
 refine qz (List.getElem?_append_right (D3 _)) (qz (Nat.sub_self _) ?_);rfl
theorem wQ {H:Heap}{s:List Nat}{i c:Nat}(hc:s[i]? = some c):cL (.str s) (.int i) H=some (.str [c]):=by
 show (R2 (i:Int) s.length).bind _=_
 refine qz (Z3 (A3 hc).1) ?_
 show (s[i]?).map _=_
 refine qz hc ?_;rfl
theorem tK {C:Calls}{x:Nat}{e:E}{b:List S}{Q:O3}{σ:Type}(env:σ->M6) (I:Nat->σ->Heap->Prop) {n:Nat}(hn:n<4611686018427387904)
  (step:∀ i s H,i<n->I i s H->∀ K:M6->Heap->Prop,(∀ s' H',I (i+1) s' H'->K (env s') H')->K1 C b ((env s).set x (some (.int (i:Int)))) (gS Q K) H)
  (fin:∀ s H,I n s H->Q .next (env s) H) (s:σ) {H:Heap}(he:Ev C (env s) H e (.int (n:Int))) (h:I 0 s H):lE C (.Dc x e b) (env s) Q H:=by
 refine he (λv Hw=>match cF v with | some it=>∃ m,cM (K1 C b) x it m 0 (env s) Q Hw | none=>False) ?_
 show match cF (.int (n:Int)) with | some it=>∃ m,cM (K1 C b) x it m 0 (env s) Q H | none=>False
 refine qz (Ax7 hn) ?_
 refine Aq5 (λi ρ H=>∃ s,ρ=env s/\I i s H) (λi ρ H v hv hI K hK=>?_) (λρ H hI=>?_) ⟨s,rfl,h⟩
 ·obtain ⟨s,rfl,h⟩:=hI
  have hi:i<n:=by
   have:=(A3 hv).1
   simpa using this
  have e:v=.int (i:Int):=by
   simp [hi] at hv
   exact hv.symm
  subst e
  exact step i s H hi h K λs' H' h'=>hK _ _ ⟨s',rfl,h'⟩
 ·obtain ⟨s,rfl,h⟩:=hI
  exact fin s H (by simpa using h)
theorem Ca7 (ho:Ev C ρ H o (.str s)) (ha:Ev C ρ H a (.str [c])) (hl:s.length<P0) (Q:F8) (k:Q (.ref H.length) (H++[(splitAt c s).map .str])):L0 C (.split o a) ρ Q H:=ho _ (ha _ ⟨hl,k⟩)
theorem Bg2 {C:Calls}{x:Nat}{e:E}{b:List S}{Q:O3}{σ:Type}(env:σ->M6) (I:Nat->σ->Heap->Prop) {t:List Nat}
  (step:∀ i s H c,t[i]? = some c->I i s H->∀ K:M6->Heap->Prop,(∀ s' H',I (i+1) s' H'->K (env s') H')->K1 C b ((env s).set x (some (.str [c]))) (gS Q K) H)
  (fin:∀ s H,I t.length s H->Q .next (env s) H) (s:σ) {H:Heap}(he:Ev C (env s) H e (.str t)) (h:I 0 s H):lE C (.forIn x e b) (env s) Q H:=by
 refine he (λv Hw=>match cP v with | some it=>∃ n,cM (K1 C b) x it n 0 (env s) Q Hw | none=>False) ?_
 refine Aq5 (vs:=t.map λc=>V.str [c]) (λi ρ H=>∃ s,ρ=env s/\I i s H) (λi ρ H v hv hI K hK=>?_) (λρ H hI=>?_) ⟨s,rfl,h⟩
 ·obtain ⟨s,rfl,h⟩:=hI
  rw [E6] at hv
  obtain ⟨c,hc,rfl⟩:=C1 hv
  exact step i s H c hc h K λs' H' h'=>hK _ _ ⟨s',rfl,h'⟩
 ·obtain ⟨s,rfl,h⟩:=hI
  rw [E3] at h
  exact fin s H h
theorem sL {x a:Nat}{Q:List V->Heap->Prop}(hn:l.length<=P0) (I:Nat->List V->Heap->Prop) (hl:∀ i d5 G,I i d5 G->G[a]? = some l)
  (step:∀ i d5 G v,l[i]? = some v->d5.length=i->I i d5 G->∀ K:F8,(∀ w G',I (i+1) (d5++[w]) G'->K w G')->L0 C i6 (ρ.set x (some v)) K G)
  (fin:∀ d5 G,d5.length=l.length->I l.length d5 G->Q d5 G):∀ (m i:Nat) (d5:List V) (H:Heap),l.length<m+i->i<=l.length->d5.length=i->I i d5 H->bS (L0 C i6) x ρ (.lst a) m i d5 Q H
 | 0=>λi Z Z h hi Z Z=>absurd h (Nat.not_lt_of_le (qz (Nat.zero_add _) hi))
 | m+1=>λi d5 H h hi b7 hI=>by
  show (match (It.lst a).at H i with | none=>_ | some v=>_)
  have Cf:(It.lst a).at H i=l[i]?:=by unfold It.at;simp only [hl i d5 H hI]
  refine qz Cf ?_
  by_cases hlt:i<l.length
  ·exact qz (A8 hlt) (step i d5 H _ (A8 hlt) b7 hI _ λw G' hI'=>⟨D6 (b7▸hlt) hn,sL hn I hl step fin m (i+1) (d5++[w]) G' (by rw [B5] at h;exact h) hlt (by rw [D4,b7];rfl) hI'⟩)
  ·have e:i=l.length:=Nat.le_antisymm hi (Nat.le_of_not_lt hlt)
   subst e
   exact qz (List.getElem?_eq_none (D3 _)) (fin d5 H b7 hI)
theorem tL {x a:Nat}(he:Ev C ρ H e (.ref a)) (hn:l.length<=P0) (I:Nat->List V->Heap->Prop) (hl:∀ i d5 G,I i d5 G->G[a]? = some l)
  (step:∀ i d5 G v,l[i]? = some v->d5.length=i->I i d5 G->∀ K:F8,(∀ w G',I (i+1) (d5++[w]) G'->K w G')->L0 C i6 (ρ.set x (some v)) K G) (h0:I 0 [] H)
  (Q:F8) (fin:∀ d5 G,d5.length=l.length->I l.length d5 G->Q (.ref G.length) (G++[d5])):L0 C (.comp i6 x e) ρ Q H :=
 he (λv Hw=>match cP v with | some it=>∃ n,bS (L0 C i6) x ρ it n 0 [] (λvs Hz=>Q (.ref Hz.length) (Hz++[vs])) Hw | none=>False) ⟨l.length+1,sL hn I hl step fin (l.length+1) 0 [] H (D9 _) (D8 _) rfl h0⟩
theorem Cv7 {x a:Nat}(f:V->V) (he:Ev C ρ H e (.ref a)) (ha:H[a]? = some l) (hn:l.length<=P0) (step:∀ v∈l,Ev C (ρ.set x (some v)) H i6 (f v))
  (Q:F8) (fin:Q (.ref H.length) (H++[l.map f])):L0 C (.comp i6 x e) ρ Q H :=
 tL he hn (λi d5 G=>G=H/\d5=(l.take i).map f) (λi d5 G h=>h.1▸ha) (λi d5 G v hv Z hI K hK=>by
  obtain ⟨rfl,rfl⟩:=hI
  exact step v (E5 hv) K (hK _ _ ⟨rfl,by refine qz List.take_add_one (qz hv (qz C3 ?_));rfl⟩)) ⟨rfl,rfl⟩ Q λd5 G Z hI=>by
  obtain ⟨rfl,rfl⟩:=hI
  exact qz List.take_length fin
noncomputable def aF (C:Calls) (ρ:M6) (H:Heap) (e:E) (v:V) (Φ:Heap->Prop):Prop:=∀ Q:F8,(∀ G,Φ G->Q v G)->L0 C e ρ Q H
section
variable {C:Calls}{ρ:M6}{H:Heap}{R:O3}{ss:List S}{Φ Ψ:Heap->Prop}
theorem iK (h:Ev C ρ H e v):aF C ρ H e v (λG=>G=H):=λZ k=>h _ (k H rfl)
theorem Bc0 (h:aF C ρ H e v Φ) (k:∀ G,Φ G->Ψ G):aF C ρ H e v Ψ:=λQ q=>h Q λG g=>q G (k G g)
theorem bE (h:Fv C ρ H es vs) (k:∀ Q:F8,(∀ G,Φ G->Q v G)->C f vs Q H):aF C ρ H (.call f es) v Φ:=λQ q=>h _ (k Q q)
theorem gT (h:aF C ρ H e (.bool t) Φ):aF C ρ H (.not e) (.bool (!t)) Φ:=λQ q=>h _ λG g=>q G g
theorem nN (h1:aF C ρ H e (.bool false) Φ) (h2:∀ G,Φ G->aF C ρ G (.or (f::es)) v Ψ):aF C ρ H (.or (e::f::es)) v Ψ:=λQ k=>h1 _ λG g=>h2 G g Q k
theorem rQ (h1:aF C ρ H e v Φ):aF C ρ H (.or [e]) v Φ:=h1
theorem cG (h1:aF C ρ H e (.bool true) Φ) (h2:∀ G,Φ G->aF C ρ G (.and (f::es)) v Ψ):aF C ρ H (.and (e::f::es)) v Ψ:=λQ k=>h1 _ λG g=>h2 G g Q k
theorem hX (h1:aF C ρ H e v Φ):aF C ρ H (.and [e]) v Φ:=h1
theorem h_b (h:aF C ρ H e (.bool v) Φ) (q:v=v'):aF C ρ H e (.bool v') Φ:=q▸h
theorem T7 (hc:aF C ρ H c (.bool false) Φ) (k:∀ G,Φ G->K1 C ss ρ R G):K1 C (.ite c t []::ss) ρ R H:=hc _ λG g=>k G g
theorem fX (hc:aF C ρ H c (.bool true) Φ) (k:∀ G,Φ G->K1 C t ρ (R8 C ss R) G):K1 C (.ite c t f::ss) ρ R H:=hc _ λG g=>k G g
theorem oO (h:aF C ρ H e v Φ) (k:∀ G,Φ G->R (.ret v) ρ G):K1 C (.ret e::ss) ρ R H:=h _ λG g=>k G g
theorem rR (hl:aF C ρ H l a Φ) (hr:∀ G,Φ G->aF C ρ G r b Ψ) (h:∀ G,Ψ G->W5 o a b G=some t):aF C ρ H (.cmp o l r) (.bool t) Ψ:=λQ k=>hl _ λG g=>hr G g _ λG' g'=>by
 show Bb (W5 o a b G') (λb H=>Q (.bool b) H) G'
 exact qz (h G' g') (k G' g')
theorem mP:aF C ρ H (.list []) (.ref H.length) (λG=>G=H++[[]]):=λZ k=>k _ rfl
end
end Aa
set_option genSizeOf false
set_option linter.unusedVariables false
namespace L11
open Aa
set_option genCtorIdx false in
inductive A where
 | n
 | b (t:Bool)
 | i (z:Int)
 | s (w:List Nat)
noncomputable def aV:A->V
 | .n=>.none
 | .b t=>.bool t
 | .i z=>.int z
 | .s w=>.str w
set_option genCtorIdx false in
inductive X where
 | at (a:A)
 | tup (xs:List X)
 | lst (xs:List X)
structure Bd (lo hi a p q:Nat):Prop where
 la:lo<=a
 ah:a<hi
 lp:lo<=p
 qh:q<=hi
theorem Bd.mono (h:Bd lo hi a p q) (h1:lo'<=lo) (h2:hi<=d7):Bd lo' d7 a p q :=
 ⟨D2 h1 h.la,D6 h.ah h2,D2 h1 h.lp,D2 h.qh h2⟩
mutual
noncomputable def N8 (H:Heap):X->Nat->Nat->V->Prop
 | .at a,_,_,v=>v=aV a
 | .tup xs,lo,hi,v=>∃ vs,v=.tup vs/\M1 H xs lo hi vs
 | .lst xs,lo,hi,v=>∃ a vs p q,v=.ref a/\Bd lo hi a p q/\H[a]? = some vs/\M1 H xs p q vs
noncomputable def M1 (H:Heap):List X->Nat->Nat->List V->Prop
 | [],lo,hi,l=>lo<=hi/\l=[]
 | x::xs,lo,hi,l=>∃ v r m,l=v::r/\lo<=m/\N8 H x lo m v/\M1 H xs m hi r
end
noncomputable def R1 (H G:Heap) (lo hi:Nat):Prop:=∀ x,lo<=x->x<hi->G[x]? = H[x]?
theorem R1.sub (h:R1 H G lo hi) (h1:lo<=lo') (h2:d7<=hi):R1 H G lo' d7:=λx a b=>h x (D2 h1 a) (D6 b h2)
theorem R1.refl:R1 H H lo hi:=λZ Z Z=>rfl
theorem R1.trans {A B C:Heap}(h:R1 A B lo hi) (k:R1 B C lo hi):R1 A C lo hi:=λx a b=>(k x a b).trans (h x a b)
theorem M1.le:∀ {xs:List X}{lo hi:Nat}{l:List V},M1 H xs lo hi l->lo<=hi:=by
 intro xs
 induction xs with
 | nil=>exact λh=>h.1
 | cons _ xs ih =>
  exact λh=>by
   obtain ⟨v,r,m,_,h1,_,h2⟩:=h
   exact D2 h1 (ih h2)
mutual
theorem N8.mono:∀ (x:X) (lo hi lo' d7:Nat) (v:V),R1 H G lo hi->lo'<=lo->hi<=d7->N8 H x lo hi v->N8 G x lo' d7 v
 | .at _=>λZ Z Z Z Z Z Z Z h=>h
 | .tup xs=>λlo hi lo' d7 Z hf h1 h2 h=>by
  obtain ⟨vs,e,h⟩:=h
  exact ⟨vs,e,M1.mono xs lo hi lo' d7 vs hf h1 h2 h⟩
 | .lst xs=>λlo hi lo' d7 Z hf h1 h2 h=>by
  obtain ⟨a,l,p,q,e,hb,hl,hr⟩:=h
  exact ⟨a,l,p,q,e,hb.mono h1 h2,(hf a hb.la hb.ah).trans hl,M1.mono xs p q p q l (hf.sub hb.lp hb.qh) (D3 _) (D3 _) hr⟩
theorem M1.mono:∀ (xs:List X) (lo hi lo' d7:Nat) (l:List V),R1 H G lo hi->lo'<=lo->hi<=d7->M1 H xs lo hi l->M1 G xs lo' d7 l
 | []=>λZ Z Z Z Z Z h1 h2 h=>⟨D2 h1 (D2 h.1 h2),h.2⟩
 | x::xs=>λlo hi lo' d7 Z hf h1 h2 h=>by
  obtain ⟨v,r,m,e,b1,g1,g2⟩:=h
  exact ⟨v,r,m,e,D2 h1 b1,N8.mono x lo m lo' m v (hf.sub (D3 _) (M1.le g2)) h1 (D3 _) g1,M1.mono xs m hi m d7 r (hf.sub b1 (D3 _)) (D3 _) h2 g2⟩
end
theorem N8.to {x:X}(h:N8 H x lo hi v) (k:R1 H G lo hi):N8 G x lo hi v:=N8.mono _ _ _ _ _ _ k (D3 _) (D3 _) h
theorem M1.to {x:List X}(h:M1 H x lo hi v) (k:R1 H G lo hi):M1 G x lo hi v:=M1.mono _ _ _ _ _ _ k (D3 _) (D3 _) h
theorem M1.wide {x:List X}(h:M1 H x lo hi v) (h1:lo'<=lo) (h2:hi<=d7):M1 H x lo' d7 v:=M1.mono _ _ _ _ _ _ .refl h1 h2 h
theorem N8.wide {x:X}(h:N8 H x lo hi v) (h1:lo'<=lo) (h2:hi<=d7):N8 H x lo' d7 v:=N8.mono _ _ _ _ _ _ .refl h1 h2 h
theorem M1.nil (h:lo<=hi):M1 H [] lo hi []:=⟨h,rfl⟩
theorem M1.one {x:X}(hh:lo<=hi) (h:N8 H x lo hi v):M1 H [x] lo hi [v]:=⟨v,[],hi,rfl,hh,h,D3 _,rfl⟩
theorem M1.app (hm:M1 H ys mid hi m):∀ {xs:List X}{lo:Nat}{l:List V},M1 H xs lo mid l->M1 H (xs++ys) lo hi (l++m):=by
 intro xs
 induction xs with
 | nil =>
  exact λh=>by
   obtain ⟨h1,rfl⟩:=h
   exact hm.wide h1 (D3 _)
 | cons x xs ih =>
  exact λh=>by
   obtain ⟨v,r,k,rfl,b1,g1,g2⟩:=h
   exact ⟨v,r++m,k,rfl,b1,g1,ih g2⟩
theorem M1.add {x:X}(h:M1 H xs lo mid l) (hh:mid<=hi) (hm:N8 H x mid hi v):M1 H (xs++[x]) lo hi (l++[v]):=M1.app (.one hh hm) h
theorem M1.cut:∀ {xs:List X}{lo:Nat}{l:List V},M1 H (xs++ys) lo hi l->∃ a b m,l=a++b/\M1 H xs lo m a/\M1 H ys m hi b
 | [],lo,l,h=>⟨[],l,lo,rfl,⟨D3 _,rfl⟩,h⟩
 | x::xs,lo,l,h=>by
  apply Ah;intro g9 k9
  obtain ⟨v,r,k,rfl,b1,g1,g2⟩:=h
  obtain ⟨a,b,m,rfl,h3,h4⟩:=M1.cut (xs:=xs) g2
  apply k9
  exact ⟨v::a,b,m,rfl,⟨v,a,k,rfl,b1,g1,h3⟩,h4⟩
theorem M1.len:∀ {xs:List X}{lo hi:Nat}{l:List V},M1 H xs lo hi l->l.length=xs.length:=by
 intro xs
 induction xs with
 | nil=>exact λh=>by refine qz h.2 ?_;rfl
 | cons _ xs ih =>
  exact λh=>by
   obtain ⟨v,r,m,rfl,_,_,h2⟩:=h
   exact D0 (· + 1) (ih h2)
theorem hZ {x m:Nat}(h:x+1<=m):∃ m',m=m'+1:=by
 cases m with
 | zero=>cases h
 | succ m=>exact ⟨m,rfl⟩
theorem gC {deep d:Nat}(hd:deep+d=9) (h:deep<9):∃ d',d=d'+1:=by
 cases d with
 | zero=>exact absurd hd (D1 h)
 | succ d=>exact ⟨d,rfl⟩
theorem nV (h:a+(d+1)=m):a+1+d=m:=(B5 a 1 d).trans h
theorem tE:∀ {xs:List X}{lo hi:Nat}{l:List V}{i:Nat}{v:V},M1 H xs lo hi l->l[i]? = some v->∃ x,xs[i]? = some x/\N8 H x lo hi v
 | [],_,_,_,i,v,h,hv=>by rw [h.2] at hv;cases hv
 | x::xs,_,_,_,i,v,h,hv=>by
  obtain ⟨u,r,m,rfl,q1,h1,h2⟩:=h
  cases i with
  | zero=>cases hv;exact ⟨x,rfl,h1.wide (D3 _) h2.le⟩
  | succ i =>
   obtain ⟨y,e,hy⟩:=tE (xs:=xs) (i:=i) h2 hv
   exact ⟨y,e,hy.wide q1 (D3 _)⟩
theorem Av0 {α:Type}{f:α->X}{as:List α}{xs:List X}{H:Heap}{lo hi i:Nat}{l:List V}{v:V}(e:xs=as.map f) (h:M1 H xs lo hi l) (hv:l[i]? = some v):∃ a,as[i]? = some a/\N8 H (f a) lo hi v:=by
 apply Ah;intro g9 k9
 obtain ⟨x,hx,hr⟩:=tE h hv
 rw [e,E6] at hx
 obtain ⟨a,ha,rfl⟩:=C1 hx
 apply k9
 exact ⟨a,ha,hr⟩
theorem tZ {α:Type}{f:α->X}{as:List α}{xs:List X}(e:xs=as.map f):xs.length=as.length:=qz e (qz (E3 _) rfl)
theorem Bh8 {α:Type}{f:α->X}{as:List α}{xs:List X}(e:xs=as.map f) {y:X}(h:y∈xs):∃ a∈as,y=f a:=by
 rw [e] at h
 obtain ⟨a,ha,q⟩:=List.mem_map.mp h
 exact ⟨a,ha,q.symm⟩
theorem Af6 {α:Type}{f:α->X}{g:List α->List X}(e:∀ as,g as=as.map f) (as bs:List α):g (as++bs)=g as++g bs:=by rw [e,e,e,C3]
noncomputable def Q2 (w:Nat):Nat->X->Prop
 | 0,x=>match x with
  | .at _=>True
  | _=>False
 | m+1,x=>match x with
  | .at _=>True
  | .tup xs=>xs.length<=w/\∀ y∈xs,Q2 w m y
  | .lst xs=>xs.length<=w/\∀ y∈xs,Q2 w m y
theorem Q2.at:Q2 w m (.at a):=by cases m<;>exact trivial
theorem Q2.tup (h1:xs.length<=w) (h2:∀ y∈xs,Q2 w m y):Q2 w (m+1) (.tup xs):=⟨h1,h2⟩
theorem Q2.lst (h1:xs.length<=w) (h2:∀ y∈xs,Q2 w m y):Q2 w (m+1) (.lst xs):=⟨h1,h2⟩
theorem Q2.up (hw:w<=w'):∀ {m m':Nat}{x:X},m<=m'->Q2 w m x->Q2 w' m' x
 | 0,m',.at _,_,_=>Q2.at
 | 0,m',.tup _,_,h=>h.elim
 | 0,m',.lst _,_,h=>h.elim
 | m+1,m',.at _,_,_=>Q2.at
 | m+1,m'+1,.tup _,hm,h=>⟨D2 h.1 hw,λy hy=>Q2.up hw (Nat.le_of_succ_le_succ hm) (h.2 y hy)⟩
 | m+1,m'+1,.lst _,hm,h=>⟨D2 h.1 hw,λy hy=>Q2.up hw (Nat.le_of_succ_le_succ hm) (h.2 y hy)⟩
theorem zK {n:Nat}(h:Q (.bool true) H):Ac P (n+1) "_law_alike" [aV a,aV a] Q H:=by
 refine E9 rfl rfl ?_
 match a with
 | .n=>exact h
 | .b true=>exact h
 | .b false=>exact h
 | .s w =>
  have e:∀ {C:Calls}{x:Option V},Ev C [some (.str w),some (.str w),x] H (.cmp .eq J0 J1) (.bool (w==w)):=λZ h=>h
  rw [beq_self_eq_true] at e
  exact E8 iq (E8 iq (E8 iq (H7 iq (O0 (K7 (b:=true) iq λZ=>M9 e) h))))
 | .i w =>
  have e:∀ {C:Calls}{x:Option V},Ev C [some (.int w),some (.int w),x] H (.cmp .eq J0 J1) (.bool (w==w)):=λZ h=>h
  rw [beq_self_eq_true] at e
  exact E8 iq (E8 iq (E8 iq (E8 iq (H7 iq (O0 (K7 (b:=true) iq λZ=>K7 (b:=true) iq λZ=>M9 e) h)))))
theorem qO {n:Nat}{x y:V}{l l':List V}{Q:F8}{H:Heap}(hl:l.length<4611686018427387904) (Ck:l'.length=l.length)
  (hx:∀ (i:Nat) (c:V),l[i]? = some c->cL x (.int i) H=some c) (hy:∀ (i:Nat) (c:V),l'[i]? = some c->cL y (.int i) H=some c) (b7:qX y H=some (l.length:Int))
  (hi:∀ (i:Nat) (c c':V),l[i]? = some c->l'[i]? = some c'->∀ K:F8,K (.bool true) H->Ac P n "_law_alike" [c,c'] K H) (h:Q (.bool true) H) :
  K1 (Ac P n) (mC.body.drop 7) [some x,some y,none] (S1 Q) H:=by
 refine M7 (tK (σ:=Option V) (λe=>[some x,some y,e]) (λZ Z G=>G=H) hl (λi e G hlt hG K hK=>?_) (λe G hG=>?_) none (Q1 iq b7) rfl)
 ·subst hG
  have hg:l[i]? = some l[i]:=A8 hlt
  have hg':l'[i]? = some (l'[i]'(Ck.symm▸hlt)):=A8 _
  exact E8 (bR (t:=true) (K4 (I8 (L6 iq iq (hx i _ hg)) (I8 (L6 iq iq (hy i _ hg')) Q7)) λQ q=>hi i _ _ hg hg' Q q)) (hK (some (.int i)) _ rfl)
 ·subst hG
  exact h
theorem Bb7 {n:Nat}{l l':List V}{Q:F8}{H:Heap}(hl:l.length<4611686018427387904) (Ck:l'.length=l.length) (hi:∀ (i:Nat) (c c':V),l[i]? = some c->l'[i]? = some c'->∀ K:F8,K (.bool true) H->Ac P n "_law_alike" [c,c'] K H) (h:Q (.bool true) H) :
  Ac P (n+1) "_law_alike" [.tup l,.tup l'] Q H:=by
 refine E9 rfl rfl (E8 iq (E8 iq (E8 iq (E8 iq (E8 iq (E8 (R5 (b:=false) (b2:=false) iq λZ=>iq) (E8 (Q0 (H9 (Q1 iq Bg0) (Q1 iq Bg0) Bc6) ?_) (qO hl Ck (λi c hc=>?_) (λi c hc=>?_) ?_ hi h))))))))
 ·refine qz Ck ?_;simp
 ·show (R2 (i:Int) l.length).bind _=_
  exact qz (Z3 (A3 hc).1) hc
 ·show (R2 (i:Int) l'.length).bind _=_
  exact qz (Z3 (A3 hc).1) hc
 ·refine qz Ck.symm ?_;rfl
theorem Am6 {n a b:Nat}{l l':List V}{Q:F8}{H:Heap}(ha:H[a]? = some l) (hb:H[b]? = some l') (hl:l.length<4611686018427387904) (Ck:l'.length=l.length) (hi:∀ (i:Nat) (c c':V),l[i]? = some c->l'[i]? = some c'->∀ K:F8,K (.bool true) H->Ac P n "_law_alike" [c,c'] K H) (h:Q (.bool true) H) :
  Ac P (n+1) "_law_alike" [.ref a,.ref b] Q H:=by
 refine E9 rfl rfl (E8 iq (E8 iq (E8 iq (E8 iq (E8 iq (E8 (R5 (b:=false) (b2:=false) iq λZ=>iq) (E8 (Q0 (H9 (Q1 iq (P6 ha)) (Q1 iq (P6 hb)) Bc6) ?_) (qO hl Ck (λi c hc=>X3 ha hc) (λi c hc=>X3 hb hc) ?_ hi h))))))))
 ·refine qz Ck ?_;simp
 ·exact qz Ck.symm (P6 hb)
theorem jH (hw:w<4611686018427387904):∀ (m:Nat) (x:X) (v v':V) (lo hi lo' d7:Nat),Q2 w m x->N8 H x lo hi v->N8 H x lo' d7 v'->∀ K:F8,K (.bool true) H->Ac P (k+m+1) "_law_alike" [v,v'] K H:=by
 intro m
 induction m with
 | zero =>
  intro x v v' lo hi lo' d7 hf h h' K hK
  cases x with
  | «at» a=>exact qz (show v=aV a from h) (qz (show v'=aV a from h') (zK hK))
  | tup xs=>exact hf.elim
  | lst xs=>exact hf.elim
 | succ m ih =>
  intro x v v' lo hi lo' d7 hf h h' K hK
  have go:∀ (xs:List X) (l l':List V) (p q p' q':Nat),(xs.length<=w/\∀ y∈xs,Q2 w m y)->M1 H xs p q l->M1 H xs p' q' l'->l.length<4611686018427387904/\l'.length=l.length/\∀ (i:Nat) (c c':V),l[i]? = some c->l'[i]? = some c'->∀ K:F8,K (.bool true) H->Ac P (k+m+1) "_law_alike" [c,c'] K H:=λxs l l' p q p' q' hf h h'=>by
   refine ⟨by refine qz h.len ?_;exact D7 hf.1 hw,h'.len.trans h.len.symm,λi c c' hc j0 K hK=>?_⟩
   obtain ⟨y,hy,hr⟩:=tE h hc
   obtain ⟨z,hz,hr'⟩:=tE h' j0
   cases hy.symm.trans hz
   exact ih y c c' _ _ _ _ (hf.2 y (E5 hy)) hr hr' K hK
  cases x with
  | «at» a=>exact qz (show v=aV a from h) (qz (show v'=aV a from h') (zK hK))
  | tup xs =>
   obtain ⟨l,rfl,h⟩:=h
   obtain ⟨l',rfl,h'⟩:=h'
   have g:=go xs l l' _ _ _ _ hf h h'
   exact Bb7 g.1 g.2.1 g.2.2 hK
  | lst xs =>
   apply Ah;intro g9 k9
   obtain ⟨a,l,_,_,rfl,_,ha,h⟩:=h
   obtain ⟨a',l',_,_,rfl,_,ha',h'⟩:=h'
   apply k9
   have g:=go xs l l' _ _ _ _ hf h h'
   exact Am6 ha ha' g.1 g.2.1 g.2.2 hK
theorem K6 {A:Heap}{x:List V}:(A++[x])[A.length]? = some x:=by
 refine qz (List.getElem?_append_right (D3 _)) (qz (Nat.sub_self _) ?_);rfl
theorem P9 {A:Heap}{i:Nat}{x y:List V}(h:A[i]? = some x):(A++[y])[i]? = some x:=qz (List.getElem?_append_left (A3 h).1) h
theorem R1.one {x:List V}(h:hi<=H.length):R1 H (H++[x]) lo hi:=λy Z b=>List.getElem?_append_left (D6 b h)
theorem R1.set (h:a<lo∨hi<=a):R1 H (H.set a l) lo hi:=λy h1 h2=>A9 (λe=>by
 rcases h with h|h
 ·exact Nat.lt_irrefl _ (D6 (e▸h) h1)
 ·exact Nat.lt_irrefl _ (D6 h2 (e▸h)))
theorem eZ {H:Heap}{l l':List V}(h:H[a]? = some l):(H.set a l')[a]? = some l':=B9 (A3 h).1
inductive T where
 | Al (s:List Nat)
 | kept (s:List Nat)
 | code (s:List Nat) (b:Bool)
 | span (c:Nat) (ts:List T) (b:Bool)
 | link (ts:List T) (g:Option (List Nat)) (b:Bool)
noncomputable def gA:Option (List Nat)->A
 | none=>.n
 | some s=>.s s
mutual
noncomputable def i0:T->X
 | .Al s=>.at (.s s)
 | .kept s=>.tup [.at (.s [107,101,112,116]),.at (.s s)]
 | .code s b=>.tup [.at (.s [99,111,100,101]),.at (.s s),.at (.b b)]
 | .span c ts b=>.tup [.at (.s [115,112,97,110]),.at (.s [c]),.lst (M0 ts),.at (.b b)]
 | .link ts g b=>.tup [.at (.s [108,105,110,107]),.lst (M0 ts),.at (gA g),.at (.b b)]
noncomputable def M0:List T->List X
 | []=>[]
 | t::ts=>i0 t::M0 ts
end
theorem Y6:∀ ts:List T,M0 ts=ts.map i0:=by
 intro ts
 induction ts with
 | nil=>exact rfl
 | cons t ts ih=>exact D0 (i0 t::·) (ih)
theorem pL (ts us:List T):M0 (ts++us)=M0 ts++M0 us:=Af6 Y6 ts us
theorem V9 (ts:List T):(M0 ts).length=ts.length:=tZ (Y6 ts)
noncomputable def wY (s:List Nat):V:=.tup [.str [107,101,112,116],.str s]
noncomputable def Bc2 (t:List Nat) (b:Bool):V:=.tup [.str [99,111,100,101],.str t,.bool b]
noncomputable def lN (c a:Nat) (b:Bool):V:=.tup [.str [115,112,97,110],.str [c],.ref a,.bool b]
noncomputable def X5 (a:Nat) (g:Option (List Nat)) (b:Bool):V:=.tup [.str [108,105,110,107],.ref a,aV (gA g),.bool b]
theorem N8.atom:N8 H (.at a) lo hi (aV a):=rfl
theorem M1.cons {x:X}(h:lo<=m) (h1:N8 H x lo m v) (h2:M1 H xs m hi l):M1 H (x::xs) lo hi (v::l):=⟨v,l,m,rfl,h,h1,h2⟩
theorem M1.atom (h2:M1 H xs lo hi l):M1 H (.at a::xs) lo hi (aV a::l):=⟨aV a,l,lo,rfl,D3 _,rfl,h2⟩
theorem pG (h:lo<=hi):N8 H (i0 (.kept s)) lo hi (wY s):=⟨_,rfl,.atom (a:=.s _) (.atom (a:=.s _) (.nil h))⟩
theorem jQ (h:lo<=hi):N8 H (i0 (.code s b)) lo hi (Bc2 s b):=⟨_,rfl,.atom (a:=.s _) (.atom (a:=.s _) (.atom (a:=.b _) (.nil h)))⟩
theorem U7 (hb:Bd lo hi a p q) (ha:H[a]? = some l) (hr:M1 H xs p q l):N8 H (.lst xs) lo hi (.ref a):=⟨a,l,p,q,rfl,hb,ha,hr⟩
theorem Bd.le (h:Bd lo hi a p q):lo<=hi:=D2 h.la (E2 h.ah)
theorem yO (hb:Bd lo hi a p q) (ha:H[a]? = some l) (hr:M1 H (M0 ts) p q l):N8 H (i0 (.span c ts b)) lo hi (lN c a b) :=
 ⟨_,rfl,.atom (a:=.s _) (.atom (a:=.s _) (.cons hb.le (U7 hb ha hr) (.atom (a:=.b _) (.nil (D3 _)))))⟩
theorem pF (hb:Bd lo hi a p q) (ha:H[a]? = some l) (hr:M1 H (M0 ts) p q l):N8 H (i0 (.link ts g b)) lo hi (X5 a g b) :=
 ⟨_,rfl,.atom (a:=.s _) (.cons hb.le (U7 hb ha hr) (.atom (a:=gA g) (.atom (a:=.b _) (.nil (D3 _)))))⟩
theorem M1.Fc (h:M1 H (M0 ts) lo mid l) (hh:mid<=hi) (hm:N8 H (i0 t) mid hi v):M1 H (M0 (ts++[t])) lo hi (l++[v]):=qz (pL _ _) (h.add hh hm)
abbrev T2:=List (Option Nat×List T)
noncomputable def nx (row:List Nat) (k:Nat):List Nat:=(row.drop (k+1)).take 1
noncomputable def qV (row:List Nat) (k c:Nat):Bool:=c==91||([42,95,126].contains c&&nx row k==[40])
noncomputable def Y4 (row:List Nat) (k:Nat):T×Nat:=match idx? 96 (row.drop (k+1)) with
 | some j=>(.code ((row.drop (k+1)).take j) true,k+1+j+1)
 | none=>(.code (row.drop (k+1)) false,row.length)
noncomputable def U6 (row:List Nat) (k:Nat) (ts:List T):T×Nat:=if nx row k=[40] then (match idx? 41 (row.drop (k+2)) with
 | some j=>(.link ts (some ((row.drop (k+2)).take j)) true,k+2+j+1)
 | none=>(.link ts (some (row.drop (k+2))) false,row.length)) else (.link ts none true,k+1)
noncomputable def cC (ts:List T) (c:Nat):List T:=match ts.getLast? with
 | some (.Al s)=>ts.dropLast++[.Al (s++[c])]
 | _=>ts++[.Al [c]]
noncomputable def Bi4 (kd:Option Nat) (ts:List T):T:=match kd with
 | some c=>.span c ts false
 | none=>.link ts none false
noncomputable def Q5:List T->T2->List T
 | b6,[]=>b6
 | b6,(kd,p)::b4=>Q5 (p++[Bi4 kd b6]) b4
noncomputable def iA:T2->Bool
 | (some _,_)::_=>true
 | _=>false
noncomputable def dZ:T2->Bool
 | (none,_)::_=>true
 | _=>false
inductive P2 (row:List Nat):Nat->List T->T2->List T->Prop
 | dn {k:Nat}{b6 r:List T}{b4:T2}:row.length<=k->r=Q5 b6 b4->P2 row k b6 b4 r
 | kept {k:Nat}{b6 r:List T}{b4:T2}:row[k]? = some 92->P2 row (k+2) (b6++[.kept (nx row k)]) b4 r->P2 row k b6 b4 r
 | code {k:Nat}{b6 r:List T}{b4:T2}:row[k]? = some 96->P2 row (Y4 row k).2 (b6++[(Y4 row k).1]) b4 r->P2 row k b6 b4 r
 | label {k:Nat}{b6 r:List T}{b4:T2}:row[k]? = some 91->b4.length<12->P2 row (k+1) [] ((none,b6)::b4) r->P2 row k b6 b4 r
 | span {k c:Nat}{b6 r:List T}{b4:T2}:row[k]? = some c->[42,95,126].contains c=true->nx row k=[40]->b4.length<12->P2 row (k+2) [] ((some c,b6)::b4) r->P2 row k b6 b4 r
 | shS {k c:Nat}{b6 p r:List T}{b4 b8:T2}:b8=(some c,p)::b4->row[k]? = some 41->P2 row (k+1) (p++[.span c b6 true]) b4 r->P2 row k b6 b8 r
 | shL {k:Nat}{b6 p r:List T}{b4 b8:T2}:b8=(none,p)::b4->row[k]? = some 93->P2 row (U6 row k b6).2 (p++[(U6 row k b6).1]) b4 r->P2 row k b6 b8 r
 | plain {k c:Nat}{b6 r:List T}{b4:T2}:row[k]? = some c->c≠92->c≠96->(b4.length<12->qV row k c=false)->(c=41->iA b4=false)->(c=93->dZ b4=false) ->
   P2 row (k+1) (cC b6 c) b4 r->P2 row k b6 b4 r
theorem P2.done {row:List Nat}{k:Nat}{b6:List T}{b4:T2}(h:row.length<=k):P2 row k b6 b4 (Q5 b6 b4):=.dn h rfl
theorem P2.shutS {row:List Nat}{k c:Nat}{b6 p r:List T}{b4:T2}(h:row[k]? = some 41) (g:P2 row (k+1) (p++[.span c b6 true]) b4 r):P2 row k b6 ((some c,p)::b4) r:=.shS rfl h g
theorem P2.Fe {row:List Nat}{k:Nat}{b6 p r:List T}{b4:T2}(h:row[k]? = some 93) (g:P2 row (U6 row k b6).2 (p++[(U6 row k b6).1]) b4 r):P2 row k b6 ((none,p)::b4) r:=.shL rfl h g
noncomputable def kn:Option Nat->List Nat
 | some _=>[115,112,97,110]
 | none=>[108,97,98,101,108]
noncomputable def ks:Option Nat->List Nat
 | some c=>[c]
 | none=>[]
noncomputable def frV (kd:Option Nat) (a:Nat):List V:=[.str (kn kd),.str (ks kd),.ref a]
noncomputable def At (H:Heap) (b6:List T) (a hi:Nat):Prop:=∃ l,H[a]? = some l/\M1 H (M0 b6) (a+2) hi l
noncomputable def Lv (H:Heap) (A0:Nat):Nat->List Nat->List T->T2->Prop
 | hi,as,b6,[]=>as=[]/\At H b6 A0 hi
 | hi,as,b6,(kd,p)::b4=>∃ a as',as=a::as'/\A0+2<=a/\H[a+1]? = some (frV kd a)/\At H b6 a hi/\Lv H A0 a as' p b4
noncomputable def here (A0:Nat):List Nat->Nat
 | []=>A0
 | a::_=>a
theorem At.le {b6:List T}(h:At H b6 a hi):a+2<=hi:=by
 obtain ⟨_,_,h⟩:=h;exact h.le
theorem At.to {b6:List T}(h:At H b6 a hi) (e:G[a]? = H[a]?) (k:R1 H G (a+2) hi):At G b6 a hi:=by
 obtain ⟨l,h1,h2⟩:=h;exact ⟨l,e.trans h1,h2.to k⟩
theorem At.up {b6:List T}(h:At H b6 a hi) (k:hi<=d7):At H b6 a d7:=by
 obtain ⟨l,h1,h2⟩:=h;exact ⟨l,h1,h2.wide (D3 _) k⟩
theorem Lv.to:∀ {b4:T2}{hi:Nat}{as:List Nat}{b6:List T},Lv H A0 hi as b6 b4->G[A0]? = H[A0]?->R1 H G (A0+2) hi->Lv G A0 hi as b6 b4
 | []=>λh e k=>⟨h.1,h.2.to e k⟩
 | (kd,p)::b4=>λh e k=>by
  obtain ⟨a,as',h1,h2,h3,h4,h5⟩:=h
  have d6:=h4.le
  exact ⟨a,as',h1,h2,(k _ (D2 h2 (E4 _)) d6).trans h3,h4.to (k _ h2 (Nat.lt_of_succ_lt d6)) (k.sub (D2 h2 (E1 _ _)) (D3 _)),h5.to e (k.sub (D3 _) (E2 (Nat.lt_of_succ_lt d6)))⟩
theorem Lv.up {b4:T2}{b6:List T}(h:Lv H A0 hi as b6 b4) (k:hi<=d7):Lv H A0 d7 as b6 b4:=by
 cases b4 with
 | nil=>exact ⟨h.1,h.2.up k⟩
 | cons x b4 =>
  obtain ⟨a,as',h1,h2,h3,h4,h5⟩:=h
  exact ⟨a,as',h1,h2,h3,h4.up k,h5⟩
theorem Lv.head {b4:T2}{b6:List T}(h:Lv H A0 hi as b6 b4):At H b6 (here A0 as) hi/\(here A0 as=A0∨A0+2<=here A0 as):=by
 cases b4 with
 | nil=>obtain ⟨rfl,h1⟩:=h;exact ⟨h1,Or.inl rfl⟩
 | cons x b4 =>
  obtain ⟨a,as',rfl,h2,h3,h4,h5⟩:=h
  exact ⟨h4,Or.inr h2⟩
theorem Lv.lens:∀ {b4:T2}{hi:Nat}{as:List Nat}{b6:List T},Lv H A0 hi as b6 b4->as.length=b4.length
 | []=>λh=>by refine qz h.1 ?_;rfl
 | (kd,p)::b4=>λh=>by
  obtain ⟨a,as',rfl,h2,h3,h4,h5⟩:=h
  exact D0 (· + 1) h5.lens
noncomputable def dK (as:List Nat):List V:=as.reverse.map λa=>.ref (a+1)
theorem bL:dK (a::as)=dK as++[.ref (a+1)]:=by unfold dK;simp
theorem uT:(dK as).length=as.length:=by unfold dK;simp
structure lH (H0:Heap) (as:List Nat) (b6:List T) (b4:T2) (H:Heap):Prop where
 len:H0.length+2<=H.length
 old:R1 H0 H 0 H0.length
 opn:H[H0.length+1]? = some (dK as)
 lv:Lv H H0.length H.length as b6 b4
theorem lH.at {H0 as b6 b4 H}(h:lH H0 as b6 b4 H):At H b6 (here H0.length as) H.length:=h.lv.head.1
theorem lH.upd {H0 as b6 b4 H}(h:lH H0 as b6 b4 H) (hl:M1 H (M0 cur') (here H0.length as+2) H.length l'):lH H0 as cur' b4 (H.set (here H0.length as) l'):=by
 have hh:=h.lv.head
 have d6:=hl.le
 have hA:H0.length<=here H0.length as:=by
  rcases hh.2 with q|q
  ·exact qz q (D3 _)
  ·exact D2 (E1 _ 2) q
 have hget:(H.set (here H0.length as) l')[here H0.length as]? = some l':=B9 (Nat.lt_of_succ_lt d6)
 have Cf:At (H.set (here H0.length as) l') cur' (here H0.length as) H.length:=⟨l',hget,hl.to (R1.set (Or.inl (C9 (by decide))))⟩
 refine ⟨by refine qz C7 ?_;exact h.len,h.old.trans (R1.set (Or.inr hA)),?_,?_⟩
 ·have f6:here H0.length as≠H0.length+1:=by
   rcases hh.2 with q|q
   ·exact qz q (D1 (D9 _))
   ·exact Nat.ne_of_gt q
  exact qz (A9 f6) h.opn
 ·refine qz C7 ?_
  have Cd:=h.lv
  cases b4 with
  | nil=>exact ⟨Cd.1,by obtain ⟨rfl,_⟩:=Cd;exact Cf⟩
  | cons x b4 =>
   obtain ⟨a,as',rfl,h2,h3,h4,h5⟩:=Cd
   refine ⟨a,as',rfl,h2,?_,Cf,h5.to ?_ (R1.set (Or.inr (D3 _)))⟩
   ·exact (A9 (D1 (D9 a))).trans h3
   ·exact A9 (Nat.ne_of_gt (Nat.lt_of_succ_lt h2))
theorem lH.push {H0 as b6 b4 H}(h:lH H0 as b6 b4 H):lH H0 (H.length::as) [] ((kd,b6)::b4) ((H++[[]]++[frV kd H.length]).set (H0.length+1) (dK as++[V.ref (H.length+1)])):=by
 have b7:=h.len
 have hl2:(H++[[]]++[frV kd H.length]).length=H.length+2:=by refine qz D4 (qz D4 ?_);rfl
 have hl1:(H++[[]]).length=H.length+1:=by refine qz D4 ?_;rfl
 have e1:R1 H (H++[[]]++[frV kd H.length]) 0 H.length:=(R1.one (D3 _)).trans (R1.one (by refine qz hl1 ?_;exact E4 _))
 have hlt:H0.length<H.length:=Nat.lt_of_succ_lt b7
 refine ⟨by refine qz C7 (qz hl2 ?_);exact D2 b7 (E1 _ 2),(h.old.trans (e1.sub (D3 _) (E2 hlt))).trans (R1.set (Or.inr (E4 _))),?_,?_⟩
 ·exact qz bL (B9 (by rw [hl2];exact D6 b7 (E1 _ 2)))
 ·refine qz C7 (qz hl2 ?_)
  refine ⟨H.length,as,rfl,b7,?_,⟨[],?_,.nil (D3 _)⟩,h.lv.to ?_ ((e1.sub (D8 _) (D3 _)).trans (R1.set (Or.inl (D9 _))))⟩
  ·exact qz (A9 (show H0.length+1≠H.length+1 from D1 (Nat.succ_lt_succ hlt))) (qz hl1.symm K6)
  ·exact qz (A9 (D1 b7)) (P9 K6)
  ·exact qz (A9 (Nat.ne_of_gt (D9 _))) (e1 _ (D8 _) hlt)
theorem lH.pop {H0 a as b6 kd p b4 H}(h:lH H0 (a::as) b6 ((kd,p)::b4) H) :
  lH H0 as p b4 (H.set (H0.length+1) (dK as))/\(H.set (H0.length+1) (dK as))[a+1]? = some (frV kd a)/\Lv (H.set (H0.length+1) (dK as)) H0.length a as p b4/\At (H.set (H0.length+1) (dK as)) b6 a (H.set (H0.length+1) (dK as)).length:=by
 apply Ah;intro g9 k9
 obtain ⟨_,_,e,h2,h3,h4,h5⟩:=h.lv
 apply k9
 cases e
 have d6:=h4.le
 have hA:(H.set (H0.length+1) (dK as))[H0.length]? = H[H0.length]?:=A9 (Nat.ne_of_gt (D9 _))
 have ev:∀ {hi:Nat},R1 H (H.set (H0.length+1) (dK as)) (H0.length+2) hi:=R1.set (Or.inl (D9 _))
 have Cd:=h5.to hA ev
 refine ⟨⟨by refine qz C7 ?_;exact h.len,h.old.trans (R1.set (Or.inr (E4 _))),B9 h.len,qz C7 (Cd.up (E2 (Nat.lt_of_succ_lt d6)))⟩,?_,Cd,?_⟩
 ·exact qz (A9 (D1 (Nat.lt_succ_of_lt h2))) h3
 ·exact qz C7 (h4.to (A9 (D1 h2)) (ev.sub (D2 h2 (E1 _ 2)) (D3 _)))
noncomputable def cZ (l:List V) (c:Nat):List V:=match l.getLast? with
 | some (.str s)=>l.dropLast++[.str (s++[c])]
 | _=>l++[.str [c]]
theorem Ar9 (l:List V) (s:List Nat) (c:Nat):cZ (l++[.str s]) c=l++[.str (s++[c])]:=by
 unfold cZ;simp
theorem Ar8 (l:List V) (t:List V) (c:Nat):cZ (l++[.tup t]) c=l++[.tup t]++[.str [c]]:=by
 unfold cZ;simp
noncomputable def Cj8 (l:List V):Prop:=l=[]∨(∃ r s,l=r++[.str s]/\s.length+1<=P0)∨∃ r t,l=r++[.tup t]
theorem jE:decide ((0:Int)<((l++[c]).length:Nat))=true:=qz D4 (decide_eq_true (Int.natCast_pos.mpr (Nat.succ_pos _)))
theorem Bp7 {n a c:Nat}(ha:H[a]? = some l) (hl:l.length<P0) (he:Cj8 l) (h:Q .none (H.set a (cZ l c))):Ac P (n+1) "put_plain" [.ref a,.str [c]] Q H:=by
 refine E9 rfl rfl ?_
 rcases he with rfl|⟨r,s,rfl,hs⟩|⟨r,t,rfl⟩
 ·exact G8 (K7 (b:=false) (b2:=true) (H9 (Q1 iq (P6 ha)) iq Z6) λq=>xF q) (N3 iq iq ha hl h)
 ·rw [Ar9] at h
  refine H7 (K7 (b:=true) (b2:=true) (Q0 (H9 (Q1 iq (P6 ha)) iq Z6) jE) λZ=>M9 (Q0 (kF (L6 iq iq (Q6 ha))) rfl))
   (Bm6 (K0 (L6 iq iq (Q6 ha)) iq (bC hs)) iq iq ha (qz D4 pW) ?_)
  exact qz (List.set_append_right _ _ (D3 _)) (qz (Nat.sub_self _) h)
 ·rw [Ar8] at h
  exact G8 (K7 (b:=true) (b2:=false) (Q0 (H9 (Q1 iq (P6 ha)) iq Z6) jE) λZ=>M9 (Q0 (kF (L6 iq iq (Q6 ha))) rfl)) (N3 iq iq ha hl h)
theorem tS (row:List Nat) (k:Nat):slice row (some ((k:Int)+1)) (some ((k:Int)+2))=nx row k:=by
 refine qz (Z2 (by lia) (by lia)) ?_
 show (row.drop (k+1)).take (k+2 - (k+1))=_
 refine qz (Nat.add_sub_add_left _ _ _) ?_;rfl
section
variable {H0 H:Heap}{as:List Nat}{b6:List T}{b4:T2}{n:Nat}
theorem uS:decide ((0:Int)<((dK (a::as)).length:Nat))=true:=qz bL jE
theorem mX (h:lH H0 as b6 b4 H) (Q:F8) (k:Q (.ref (here H0.length as)) H):Ac P (n+1) "here_of" [.ref H0.length,.ref (H0.length+1)] Q H:=by
 refine E9 rfl rfl ?_
 have ho:=h.opn
 have Cd:=h.lv
 cases b4 with
 | nil =>
  obtain ⟨rfl,_⟩:=Cd
  exact E8 (H9 (Q1 iq (P6 ho)) iq Z6) k
 | cons x b4 =>
  apply Ah;intro g9 k9
  obtain ⟨kd,p⟩:=x
  obtain ⟨a,as',rfl,h2,h3,_⟩:=Cd
  apply k9
  exact H7 (Q0 (H9 (Q1 iq (P6 ho)) iq Z6) uS) (O0 (L6 (L6 iq iq (Q6 (bL▸ho))) iq (X3 (i:=2) h3 rfl)) k)
theorem As8 (h:lH H0 as b6 b4 H) (Q:F8) (k:Q (.bool (match b4 with | []=>false | (kd,_)::_=>kn kd==w)) H):Ac P (n+1) "last_is" [.ref (H0.length+1),.str w] Q H:=by
 refine E9 rfl rfl ?_
 have ho:=h.opn
 have Cd:=h.lv
 cases b4 with
 | nil =>
  obtain ⟨rfl,_⟩:=Cd
  exact O0 (K7 (b:=false) (b2:=true) (H9 (Q1 iq (P6 ho)) iq Z6) λq=>xF q) k
 | cons x b4 =>
  apply Ah;intro g9 k9
  obtain ⟨kd,p⟩:=x
  obtain ⟨a,as',rfl,h2,h3,_⟩:=Cd
  apply k9
  exact O0 (K7 (b:=true) (Q0 (H9 (Q1 iq (P6 ho)) iq Z6) uS) λZ=>M9 (H9 (L6 (L6 iq iq (Q6 (bL▸ho))) iq (X3 (i:=0) h3 rfl)) iq aA)) k
theorem sT (h:lH H0 as b6 b4 H) (Q:F8) (k:Q (.bool (iA b4)) H):Ac P (n+1) "last_is" [.ref (H0.length+1),.str [115,112,97,110]] Q H:=by
 refine As8 h Q ?_
 match b4 with
 | []=>exact k
 | (some _,_)::_=>exact k
 | (none,_)::_=>exact k
theorem qI (h:lH H0 as b6 b4 H) (Q:F8) (k:Q (.bool (dZ b4)) H):Ac P (n+1) "last_is" [.ref (H0.length+1),.str [108,97,98,101,108]] Q H:=by
 refine As8 h Q ?_
 match b4 with
 | []=>exact k
 | (some _,_)::_=>exact k
 | (none,_)::_=>exact k
theorem fL {row:List Nat}(h:lH H0 as b6 b4 H) (hg:row[i]? = some c) (Q:F8) (k:Q (.bool (decide (b4.length<12)&&qV row i c)) H):Ac P (n+1) "opens" [.str row,.int i,.ref (H0.length+1)] Q H:=by
 refine E9 rfl rfl ?_
 have hl:((dK as).length:Int)=(b4.length:Nat):=qz uT (qz h.lv.lens rfl)
 have o8:∀ {C:Calls},Ev C [some (V.str row),some (V.int i),some (V.ref (H0.length+1))] H (.cmp .ge (.len J2) (.glob "MOST_OPEN" 12)) (.bool (decide ((12:Int)<=(dK as).length))):=H9 (Q1 iq (P6 h.opn)) iq Ck8
 rw [hl] at o8
 by_cases h12:b4.length<12
 ·rw [decide_eq_true h12,Bool.true_and] at k
  refine E8 (Q0 o8 (decide_eq_false (λq=>Nat.not_le_of_lt h12 (Int.ofNat_le.mp q)))) (O0 (R5 (Q0 (H9 (L6 iq iq (wQ hg)) iq aA) ?_) λZ=>Z8 (K7 (H9 (L6 iq iq (wQ hg)) iq An1) λZ=>M9 (Q0 iq (D0 (· == [40]) (tS row i))))) k)
  simp
 ·rw [decide_eq_false h12] at k
  exact H7 (Q0 o8 (decide_eq_true (Int.ofNat_le.mpr (Nat.le_of_not_lt h12)))) k
end
theorem Cf6 {n k:Nat}{row:List Nat}(h:∀ v,(∀ G lo hi,lo<=hi->N8 G (i0 (Y4 row k).1) lo hi v)->Q (.tup [v,.int (Y4 row k).2]) H):Ac P (n+1) "code_at" [.str row,.int k] Q H:=by
 refine E9 rfl rfl (F9 (Bf1 iq iq iq (Int.le_add_one (C6 k))) ?_)
 unfold Y4 at h
 have e1:rS row 96 ((k:Int)+1).toNat=(match idx? 96 (row.drop (k+1)) with | some j=>((k+1+j:Nat):Int) | none=>-1):=rfl
 refine qz e1 ?_
 cases hi:idx? 96 (row.drop (k+1)) with
 | none =>
  rw [hi] at h
  have es:slice row (some ((k:Int)+1)) none=row.drop (k+1):=X0 (Int.le_add_one (C6 k))
  exact H7 iq (O0 (jX iq (D0 (λs=>V.tup [V.tup [V.str [99,111,100,101],V.str s,V.bool false],V.int row.length]) es)) (h (Bc2 (row.drop (k+1)) false) λZ Z Z=>jQ))
 | some j =>
  rw [hi] at h
  have es:slice row (some ((k:Int)+1)) (some ((k+1+j:Nat):Int))=(row.drop (k+1)).take j:=by
   refine qz (Z2 (Int.le_add_one (C6 k)) (C6 _)) ?_
   show (row.drop (k+1)).take (k+1+j - (k+1))=_
   exact qz (Nat.add_sub_cancel_left _ _) rfl
  exact E8 (Q0 (H9 iq iq aZ) (decide_eq_false (Int.not_lt.mpr (C6 _)))) (O0 (jX iq (D0 (λs=>V.tup [V.tup [V.str [99,111,100,101],V.str s,V.bool true],V.int ((k+1+j:Nat)+1)]) es)) (h (Bc2 ((row.drop (k+1)).take j) true) λZ Z Z=>jQ))
theorem Ce0 {n k a:Nat}{row:List Nat}(h:∀ g b,(U6 row k ts).1=.link ts g b->Q (.tup [X5 a g b,.int (U6 row k ts).2]) H):Ac P (n+1) "link_at" [.str row,.int k,.ref a] Q H:=by
 refine E9 rfl rfl ?_
 have p2:(0:Int)<=(k:Int)+2:=C6 (k+2)
 unfold U6 at h
 by_cases hn:nx row k=[40]
 ·rw [if_pos hn] at h
  refine E8 (Q0 iq (by refine qz (tS _ _) (qz hn ?_);rfl)) (F9 (Bf1 iq iq iq p2) ?_)
  have e1:rS row 41 ((k:Int)+2).toNat=(match idx? 41 (row.drop (k+2)) with | some j=>((k+2+j:Nat):Int) | none=>-1):=rfl
  refine qz e1 ?_
  cases hi:idx? 41 (row.drop (k+2)) with
  | none =>
   rw [hi] at h
   have es:slice row (some ((k:Int)+2)) none=row.drop (k+2):=X0 p2
   exact H7 iq (O0 (jX iq (D0 (λs=>V.tup [V.tup [V.str [108,105,110,107],V.ref a,V.str s,V.bool false],V.int row.length]) es)) (h _ _ rfl))
  | some j =>
   rw [hi] at h
   have es:slice row (some ((k:Int)+2)) (some ((k+2+j:Nat):Int))=(row.drop (k+2)).take j:=by
    refine qz (Z2 p2 (C6 _)) ?_
    show (row.drop (k+2)).take (k+2+j - (k+2))=_
    exact qz (Nat.add_sub_cancel_left _ _) rfl
   exact E8 (Q0 (H9 iq iq aZ) (decide_eq_false (Int.not_lt.mpr (C6 _)))) (O0 (jX iq (D0 (λs=>V.tup [V.tup [V.str [108,105,110,107],V.ref a,V.str s,V.bool true],V.int ((k+2+j:Nat)+1)]) es)) (h _ _ rfl))
 ·rw [if_neg hn] at h
  exact H7 (Q0 iq (by refine qz (tS _ _) ?_;simpa using hn)) (h none true rfl)
theorem yP (h:N8 H (i0 t) lo hi v):(∃ s,t=.Al s/\v=.str s)∨∃ w,v=.tup w/\∀ us c,cC (us++[t]) c=us++[t]++[.Al [c]]:=by
 have e:∀ us:List T,(us++[t]).getLast? = some t:=λus=>by simp
 cases t with
 | Al s=>exact Or.inl ⟨s,rfl,h⟩
 | kept s=>obtain ⟨w,e1,_⟩:=h;exact Or.inr ⟨w,e1,λus c=>by unfold cC;rw [e]⟩
 | code s b=>obtain ⟨w,e1,_⟩:=h;exact Or.inr ⟨w,e1,λus c=>by unfold cC;rw [e]⟩
 | span c ts b=>obtain ⟨w,e1,_⟩:=h;exact Or.inr ⟨w,e1,λus c=>by unfold cC;rw [e]⟩
 | link ts g b=>obtain ⟨w,e1,_⟩:=h;exact Or.inr ⟨w,e1,λus c=>by unfold cC;rw [e]⟩
theorem yS:cC (us++[.Al s]) c=us++[.Al (s++[c])]:=by
 unfold cC;simp
theorem yN {b6:List T}(h:M1 H (M0 b6) lo hi l):(b6=[]/\l=[])∨∃ us t r v m,b6=us++[t]/\l=r++[v]/\M1 H (M0 us) lo m r/\m<=hi/\N8 H (i0 t) m hi v:=by
 rcases List.eq_nil_or_concat b6 with rfl|⟨us,t,e⟩
 ·exact Or.inl ⟨rfl,h.2⟩
 ·rw [List.concat_eq_append] at e
  apply Ah;intro g9 k9
  subst e
  rw [pL] at h
  obtain ⟨a,b,m,rfl,h1,h2⟩:=h.cut
  obtain ⟨v,r,k,rfl,c3,h3,h4⟩:=h2
  apply k9
  exact qz h4.2 (Or.inr ⟨us,t,a,v,m,rfl,rfl,h1,D2 c3 h4.1,h3.wide (D3 _) h4.1⟩)
theorem Cc8 {b6:List T}(h:M1 H (M0 b6) lo hi l):M1 H (M0 (cC b6 c)) lo hi (cZ l c):=by
 rcases yN h with ⟨rfl,rfl⟩|⟨us,t,r,v,m,rfl,rfl,h1,h2,h3⟩
 ·exact .one h.le rfl
 ·rcases yP h3 with ⟨s,rfl,rfl⟩|⟨w,rfl,e⟩
  ·refine qz yS (qz (Ar9 _ _ _) ?_)
   exact h1.Fc h2 rfl
  ·rw [e];refine qz (Ar8 _ _ _) ?_
   exact h.Fc (D3 _) rfl
structure Em (k:Nat) (ts:List T):Prop where
 len:ts.length<=k
 Al:∀ s,T.Al s∈ts->s.length<=k
theorem Em.nil:Em k []:=⟨D8 _,λs hs=>xL hs⟩
theorem Em.le (h:Em k ts) (hm:k<=m):Em m ts:=⟨D2 h.len hm,λs hs=>D2 (h.Al s hs) hm⟩
theorem Em.add (h:Em k ts) (hm:k<m) (ht:∀ s,t=.Al s->s.length<=m):Em m (ts++[t]):=by
 refine ⟨by refine qz D4 ?_;exact D7 h.len hm,λs hs=>?_⟩
 rcases C0 hs with q|q
 ·exact D2 (h.Al s q) (E2 hm)
 ·exact ht s (B1 q).symm
theorem Em.put (h:Em k ts):Em (k+1) (cC ts c):=by
 rcases List.eq_nil_or_concat ts with rfl|⟨us,t,e⟩
 ·exact h.add (t:=.Al [c]) (D9 _) λs e=>by cases e;exact E0 (D8 _)
 ·rw [List.concat_eq_append] at e
  subst e
  have hadd:=h.add (m:=k+1) (t:=.Al [c]) (D9 _) (λs e=>by cases e;exact E0 (D8 _))
  have hl:=h.len
  cases t with
  | Al s =>
   refine qz yS ?_
   have hs:=h.Al s (List.mem_append_right _ (.head _))
   have hus:Em k us:=⟨by rw [D4] at hl;exact Nat.le_of_succ_le hl,λs hs=>h.Al s (List.mem_append_left _ hs)⟩
   exact hus.add (D9 _) λs' e=>by cases e;exact qz D4 (E0 hs)
  | kept s=>unfold cC;simp only [List.getLast?_append,List.getLast?_singleton,Option.some_or];exact hadd
  | code s b=>unfold cC;simp only [List.getLast?_append,List.getLast?_singleton,Option.some_or];exact hadd
  | span c' ts b=>unfold cC;simp only [List.getLast?_append,List.getLast?_singleton,Option.some_or];exact hadd
  | link ts g b=>unfold cC;simp only [List.getLast?_append,List.getLast?_singleton,Option.some_or];exact hadd
theorem Cr7 {b6:List T}(hb:Em k b6) (h:M1 H (M0 b6) lo hi l) (hk:k<P0):Cj8 l/\l.length<P0:=by
 refine ⟨?_,qz h.len (qz (V9 _) (D7 hb.len hk))⟩
 rcases yN h with ⟨rfl,rfl⟩|⟨us,t,r,v,m,rfl,rfl,h1,h2,h3⟩
 ·exact Or.inl rfl
 ·rcases yP h3 with ⟨s,rfl,rfl⟩|⟨w,rfl,e⟩
  ·exact Or.inr (Or.inl ⟨r,s,rfl,D7 (hb.Al s (List.mem_append_right _ (.head _))) hk⟩)
  ·exact Or.inr (Or.inr ⟨r,w,rfl⟩)
structure Bds (k:Nat) (b6:List T) (b4:T2):Prop where
 b6:Em k b6
 b4:∀ x∈b4,Em k x.2
theorem Bds.to {b6 cur':List T}{b4:T2}(h:Bds k b6 b4) (hm:k<=m) (h':Em m cur'):Bds m cur' b4:=⟨h',λx hx=>(h.b4 x hx).le hm⟩
theorem lH.Dj {H0 a as b6 kd p b4 H}(h:lH H0 (a::as) b6 ((kd,p)::b4) H)
  (ht:∀ G,At G b6 a G.length->N8 G (i0 t) a G.length v):∃ l,(H.set (H0.length+1) (dK as))[here H0.length as]? = some l/\l.length=p.length/\lH H0 as (p++[t]) b4 ((H.set (H0.length+1) (dK as)).set (here H0.length as) (l++[v])):=by
 apply Ah;intro g9 k9
 obtain ⟨h1,_,h2,h3⟩:=h.pop
 obtain ⟨l,g1,g2⟩:=h2.head.1
 apply k9
 exact ⟨l,g1,qz g2.len (qz (V9 _) rfl),h1.upd (g2.Fc (E2 (Nat.lt_of_succ_lt h3.le)) (ht _ h3))⟩
theorem At9 {b6:List T}(h:At G b6 a G.length):N8 G (i0 (.span c b6 b)) a G.length (lN c a b):=by
 have d6:=h.le
 obtain ⟨l,h1,h2⟩:=h
 exact yO ⟨D3 _,Nat.lt_of_succ_lt d6,E1 _ _,D3 _⟩ h1 h2
theorem Au0 {b6:List T}(h:At G b6 a G.length):N8 G (i0 (.link b6 g b)) a G.length (X5 a g b):=by
 have d6:=h.le
 obtain ⟨l,h1,h2⟩:=h
 exact pF ⟨D3 _,Nat.lt_of_succ_lt d6,E1 _ _,D3 _⟩ h1 h2
noncomputable def PQ (H0:Heap) (res:List T) (Q:F8):Prop:=∀ H' l,H'[H0.length]? = some l->M1 H' (M0 res) (H0.length+2) H'.length l->R1 H0 H' 0 H0.length->Q (.ref H0.length) H'
noncomputable abbrev ES:=List Nat×List T×T2×Option V×Option V
theorem Bs7 {n K:Nat}{b6:List T}{b4:T2}(f9:lH H0 as b6 b4 H) (hK:K<16500000) (hb:Bds K b6 b4) (h:PQ H0 (Q5 b6 b4) Q) :
  Ac P (n+2) "ended" [.ref H0.length,.ref (H0.length+1)] Q H:=by
 refine E9 rfl rfl (M7 (nM (σ:=ES) (λs=>[some (.ref H0.length),some (.ref (H0.length+1)),s.2.2.2.1,s.2.2.2.2]) (λs G=>lH H0 s.1 s.2.1 s.2.2.1 G/\Q5 s.2.1 s.2.2.1=Q5 b6 b4/\∀ x∈s.2.2.1,x.2.length<=K) (λs=>s.2.2.1.length) (λs G hI K' hK'=>?_) ⟨as,b6,b4,none,none⟩ ⟨f9,rfl,λx hx=>(hb.b4 x hx).len⟩))
 obtain ⟨as,cur',b8,e2,e3⟩:=s
 have ho:=hI.1.opn
 have Cd:=hI.1.lv
 cases b8 with
 | nil =>
  obtain ⟨rfl,l,g1,g2⟩:=Cd
  refine .stop (H9 (Q1 iq (P6 ho)) iq Z6) (h G l g1 ?_ hI.1.old)
  exact qz hI.2.1.symm g2
 | cons x b8 =>
  obtain ⟨kd,p⟩:=x
  obtain ⟨a,as',rfl,_⟩:=Cd
  obtain ⟨Gg,hf1,_⟩:=hI.1.pop
  refine .go (Q0 (H9 (Q1 iq (P6 ho)) iq Z6) uS) (Bc4 iq (bL▸ho) (F9 (K4 iq (mX Gg)) ?_))
  have hp:=hI.2.2 (kd,p) (.head _)
  have hlim:P0=16777216:=rfl
  have next:∀ {t:T}{G':Heap}{e2 e3:Option V},t=Bi4 kd cur'->lH H0 as' (p++[t]) b8 G'->K' [some (.ref H0.length),some (.ref (H0.length+1)),e2,e3] G':=λ{t G' e2 e3} et g=>hK' ⟨as',p++[t],b8,e2,e3⟩ G' (D9 _) ⟨g,by refine qz et ?_;exact hI.2.1,λx hx=>hI.2.2 x (.tail _ hx)⟩
  cases kd with
  | some c =>
   obtain ⟨l,g1,g2,g3⟩:=hI.1.Dj (t:=.span c cur' false) (v:=lN c a false) λG h=>At9 h
   exact H7 (Q0 (H9 (L6 iq iq (X3 (i:=0) hf1 rfl)) iq aA) rfl) (N3 iq (iM (I8 iq (I8 (L6 iq iq (X3 (i:=1) hf1 rfl)) (I8 (L6 iq iq (X3 (i:=2) hf1 rfl)) (I8 iq Q7))))) g1 (by exact S5 (U1 (A4 g2) (U1 hp (U1 hK (A4 hlim.symm))))) (next rfl g3))
  | none =>
   obtain ⟨l,g1,g2,g3⟩:=hI.1.Dj (t:=.link cur' none false) (v:=X5 a none false) λG h=>Au0 h
   exact G8 (Q0 (H9 (L6 iq iq (X3 (i:=0) hf1 rfl)) iq aA) rfl) (N3 iq (iM (I8 iq (I8 (L6 iq iq (X3 (i:=2) hf1 rfl)) (I8 iq (I8 iq Q7))))) g1 (by exact S5 (U1 (A4 g2) (U1 hp (U1 hK (A4 hlim.symm))))) (next rfl g3))
theorem pN {row:List Nat}(hk:k<row.length):k<(Y4 row k).2:=by
 unfold Y4
 split
 ·exact Nat.lt_succ_of_le (D2 (E4 k) (E1 _ _))
 ·exact hk
theorem Af9:∀ {l:List Nat}{j:Nat},idx? c l=some j->j<l.length
 | [],_,h=>xN h
 | x::l,j,h=>by
  replace h:(if x=c then some 0 else (idx? c l).map (· + 1))=some j:=h
  by_cases hx:x=c
  ·rw [if_pos hx] at h;cases h;exact Nat.succ_pos _
  ·rw [if_neg hx] at h
   obtain ⟨i,hi,rfl⟩:=C1 h
   exact Nat.succ_lt_succ (Af9 hi)
set_option tactic.hygienic true in
theorem Bt0 {row:List Nat}(hk:k<row.length):(Y4 row k).2<=row.length:=by
 unfold Y4
 split
 ·rename_i j hj
  have:=Af9 hj
  rw [List.length_drop] at this
  exact Nat.add_comm (k+1) j▸Nat.add_lt_of_lt_sub this
 ·exact D3 _
set_option tactic.hygienic true in
theorem Bq6 {row:List Nat}(hk:k<row.length):(U6 row k ts).2<=row.length:=by
 unfold U6
 split
 ·split
  ·rename_i j hj
   have:=Af9 hj
   rw [List.length_drop] at this
   exact Nat.add_comm (k+2) j▸Nat.add_lt_of_lt_sub this
  ·exact D3 _
 ·exact hk
theorem Bs9 {row:List Nat}(s:List Nat):(Y4 row k).1≠.Al s:=by
 unfold Y4
 split<;>exact λe=>by cases e
theorem pJ {row:List Nat}(hk:k<row.length):k<(U6 row k ts).2:=by
 unfold U6
 split
 ·split
  ·exact Nat.lt_succ_of_le (D2 (E1 k 2) (E1 _ _))
  ·exact hk
 ·exact D9 _
noncomputable abbrev PS:=Nat×List Nat×List T×T2×Option V×Option V×Option V×Option V
structure De6 (row:List Nat) (res:List T) (H0:Heap) (k:Nat) (as:List Nat) (b6:List T) (b4:T2) (H:Heap):Prop where
 le:k<=row.length+1
 pars:P2 row k b6 b4 res
 bds:Bds k b6 b4
 st:lH H0 as b6 b4 H
noncomputable def Cj7 (row:List Nat) (P:Prop) (k:Nat) (b6:List T) (b4:T2) (r:List T):Prop:=(row.length<=k->r=Q5 b6 b4->P) ->
 (row[k]? = some 92->P2 row (k+2) (b6++[.kept (nx row k)]) b4 r->P)->(row[k]? = some 96->P2 row (Y4 row k).2 (b6++[(Y4 row k).1]) b4 r->P) ->
 (row[k]? = some 91->b4.length<12->P2 row (k+1) [] ((none,b6)::b4) r->P) ->
 (∀ c,row[k]? = some c->[42,95,126].contains c=true->nx row k=[40]->b4.length<12->P2 row (k+2) [] ((some c,b6)::b4) r->P) ->
 (∀ c p b8,b4=(some c,p)::b8->row[k]? = some 41->P2 row (k+1) (p++[.span c b6 true]) b8 r->P) ->
 (∀ p b8,b4=(none,p)::b8->row[k]? = some 93->P2 row (U6 row k b6).2 (p++[(U6 row k b6).1]) b8 r->P) ->
 (∀ c,row[k]? = some c->c≠92->c≠96->(b4.length<12->qV row k c=false)->(c=41->iA b4=false)->(c=93->dZ b4=false)->P2 row (k+1) (cC b6 c) b4 r->P)->P
theorem P2.inv {row:List Nat}{k:Nat}{b6 r:List T}{b4:T2}{P:Prop}(h:P2 row k b6 b4 r):Cj7 row P k b6 b4 r :=
 P2.casesOn (motive:=λk b6 b4 r Z=>Cj7 row P k b6 b4 r) h (λa b q Z Z Z Z Z Z Z=>q a b) (λa b Z q Z Z Z Z Z Z=>q a b) (λa b Z Z q Z Z Z Z Z=>q a b) (λa b c Z Z Z q Z Z Z Z=>q a b c) (λa b c d e Z Z Z Z q Z Z Z=>q _ a b c d e) (λe a b Z Z Z Z Z q Z Z=>q _ _ _ e a b) (λe a b Z Z Z Z Z Z q Z=>q _ _ e a b) (λa b c d e f g Z Z Z Z Z Z Z q=>q _ a b c d e f g)
theorem P2.past {row:List Nat}{b6 r:List T}{b4:T2}(h:P2 row k b6 b4 r) (hk:row.length<=k):r=Q5 b6 b4:=by
 have hno:∀ {c:Nat},row[k]? = some c->r=Q5 b6 b4:=λhc=>by rw [List.getElem?_eq_none hk] at hc;cases hc
 exact h.inv (λZ e=>e) (λhc Z=>hno hc) (λhc Z=>hno hc) (λhc Z Z=>hno hc) (λZ hc Z Z Z Z=>hno hc) (λZ Z Z Z hc Z=>hno hc) (λZ Z Z hc Z=>hno hc) λZ hc Z Z Z Z Z Z=>hno hc
theorem jR {n:Nat}{row:List Nat}{res:List T}(hr:row.length<=15800000) (hp:P2 row 0 [] [] res) (h:PQ H0 res Q):Ac P (n+3) "parts_of" [.str row] Q H0:=by
 have hlim:P0=16777216:=rfl
 have hH:(H0++[[]]).length=H0.length+1:=by refine qz D4 ?_;rfl
 have hst0:lH H0 [] [] [] (H0++[[]]++[[]]):=⟨by refine qz D4 (qz hH ?_);exact D3 _,(R1.one (D3 _)).trans (R1.one (qz hH (E4 _))),by refine qz hH.symm ?_;exact K6,rfl,[],P9 K6,.nil (qz D4 (qz hH (D3 _)))⟩
 refine E9 rfl rfl (P5 (H1:=H0++[[]]) iq (P5 (v:=.ref (H0.length+1)) (H1:=H0++[[]]++[[]]) (λZ h=>by rw [<- hH] at h;exact h) (F9 iq (M7 (nM (σ:=PS)
  (λs=>[some (.str row),some (.ref H0.length),some (.ref (H0.length+1)),some (.int s.1),s.2.2.2.2.1,s.2.2.2.2.2.1,s.2.2.2.2.2.2.1,s.2.2.2.2.2.2.2]) (λs G=>De6 row res H0 s.1 s.2.1 s.2.2.1 s.2.2.2.1 G) (λs=>row.length+1 - s.1) (λs G hI K hK=>?_) ⟨0,[],[],[],none,none,none,none⟩ ⟨D8 _,hp,⟨.nil,λx hx=>xL hx⟩,hst0⟩)))))
 obtain ⟨k,as,b6,b4,e4,e5,e6,e7⟩:=s
 obtain ⟨hkb,hp,hb,f9⟩:=hI
 dsimp only at hkb hp hb f9 hK ⊢
 by_cases hk:k<row.length
 ·have hg:row[k]? = some row[k]:=A8 hk
  generalize row[k]=c at hg
  have go:∀ {k' as' cur' b8 G' e4 e5 e6 e7},k<k'->k'<=row.length+1->P2 row k' cur' b8 res->Bds k' cur' b8->lH H0 as' cur' b8 G'->K [some (.str row),some (.ref H0.length),some (.ref (H0.length+1)),some (.int (k':Nat)),e4,e5,e6,e7] G':=λ{k' as' cur' b8 G' e4 e5 e6 e7} h1 h2 h3 h4 h5=>hK ⟨k',as',cur',b8,e4,e5,e6,e7⟩ G' (Nat.sub_lt_sub_left (D6 h1 h2) h1) ⟨h2,h3,h4,h5⟩
  clear hK
  have same:∀ {d:Nat},row[k]? = some d->c=d:=λhd=>Option.some.inj (hg.symm.trans hd)
  obtain ⟨l,ha,Ay⟩:=f9.at
  have k8:=Cr7 hb.b6 Ay (by exact S5 (U1 hkb (U1 hr (A4 hlim.symm))))
  have cat:∀ {t:T}{v:V},N8 G (i0 t) G.length G.length v->lH H0 as (b6++[t]) b4 (G.set (here H0.length as) (l++[v])):=λhv=>f9.upd (Ay.Fc (D3 _) hv)
  refine .go (Q0 (H9 iq iq aZ) (decide_eq_true (Int.ofNat_lt.mpr hk))) (F9 (L6 iq iq (wQ hg)) (F9 (K4 iq (mX f9)) ?_))
  refine hp.inv (λhd Z=>absurd hk (Nat.not_lt.mpr hd)) (λhc hp=>?_) (λhc hp=>?_) (λhc h12 hp=>?_) (λd hc Cs hn h12 hp=>?_) (λd p Ey ex hc hq=>?_) (λp Ey ex hc hq=>?_) λd hc h92 h96 hop h41 h93 hp=>?_
  ·-- kept
   obtain rfl:=same hc
   exact H7 iq (N3 iq (jX iq (D0 (λs=>V.tup [V.str [107,101,112,116],V.str s]) (tS row k))) ha k8.2 (go (k':=k+2) (C9 (by decide)) (E0 hk) hp (hb.to (E1 _ 2) (hb.b6.add (C9 (by decide)) λs e=>nomatch e)) (cat (pG (D3 _)))))
  ·-- code
   obtain rfl:=same hc
   have h1:=pN hk
   refine G8 iq (H7 iq (aB iq (Cf6 λv hv=>N3 iq iq ha k8.2 (go h1 (C8 (Bt0 hk)) hp (hb.to (E2 h1) (hb.b6.add h1 λs e=>absurd e (Bs9 s))) (cat (hv _ _ _ (D3 _)))))))
  ·-- label
   obtain rfl:=same hc
   have hop:=fL (n:=n+1) f9 hc
   rw [decide_eq_true h12] at hop
   have Ea:=f9.push (kd:=none)
   have e2:(G++[[]]).length=G.length+1:=by refine qz D4 ?_;rfl
   rw [<- e2] at Ea
   refine G8 iq (G8 iq (H7 (K4 iq hop) (H7 iq (N3 (H1:=G++[[]]++[frV none G.length]) (v:=V.ref (G++[[]]:Heap).length) iq iq (P9 (P9 f9.opn)) (qz uT (qz f9.lv.lens (S5 (U1 h12 (A4 hlim.symm))))) (go (D9 k) (C8 hk) hp ⟨.nil,λx hx=>?_⟩ Ea)))))
   cases hx with
   | head=>exact hb.b6.le (E4 _)
   | tail _ hx=>exact (hb.b4 x hx).le (E4 _)
  ·-- span
   obtain rfl:=same hc
   have hop:=fL (n:=n+1) f9 hc
   have h91:c≠91:=λe=>by subst e;cases Cs
   have h92:c≠92:=λe=>by subst e;cases Cs
   have h96:c≠96:=λe=>by subst e;cases Cs
   have eop:qV row k c=true:=by unfold qV;refine qz Cs (qz hn ?_);simp
   rw [decide_eq_true h12,eop] at hop
   have Ea:=f9.push (kd:=some c)
   have e2:(G++[[]]).length=G.length+1:=by refine qz D4 ?_;rfl
   rw [<- e2] at Ea
   have hk2:k+2<=row.length+1:=E0 hk
   refine G8 (Q0 iq (by simpa using h92)) (G8 (Q0 iq (by simpa using h96)) (H7 (K4 iq hop) (G8 (Q0 iq (by simpa using h91)) (N3 (H1:=G++[[]]++[frV (some c) G.length]) (v:=V.ref (G++[[]]:Heap).length) iq iq (P9 (P9 f9.opn)) (qz uT (qz f9.lv.lens (S5 (U1 h12 (A4 hlim.symm))))) (go (k':=k+2) (C9 (by decide)) hk2 hp ⟨.nil,λx hx=>?_⟩ Ea)))))
   cases hx with
   | head=>exact hb.b6.le (E1 _ _)
   | tail _ hx=>exact (hb.b4 x hx).le (E1 _ _)
  ·apply Ah;intro g9 k9
   subst ex
   obtain rfl:=same hc
   obtain ⟨a,as',rfl,_⟩:=f9.lv
   obtain ⟨Gg,hf1,_⟩:=f9.pop
   obtain ⟨l',g1,g2,g3⟩:=f9.Dj (t:=.span d b6 true) (v:=lN d a true) λG h=>At9 h
   apply k9
   have hop:=fL (n:=n+1) f9 hc
   have eop:(decide (((some d,p)::Ey:T2).length<12)&&qV row k 41)=false:=by unfold qV;simp
   rw [eop] at hop
   have hpl:=(hb.b4 _ (.head _)).len
   refine G8 iq (G8 iq (G8 (K4 iq hop) (H7 (K7 (b:=true) (b2:=true) iq λZ=>M9 (K4 iq (sT f9))) (Bc4 iq (bL▸f9.opn)
    (N3 (K4 iq (mX Gg)) (iM (I8 iq (I8 (L6 iq iq (X3 (i:=1) hf1 rfl)) (I8 (L6 iq iq (X3 (i:=2) hf1 rfl)) (I8 iq Q7))))) g1 (by exact S5 (U1 (A4 g2) (U1 hpl (U1 hkb (U1 hr (A4 hlim.symm))))))
     (go (D9 k) (C8 hk) hq ⟨(hb.b4 _ (.head _)).add (D9 _) (λs e=>nomatch e),λx hx=>(hb.b4 x (.tail _ hx)).le (E4 _)⟩ g3))))))
  ·subst ex
   obtain rfl:=same hc
   obtain ⟨a,as',rfl,_⟩:=f9.lv
   obtain ⟨Gg,hf1,_⟩:=f9.pop
   have hop:=fL (n:=n+1) f9 hc
   have eop:(decide (((none,p)::Ey:T2).length<12)&&qV row k 93)=false:=by unfold qV;simp
   rw [eop] at hop
   have hpl:=(hb.b4 _ (.head _)).len
   have hup:=pJ (ts:=b6) hk
   refine G8 iq (G8 iq (G8 (K4 iq hop) (G8 (K7 (b:=false) (b2:=true) iq λq=>xF q) (H7 (K7 (b:=true) (b2:=true) iq λZ=>M9 (K4 iq (qI f9))) ?_))))
   refine P1 (P7 (Q9 (eY rfl (Q9 (eY rfl (Q9 (rT (Cv6 (a:=H0.length+1) iq (Bc5 (bL▸f9.opn) (Ch3 (By7 (c:=.ref a) hf1 (by decide) rfl (K8 ?_))))))))))))
   refine Ce0 (ts:=b6) λg b e=>?_
   obtain ⟨l',g1,g2,g3⟩:=f9.Dj (t:=.link b6 g b) (v:=X5 a g b) λG h=>Au0 h
   rw [<- e] at g3
   exact N3 (K4 iq (mX Gg)) iq g1 (by exact S5 (U1 (A4 g2) (U1 hpl (U1 hkb (U1 hr (A4 hlim.symm)))))) (go hup (C8 (Bq6 hk)) hq ⟨(hb.b4 _ (.head _)).add hup (λs q=>by rw [e] at q;cases q),λx hx=>(hb.b4 x (.tail _ hx)).le (E2 hup)⟩ g3)
  ·-- plain
   obtain rfl:=same hc
   have hop':=fL (n:=n+1) f9 hc
   have eop:(decide (b4.length<12)&&qV row k c)=false:=by
    by_cases q:b4.length<12
    ·exact qz (hop q) (qz (Bool.and_false _) rfl)
    ·refine qz (decide_eq_false q) ?_;rfl
   rw [eop] at hop'
   have tst:∀ {d:Nat}{w:List Nat}{b:Bool}{ρ:M6},(c=d->b=false)->Ev (Ac P (n+2)) ρ G (.cmp .eq J4 (.str [d])) (.bool ([c]==[d]))->(∀ Q:F8,Q (.bool b) G->L0 (Ac P (n+2)) (.call "last_is" [J2,.str w]) ρ Q G)->Ev (Ac P (n+2)) ρ G (.and [.cmp .eq J4 (.str [d]),.call "last_is" [J2,.str w]]) (.bool false):=λ{d w b ρ} h1 h2 h3=>by
    refine Q0 (K7 h2 λZ=>M9 h3) ?_
    by_cases q:c=d
    ·exact qz (h1 q) (qz (Bool.and_false _) rfl)
    ·refine qz (show ([c]==[d])=false by simpa using q) ?_;rfl
   exact G8 (Q0 iq (by simpa using h92)) (G8 (Q0 iq (by simpa using h96)) (G8 (K4 iq hop') (G8 (tst h41 iq (K4 iq (sT f9))) (G8 (tst h93 iq (K4 iq (qI f9)))
    (P8 iq (Bp7 ha k8.2 k8.1 (go (D9 k) (C8 hk) hp (hb.to (E4 _) hb.b6.put) (f9.upd (Cc8 Ay)))))))))
 ·refine .stop (Q0 (H9 iq iq aZ) (decide_eq_false (λq=>hk (Int.ofNat_lt.mp q)))) (rU iq (Bs7 (K:=k) f9 (by exact S5 (U1 hkb hr)) hb ?_))
  exact qz (Eq.symm (hp.past (Nat.not_lt.mp hk))) h
structure K3 (H G:Heap):Prop where
 len:H.length<=G.length
 old:R1 H G 0 H.length
theorem K3.refl:K3 H H:=⟨D3 _,.refl⟩
theorem K3.one {x:List V}:K3 H (H++[x]):=⟨by refine qz D4 ?_;exact E1 _ _,.one (D3 _)⟩
theorem K3.trans {A B C:Heap}(h:K3 A B) (k:K3 B C):K3 A C:=⟨D2 h.len k.len,h.old.trans (k.old.sub (D3 _) h.len)⟩
theorem K3.get {H G:Heap}{a:Nat}{l:List V}(g:K3 H G) (h:H[a]? = some l):G[a]? = some l:=(g.old a (D8 _) (A3 h).1).trans h
theorem M1.grow (h:M1 H xs lo hi l) (g:K3 H G) (hh:hi<=H.length):M1 G xs lo hi l:=h.to (g.old.sub (D8 _) hh)
theorem N8.grow (h:N8 H xs lo hi l) (g:K3 H G) (hh:hi<=H.length):N8 G xs lo hi l:=h.to (g.old.sub (D8 _) hh)
theorem M3 {H:Heap}{l:List V}(h:H[a]? = some l):a<H.length:=(A3 h).1
theorem R6 {x:List V}:(H++[x]).length=H.length+1:=by refine qz D4 ?_;rfl
noncomputable def W:Nat:=15800000
theorem W4:(4:Nat)<=W:=by decide
theorem Cf1:Q2 W m (i0 (.Al s)):=Q2.at
theorem yY:Q2 W (m+1) (i0 (.kept s)):=⟨D2 (by decide:(2:Nat)<=4) W4,λy hy=>by
 rcases B0 hy with rfl|hy
 ·exact Q2.at
 ·exact qz (B1 hy) Q2.at⟩
theorem yZ:Q2 W (m+1) (i0 (.code s b)):=⟨D2 (by decide:(3:Nat)<=4) W4,λy hy=>by
 rcases B0 hy with rfl|hy
 ·exact Q2.at
 ·rcases B0 hy with rfl|hy
  ·exact Q2.at
  ·exact qz (B1 hy) Q2.at⟩
theorem yT (h:y∈M0 ts):∃ t∈ts,y=i0 t:=Bh8 (Y6 ts) h
theorem At3 (h:us.length<=W) (hf:∀ t∈us,Q2 W m (i0 t)):Q2 W (m+1) (.lst (M0 us)):=⟨by refine qz (V9 _) ?_;exact h,λy hy=>by
 obtain ⟨t,ht,rfl⟩:=yT hy
 exact hf t ht⟩
theorem Br8 (h:us.length<=W) (hf:∀ t∈us,Q2 W m (i0 t)):Q2 W (m+2) (i0 (.span c us b)):=⟨W4,λy hy=>by
 rcases B0 hy with rfl|hy
 ·exact Q2.at
 ·rcases B0 hy with rfl|hy
  ·exact Q2.at
  ·rcases B0 hy with rfl|hy
   ·exact At3 h hf
   ·exact qz (B1 hy) Q2.at⟩
theorem Br9 (h:us.length<=W) (hf:∀ t∈us,Q2 W m (i0 t)):Q2 W (m+2) (i0 (.link us g b)):=⟨W4,λy hy=>by
 rcases B0 hy with rfl|hy
 ·exact Q2.at
 ·rcases B0 hy with rfl|hy
  ·exact At3 h hf
  ·rcases B0 hy with rfl|hy
   ·exact Q2.at
   ·exact qz (B1 hy) Q2.at⟩
theorem Bq0 {row:List Nat}(h:[42,95,126].contains c=true) (hn:nx row k=[40]):qV row k c=true:=by unfold qV;refine qz h (qz hn ?_);simp
theorem P2.total {row:List Nat}:∀ (n k:Nat) (b6:List T) (b4:T2),row.length<=k+n->∃ r,P2 row k b6 b4 r
 | 0=>λk b6 b4 h=>⟨_,.done h⟩
 | n+1=>λk b6 b4 h=>by
  by_cases hk:row.length<=k
  ·exact ⟨_,.done hk⟩
  have hk':k<row.length:=Nat.not_le.mp hk
  have up:∀ {k':Nat}(cur':List T) (b8:T2),k<k'->∃ r,P2 row k' cur' b8 r:=λ{k'} cur' b8 q=>P2.total (row:=row) n k' cur' b8 (by exact S5 (U1 h q))
  have hg:row[k]? = some row[k]:=A8 hk'
  generalize row[k]=c at hg
  by_cases h92:c=92
  ·exact (up _ b4 (C9 (by decide))).imp λr hr=>.kept (qz hg (qz h92 rfl)) hr
  by_cases h96:c=96
  ·exact (up _ b4 (pN hk')).imp λr hr=>.code (qz hg (qz h96 rfl)) hr
  by_cases hop:b4.length<12/\qV row k c=true
  ·obtain ⟨h12,hop⟩:=hop
   by_cases h91:c=91
   ·exact (up [] ((none,b6)::b4) (D9 _)).imp λr hr=>.label (qz hg (qz h91 rfl)) h12 hr
   ·unfold qV at hop
    rw [show (c==91)=false by simpa using h91,Bool.false_or] at hop
    obtain ⟨h1,h2⟩:=B6 hop
    exact (up [] ((some c,b6)::b4) (C9 (by decide))).imp λr hr=>.span hg h1 (by simpa using h2) h12 hr
  have hno:b4.length<12->qV row k c=false:=λh12=>by
   cases e:qV row k c with
   | false=>rfl
   | true=>exact absurd ⟨h12,e⟩ hop
  have plain:(c=41->iA b4=false)->(c=93->dZ b4=false)->∃ r,P2 row k b6 b4 r:=λh1 h2=>(up (cC b6 c) b4 (D9 _)).imp λr hr=>.plain hg h92 h96 hno h1 h2 hr
  match b4,plain with
  | [],plain=>exact plain (λZ=>rfl) λZ=>rfl
  | (some x,p)::b4,plain =>
   by_cases h41:c=41
   ·exact (up (p++[.span x b6 true]) b4 (D9 _)).imp λr hr=>.shutS (qz hg (qz h41 rfl)) hr
   ·exact plain (λq=>absurd q h41) λZ=>rfl
  | (none,p)::b4,plain =>
   by_cases h93:c=93
   ·exact (up (p++[(U6 row k b6).1]) b4 (pJ hk')).imp λr hr=>.Fe (qz hg (qz h93 rfl)) hr
   ·exact plain (λZ=>rfl) λq=>absurd q h93
noncomputable def Ch9 (row:List Nat) (k:Nat) (b6:List T):T2->Nat×List T×T2
 | []=>(k+1,b6,[])
 | (some d,p)::b4=>(k+1,p++[.span d b6 true],b4)
 | (none,p)::b4=>((U6 row k b6).2,p++[(U6 row k b6).1],b4)
noncomputable def Fg (row:List Nat) (k c:Nat) (b6:List T) (b4:T2):Nat×List T×T2 :=
 if c=92 then (k+2,b6++[.kept (nx row k)],b4) else if c=96 then ((Y4 row k).2,b6++[(Y4 row k).1],b4) else
 if b4.length<12/\qV row k c=true then (if c=91 then (k+1,[],(none,b6)::b4) else (k+2,[],(some c,b6)::b4)) else
 if c=41/\iA b4=true then Ch9 row k b6 b4 else if c=93/\dZ b4=true then Ch9 row k b6 b4 else (k+1,cC b6 c,b4)
theorem P2.step {row:List Nat}{b6 r:List T}{b4:T2}(h:P2 row k b6 b4 r):(row.length<=k/\r=Q5 b6 b4)∨∃ c,row[k]? = some c/\k<(Fg row k c b6 b4).1/\P2 row (Fg row k c b6 b4).1 (Fg row k c b6 b4).2.1 (Fg row k c b6 b4).2.2 r:=by
 have mk:∀ {c:Nat}{s:Nat×List T×T2},row[k]? = some c->Fg row k c b6 b4=s->k<s.1->P2 row s.1 s.2.1 s.2.2 r->(row.length<=k/\r=Q5 b6 b4)∨∃ c,row[k]? = some c/\k<(Fg row k c b6 b4).1/\P2 row (Fg row k c b6 b4).1 (Fg row k c b6 b4).2.1 (Fg row k c b6 b4).2.2 r:=λ{c s} h1 h2 h3 h4=>Or.inr ⟨c,h1,qz h2 ⟨h3,h4⟩⟩
 refine h.inv (λhk e=>Or.inl ⟨hk,e⟩) (λhc h=>mk hc rfl (C9 (by decide)) h) (λhc h=>mk hc rfl (pN (A3 hc).1) h) (λhc h12 h=>?_) (λc hc Cs hn h12 h=>?_) (λc p Ey ex hc g=>?_) (λp Ey ex hc g=>?_) λc hc h92 h96 hop h41 h93 h=>?_
 ·exact mk (s:=(k+1,[],(none,b6)::b4)) hc (by unfold Fg;refine qz (if_neg (by decide)) (qz (if_neg (by decide)) (qz (if_pos ⟨h12,rfl⟩) ?_));rfl) (D9 _) h
 ·exact mk (s:=(k+2,[],(some c,b6)::b4)) hc (by unfold Fg;exact qz (if_neg (λe=>by subst e;cases Cs)) (qz (if_neg (λe=>by subst e;cases Cs)) (qz (if_pos ⟨h12,Bq0 Cs hn⟩) (qz (if_neg (λe=>by subst e;cases Cs)) rfl)))) (C9 (by decide)) h
 ·subst ex
  have e:qV row k 41=false:=by unfold qV;simp
  exact mk (s:=(k+1,p++[.span c b6 true],Ey)) hc (by unfold Fg;refine qz (if_neg (by decide)) (qz (if_neg (by decide)) (qz (if_neg (λq=>by rw [e] at q;cases q.2)) ?_));rfl) (D9 _) g
 ·subst ex
  have e:qV row k 93=false:=by unfold qV;simp
  exact mk (s:=((U6 row k b6).2,p++[(U6 row k b6).1],Ey)) hc (by unfold Fg;refine qz (if_neg (by decide)) (qz (if_neg (by decide)) (qz (if_neg (λq=>by rw [e] at q;cases q.2)) (qz (if_neg (λq=>by cases q.1)) ?_)));rfl) (pJ (A3 hc).1) g
 ·exact mk (s:=(k+1,cC b6 c,b4)) hc (by unfold Fg;exact qz (if_neg h92) (qz (if_neg h96) (qz (if_neg (λq=>by rw [hop q.1] at q;cases q.2)) (qz (if_neg (λq=>by rw [h41 q.1] at q;cases q.2)) (qz (if_neg (λq=>by rw [h93 q.1] at q;cases q.2)) rfl))))) (D9 _) h
theorem P2.det {row:List Nat}:∀ (n k:Nat) (b6:List T) (b4:T2) (r r':List T),row.length<=k+n->P2 row k b6 b4 r->P2 row k b6 b4 r'->r=r':=by
 intro n
 induction n with
 | zero=>exact λk b6 b4 r r' hn h h'=>(h.past hn).trans (h'.past hn).symm
 | succ n ih =>
  exact λk b6 b4 r r' hn h h'=>by
   rcases h.step with ⟨q,e⟩|⟨c,hc,hk,g⟩
   ·exact qz e (qz (h'.past q) rfl)
   ·rcases h'.step with ⟨q,e⟩|⟨c',j0,_,g'⟩
    ·exact qz e (qz (h.past q) rfl)
    ·cases hc.symm.trans j0
     exact ih _ _ _ r r' (by exact S5 (U1 hn hk)) g g'
noncomputable def pts (row:List Nat):List T:=Classical.choose (P2.total (row:=row) row.length 0 [] [] (A4 (Nat.zero_add _).symm))
theorem tV (row:List Nat):P2 row 0 [] [] (pts row):=Classical.choose_spec (P2.total (row:=row) row.length 0 [] [] (A4 (Nat.zero_add _).symm))
theorem Cp1 {row:List Nat}(h:P2 row 0 [] [] us):us=pts row:=P2.det row.length 0 [] [] _ _ (A4 (Nat.zero_add _).symm) h (tV row)
noncomputable def Ak (c:Nat):List Nat->Nat
 | []=>0
 | x::r=>if x=c then Ak c r+1 else 0
theorem yG (row:List Nat) (k:Nat):slice row (some (k:Int)) (some ((k:Int)+1))=(row.drop k).take 1:=by
 refine qz (Z2 (C6 _) (Int.le_add_one (C6 _))) ?_
 show (row.drop k).take (k+1 - k)=_
 exact qz (Nat.add_sub_cancel_left _ _) rfl
theorem Co5 {row:List Nat}(h:R .next [some (.str row),some (.str [c]),some (.int (Ak c row:Nat))] H) :
  lE C (.Dq (.cmp .eq (.slc J0 J2 (.bin .add J2 (.int 1))) J1) [.assign 2 (.bin .add J2 (.int 1))]) [some (.str row),some (.str [c]),some (.int 0)] R H:=by
 refine nM (σ:=Nat) (λi=>[some (.str row),some (.str [c]),some (.int (i:Nat))]) (λi G=>G=H/\Ak c row=i+Ak c (row.drop i)) (λi=>Ak c (row.drop i)) (λi G hI K hK=>?_) 0 ⟨rfl,(Nat.zero_add _).symm⟩
 obtain ⟨rfl,he⟩:=hI
 have et:Ev C [some (.str row),some (.str [c]),some (.int (i:Nat))] G (.cmp .eq (.slc J0 J2 (.bin .add J2 (.int 1))) J1) (.bool ((row.drop i).take 1==[c])):=Q0 iq (D0 (· == [c]) (yG row i))
 have e1:row.drop (i+1)=(row.drop i).tail:=(List.tail_drop).symm
 cases hd:row.drop i with
 | nil =>
  rw [hd] at et he
  rw [show Ak c row=i from he] at h
  exact .stop et h
 | cons x r =>
  rw [hd] at et he e1
  by_cases hx:x=c
  ·subst hx
   have e2:Ak x (x::r)=Ak x r+1:=if_pos rfl
   refine .go (Q0 et (by show ([x]==[x])=true;simp)) (hK (i+1) _ ?_ ⟨rfl,?_⟩)
   ·show Ak x (row.drop (i+1))<Ak x (row.drop i)
    exact qz e1 (qz hd (qz e2 (D9 _)))
   ·exact qz e1 (qz he (qz e2 (B5 i _ 1)))
  ·have e2:Ak c (x::r)=0:=if_neg hx
   rw [e2] at he
   rw [show Ak c row=i from he] at h
   exact .stop (Q0 et (by show ([x]==[c])=false;simpa using hx)) h
theorem dJ {n:Nat}{row:List Nat}(Q:F8) (h:Q (.int (Ak c row:Nat)) H):Ac P (n+1) "run_of" [.str row,.str [c]] Q H:=E9 rfl rfl (F9 iq (M7 (Co5 h)))
noncomputable abbrev Sh:=Nat×Nat×List Nat
noncomputable def Av (c m:Nat) (row:List Nat):Bool:=decide (1<=Ak c row)&&(decide (Ak c row<=m)&&((row.drop (Ak c row)).take 1==[32]))
noncomputable def isQ (deep:Nat) (row:List Nat):Bool:=decide (deep<9)&&(row.take 2==[62,32])
noncomputable def Cg (deep:Nat) (row:List Nat):Sh:=bif isQ deep row then ⟨1,0,row.drop 2⟩ else bif Av 35 6 row then ⟨2,Ak 35 row,row.drop (Ak 35 row+1)⟩ else bif Av 45 9 row then ⟨3,Ak 45 row,row.drop (Ak 45 row+1)⟩ else ⟨4,0,row⟩
noncomputable def Au (deep:Nat) (row:List Nat):Sh:=match row with
 | []=>⟨0,0,[]⟩
 | x::r=>Cg deep (x::r)
noncomputable def nmS:Nat->List Nat
 | 0=>[103,97,112]
 | 1=>[113,117,111,116,101]
 | 2=>[104,101,97,100,105,110,103]
 | 3=>[105,116,101,109]
 | _=>[112,108,97,105,110]
noncomputable def Ej (s:Sh):V:=.tup [.str (nmS s.1),.int (s.2.1:Nat),.str s.2.2]
theorem Ce9 (row:List Nat) (k:Nat):slice row (some ((k:Int)+1)) none=row.drop (k+1):=X0 (Int.le_add_one (C6 k))
theorem gI (deep:Nat) (row:List Nat):(row=[]/\Au deep row=⟨0,0,[]⟩)∨((row==[])=false/\((isQ deep row=true/\Au deep row=⟨1,0,row.drop 2⟩)∨(isQ deep row=false/\((Av 35 6 row=true/\Au deep row=⟨2,Ak 35 row,row.drop (Ak 35 row+1)⟩)∨(Av 35 6 row=false /\
  ((Av 45 9 row=true/\Au deep row=⟨3,Ak 45 row,row.drop (Ak 45 row+1)⟩)∨(Av 45 9 row=false/\Au deep row=⟨4,0,row⟩))))))):=by
 match row with
 | []=>exact Or.inl ⟨rfl,rfl⟩
 | x::r =>
  refine Or.inr ⟨rfl,?_⟩
  show (_/\Cg deep (x::r)=_)∨(_/\((_/\Cg deep (x::r)=_)∨(_/\((_/\Cg deep (x::r)=_)∨(_/\Cg deep (x::r)=_)))))
  generalize x::r=row
  unfold Cg
  cases isQ deep row with
  | true=>exact Or.inl ⟨rfl,rfl⟩
  | false =>
   refine Or.inr ⟨rfl,?_⟩
   cases Av 35 6 row with
   | true=>exact Or.inl ⟨rfl,rfl⟩
   | false =>
    refine Or.inr ⟨rfl,?_⟩
    cases Av 45 9 row with
    | true=>exact Or.inl ⟨rfl,rfl⟩
    | false=>exact Or.inr ⟨rfl,rfl⟩
section
variable {n deep:Nat}{row:List Nat}{H:Heap}
theorem lt9 {k m:Nat}:decide ((k:Int)<(m:Nat))=decide (k<m):=decide_eq_decide.mpr Int.ofNat_lt
theorem le9 {k m:Nat}:decide ((k:Int)<=(m:Nat))=decide (k<=m):=decide_eq_decide.mpr Int.ofNat_le
theorem Cl6 {k x:Nat}(h0:ρ[0]? = some (some (.str row))) (hx:ρ[x]? = some (some (.int (k:Nat)))):Ev C ρ H (.cmp .eq (.slc J0 (.var x) (.bin .add (.var x) (.int 1))) (.str [32])) (.bool ((row.drop k).take 1==[32])):=H9 (Cv2 (iL h0) (iL hx) (K0 (iL hx) G9 U3) tI) S7 (by refine qz (yG _ _) ?_;rfl)
theorem Bi3 {k x:Nat}(h0:ρ[0]? = some (some (.str row))) (hx:ρ[x]? = some (some (.int (k:Nat)))):Ev C ρ H (.tup [.str w,.var x,.Aw J0 (.bin .add (.var x) (.int 1))]) (.tup [.str w,.int (k:Nat),.str (row.drop (k+1))]):=iM (I8 S7 (I8 (iL hx) (I8 (Ad9 (iL h0) (K0 (iL hx) G9 U3) (qz tI (qz (Ce9 _ _) rfl))) Q7)))
theorem yI (Q:F8) (h:Q (Ej (Au deep row)) H):Ac P (n+2) "shape" [.str row,.int (deep:Nat)] Q H:=by
 refine E9 rfl rfl ?_
 have eq1:∀ {C:Calls}{y z:Option V},Ev C [some (.str row),some (.int (deep:Nat)),y,z] H (.and [.cmp .lt J1 (.glob "MOST_QUOTES" 9),.cmp .eq (.Cp J0 (.int 2)) (.str [62,32])]) (.bool (isQ deep row)):=K7 (Q0 (H9 iq iq aZ) lt9) λZ=>M9 (Q0 iq (D0 (· == [62,32]) (oX (by decide))))
 have e2:∀ {C:Calls}{a z:Option V},Ev C [some (.str row),a,some (.int (Ak 35 row:Nat)),z] H (.and [.cmp .le (.int 1) J2,.cmp .le J2 (.glob "MOST_SHARPS" 6),.cmp .eq (.slc J0 J2 (.bin .add J2 (.int 1))) (.str [32])]) (.bool (Av 35 6 row)):=K7 (Q0 (H9 iq iq tD) le9) λZ=>K7 (Q0 (H9 iq iq tD) le9) λZ=>M9 (Cl6 rfl rfl)
 have e3:∀ {C:Calls}{a z:Option V},Ev C [some (.str row),a,z,some (.int (Ak 45 row:Nat))] H (.and [.cmp .le (.int 1) J3,.cmp .le J3 (.glob "MOST_DASHES" 9),.cmp .eq (.slc J0 J3 (.bin .add J3 (.int 1))) (.str [32])]) (.bool (Av 45 9 row)):=K7 (Q0 (H9 iq iq tD) le9) λZ=>K7 (Q0 (H9 iq iq tD) le9) λZ=>M9 (Cl6 rfl rfl)
 rcases gI deep row with ⟨rfl,e⟩|⟨h0,⟨hq,e⟩|⟨hq,⟨h35,e⟩|⟨h35,⟨h45,e⟩|⟨h45,e⟩⟩⟩⟩
 ·rw [e] at h
  exact H7 iq h
 ·rw [e] at h
  exact E8 (Q0 iq h0) (H7 (Q0 eq1 hq) (O0 (jX iq (D0 (λs=>V.tup [V.str [113,117,111,116,101],V.int 0,V.str s]) (X0 (by decide)))) h))
 ·rw [e] at h
  exact E8 (Q0 iq h0) (E8 (Q0 eq1 hq) (F9 (K4 iq dJ) (H7 (Q0 e2 h35) (O0 (Bi3 rfl rfl) h))))
 ·rw [e] at h
  exact E8 (Q0 iq h0) (E8 (Q0 eq1 hq) (F9 (K4 iq dJ) (E8 (Q0 e2 h35) (F9 (K4 iq dJ) (H7 (Q0 e3 h45) (O0 (Bi3 rfl rfl) h))))))
 ·rw [e] at h
  exact E8 (Q0 iq h0) (E8 (Q0 eq1 hq) (F9 (K4 iq dJ) (E8 (Q0 e2 h35) (F9 (K4 iq dJ) (E8 (Q0 e3 h45) h)))))
end
set_option genCtorIdx false in
inductive It where
 | it (n:Nat) (ts:List T) (sub:List It)
mutual
noncomputable def Fy:It->X
 | .it n ts sub=>.tup [.at (.i (n:Nat)),.lst (M0 ts),.lst (X9 sub)]
noncomputable def X9:List It->List X
 | []=>[]
 | i::is=>Fy i::X9 is
end
theorem dE:∀ is:List It,X9 is=is.map Fy:=by
 intro is
 induction is with
 | nil=>exact rfl
 | cons i is ih=>exact D0 (Fy i::·) (ih)
mutual
noncomputable def RI (H:Heap):It->Nat->Nat->V->Prop
 | .it n ts sub,lo,hi,v=>∃ a b p q lp ls,v=.tup [.int (n:Nat),.ref a,.ref b]/\Bd lo b a p q/\H[a]? = some lp/\M1 H (M0 ts) p q lp/\H[b]? = some ls/\bP H sub (b+1) hi ls
noncomputable def bP (H:Heap):List It->Nat->Nat->List V->Prop
 | [],lo,hi,l=>lo<=hi/\l=[]
 | i::is,lo,hi,l=>∃ v r m,l=v::r/\RI H i lo m v/\bP H is m hi r
end
mutual
theorem RI.le:∀ {i:It}{lo hi:Nat}{v:V},RI H i lo hi v->lo<hi
 | .it n ts sub=>λh=>by
  obtain ⟨a,b,p,q,lp,ls,_,hb,_,_,_,h⟩:=h
  exact D7 hb.le (bP.le (is:=sub) h)
theorem bP.le:∀ {is:List It}{lo hi:Nat}{l:List V},bP H is lo hi l->lo<=hi
 | []=>λh=>h.1
 | i::is=>λh=>by
  obtain ⟨v,r,m,_,h1,h2⟩:=h
  exact D2 (E2 (RI.le (i:=i) h1)) (bP.le (is:=is) h2)
end
mutual
theorem RI.mono:∀ {i:It}{lo hi lo' d7:Nat}{v:V},RI H i lo hi v->R1 H G lo hi->lo'<=lo->hi<=d7->RI G i lo' d7 v
 | .it n ts sub=>λh k q1 q2=>by
  apply Ah;intro g9 k9
  obtain ⟨a,b,p,q,lp,ls,e,hb,h1,h2,h3,h4⟩:=h
  apply k9
  have d6:=bP.le h4
  exact ⟨a,b,p,q,lp,ls,e,hb.mono q1 (D3 _),(k a hb.la (Nat.lt_trans hb.ah d6)).trans h1,h2.to (k.sub hb.lp (D2 hb.qh (E2 d6))),(k b hb.le d6).trans h3,bP.mono (is:=sub) h4 (k.sub (C8 hb.le) (D3 _)) (D3 _) q2⟩
theorem bP.mono:∀ {is:List It}{lo hi lo' d7:Nat}{l:List V},bP H is lo hi l->R1 H G lo hi->lo'<=lo->hi<=d7->bP G is lo' d7 l
 | []=>λh Z q1 q2=>⟨D2 q1 (D2 h.1 q2),h.2⟩
 | i::is=>λh k q1 q2=>by
  obtain ⟨v,r,m,e,h1,h2⟩:=h
  exact ⟨v,r,m,e,RI.mono (i:=i) h1 (k.sub (D3 _) (bP.le h2)) q1 (D3 _),bP.mono (is:=is) h2 (k.sub (E2 (RI.le h1)) (D3 _)) (D3 _) q2⟩
end
theorem bP.to (h:bP H is lo hi l) (k:R1 H G lo hi):bP G is lo hi l:=bP.mono h k (D3 _) (D3 _)
theorem bP.app (hm:bP H js mid hi m):∀ {is:List It}{lo:Nat}{l:List V},bP H is lo mid l->bP H (is++js) lo hi (l++m):=by
 intro is
 induction is with
 | nil =>
  exact λh=>by
   obtain ⟨h1,rfl⟩:=h
   exact bP.mono hm .refl h1 (D3 _)
 | cons i is ih =>
  exact λh=>by
   obtain ⟨v,r,k,rfl,h1,h2⟩:=h
   exact ⟨v,r++m,k,rfl,h1,ih h2⟩
theorem bP.one (h:RI H i lo hi v):bP H [i] lo hi [v]:=⟨v,[],hi,rfl,h,D3 _,rfl⟩
theorem bP.last:∀ {is:List It}{lo:Nat}{l:List V},bP H is lo hi (l++[v])->∃ is' i m,is=is'++[i]/\bP H is' lo m l/\RI H i m hi v
 | [],lo,l,h=>absurd h.2 (by simp)
 | i::is,lo,l,h=>by
  obtain ⟨w,r,m,e,h1,h2⟩:=h
  cases l with
  | nil =>
   cases e
   match is,h2 with
   | [],h2=>exact ⟨[],i,lo,rfl,⟨D3 _,rfl⟩,RI.mono h1 .refl (D3 _) h2.1⟩
   | j::js,h2=>obtain ⟨_,_,_,e,_⟩:=h2;cases e
  | cons y l =>
   cases e
   obtain ⟨is',j,k,rfl,h3,h4⟩:=bP.last h2
   exact ⟨i::is',j,k,rfl,⟨w,l,m,rfl,h1,h3⟩,h4⟩
theorem bP.len:∀ {is:List It}{lo hi:Nat}{l:List V},bP H is lo hi l->l.length=is.length:=by
 intro is
 induction is with
 | nil=>exact λh=>by refine qz h.2 ?_;rfl
 | cons _ is ih =>
  exact λh=>by
   obtain ⟨v,r,m,rfl,_,h2⟩:=h
   exact D0 (· + 1) (ih h2)
mutual
theorem RI.rep:∀ {i:It}{lo hi:Nat}{v:V},RI H i lo hi v->N8 H (Fy i) lo hi v
 | .it n ts sub=>λh=>by
  apply Ah;intro g9 k9
  obtain ⟨a,b,p,q,lp,ls,rfl,hb,h1,h2,h3,h4⟩:=h
  apply k9
  have d6:=bP.le h4
  exact ⟨_,rfl,.atom (a:=.i _) (.cons hb.le (U7 hb h1 h2) (.cons (E2 d6) (U7 ⟨D3 _,d6,E4 _,D3 _⟩ h3 (bP.rep h4)) (.nil (D3 _))))⟩
theorem bP.rep:∀ {is:List It}{lo hi:Nat}{l:List V},bP H is lo hi l->M1 H (X9 is) lo hi l
 | []=>λh=>h
 | i::is=>λh=>by
  obtain ⟨v,r,m,e,h1,h2⟩:=h
  exact ⟨v,r,m,e,E2 (RI.le h1),RI.rep h1,bP.rep h2⟩
end
abbrev Cn:=Nat×Nat×Nat
noncomputable def cV (c:Cn):V:=.tup [.int (c.1:Nat),.ref c.2.1,.ref c.2.2]
inductive Ch (H:Heap):List V->List Cn->Prop
 | nil:Ch H [] []
 | cons {l lb:List V}{c:Cn}{cs:List Cn}:H[c.2.2]? = some lb->Ch H lb cs->Ch H (l++[cV c]) (c::cs)
theorem Ag4 {n a b:Nat}(h:cV c=.tup [.int (n:Nat),.ref a,.ref b]):c=(n,a,b):=by
 obtain ⟨c1,c2,c3⟩:=c
 unfold cV at h
 cases h;rfl
theorem Ch.to (h:Ch H l cs):∀ {is:List It}{lo hi:Nat},bP H is lo hi l->R1 H G lo hi->Ch G l cs:=by
 induction h with
 | nil=>exact λZ Z=>.nil
 | cons h2 _ ih =>
  intro is lo hi hr k
  apply Ah;intro g9 k9
  obtain ⟨is',⟨mm,ts',sub⟩,m,rfl,h3,h4⟩:=bP.last hr
  obtain ⟨a',b',p',q',lp,ls,e,hb,g1,g2,g3,g4⟩:=h4
  apply k9
  have ec:=Ag4 e
  rw [ec] at h2
  cases h2.symm.trans g3
  have n6:lo<=b':=D2 h3.le hb.le
  refine .cons (qz ec ((k b' n6 g4.le).trans g3)) (ih g4 (k.sub (C8 n6) (D3 _)))
mutual
noncomputable def cnt:It->Nat
 | .it _ _ sub=>Aq sub+1
noncomputable def Aq:List It->Nat
 | []=>0
 | i::is=>cnt i+Aq is
end
theorem fM:∀ is js:List It,Aq (is++js)=Aq is+Aq js:=by
 intro is
 induction is with
 | nil=>exact λjs=>(Nat.zero_add _).symm
 | cons i is ih=>exact λjs=>by show cnt i+Aq (is++js)=cnt i+Aq is+Aq js;exact qz (ih js) (qz (C2 _ _ _) rfl)
theorem dC:∀ is:List It,is.length<=Aq is
 | []=>D3 _
 | .it n ts sub::is=>by
  show is.length+1<=(Aq sub+1)+Aq is
  exact qz (Nat.add_comm _ _) (B3 (A7 _ _) (dC is))
noncomputable def Ao:Nat->List It->It->List It
 | 0,is,x=>is++[x]
 | j+1,is,x=>match is.getLast? with
  | some (.it m ts sub)=>is.dropLast++[.it m ts (Ao j sub x)]
  | none=>is++[x]
theorem Al4 {sub is:List It}{x:It}(h:is.getLast? = some (It.it m ts sub)):Ao (j+1) is x=is.dropLast++[It.it m ts (Ao j sub x)]:=by
 show (match is.getLast? with
  | some (It.it m ts sub)=>is.dropLast++[It.it m ts (Ao j sub x)]
  | none=>is++[x])=_
 exact qz h rfl
theorem X2 {sub is:List It}{x:It}:Ao (j+1) (is++[It.it m ts sub]) x=is++[It.it m ts (Ao j sub x)]:=qz (Al4 List.getLast?_concat) (qz List.dropLast_concat rfl)
noncomputable def tgt (a:Nat) (cs:List Cn):Nat->Nat
 | 0=>a
 | j+1=>match cs[j]? with
  | some c=>c.2.2
  | none=>a
structure Ins (H:Heap) (a lo hi d7:Nat) (is:List It) (x:It) (v:V) (cs:List Cn) (c:Cn) (j bt:Nat) (lt:List V):Prop where
 get:H[bt]? = some lt
 len:lt.length<=Aq is
 loc:bt=a∨(lo<=bt/\bt<hi)
 new:∃ l',(H.set bt (lt++[v]))[a]? = some l'/\bP (H.set bt (lt++[v])) (Ao j is x) lo d7 l'/\Ch (H.set bt (lt++[v])) l' (cs.take j++[c])
theorem Cq4 {n:Nat}(hx:RI H (.it n ts []) hi d7 (cV c)):∀ (j:Nat) (is:List It) (lo:Nat) (l:List V) (cs:List Cn) (a:Nat),bP H is lo hi l->Ch H l cs->j<=cs.length->H[a]? = some l->(a<lo∨d7<=a) ->
  ∃ lt,Ins H a lo hi d7 is (.it n ts []) (cV c) cs c j (tgt a cs j) lt:=by
 intro j
 induction j with
 | zero =>
  intro is lo l cs a hr hc hj ha q7
  have hxx:=hx
  apply Ah;intro g9 k9
  obtain ⟨a',b',p',q',lp,ls,e,hb,h1,h2,h3,h4⟩:=hx
  apply k9
  have d6:=hr.le
  have ec:=Ag4 e
  have ev:R1 H (H.set a (l++[cV c])) hi d7:=R1.set (q7.imp (λq=>D6 q d6) id)
  refine ⟨l,ha,by refine qz hr.len ?_;exact dC is,Or.inl rfl,l++[cV c],eZ ha,bP.app (.one (RI.mono hxx ev (D3 _) (D3 _))) (hr.to (R1.set (q7.imp id (λq=>D2 (E2 (RI.le hxx)) q)))),?_⟩
  refine qz List.take_zero ?_
  refine .cons (lb:=[]) ?_ .nil
  subst ec
  exact (ev b' hb.le h4.1).trans (qz h3 (qz h4.2 rfl))
 | succ j ih =>
  intro is lo l cs a hr hc hj ha q7
  cases hc with
  | nil=>cases hj
  | @cons l0 lb d cs' hd2 j0 =>
   apply Ah;intro g9 k9
   obtain ⟨is',⟨mm,ts',sub⟩,m,rfl,h1,h2⟩:=bP.last hr
   obtain ⟨a',b',p',q',lp,ls,e,hb,g1,g2,g3,g4⟩:=h2
   have ed:=Ag4 e
   subst ed
   apply k9
   cases hd2.symm.trans g3
   have hlm:=h1.le
   have hmb:=hb.le
   obtain ⟨lt,hi1,hi2,hi3,lb',hi4,hi5,hi6⟩:=ih sub (b'+1) lb cs' b' g4 j0 (Nat.le_of_succ_le_succ hj) g3 (Or.inl (D9 _))
   have et:tgt a ((mm,a',b')::cs') (j+1)=tgt b' cs' j:=by
    cases j with
    | zero=>rfl
    | succ j =>
     show (match cs'[j]? with | some c=>c.2.2 | none=>a)=(match cs'[j]? with | some c=>c.2.2 | none=>b')
     exact qz (A8 (Nat.le_of_succ_le_succ hj)) rfl
   refine qz et ?_
   have hbt:b'<=tgt b' cs' j:=by
    rcases hi3 with q|q
    ·exact A4 q.symm
    ·exact Nat.le_of_succ_le q.1
   have hbh:tgt b' cs' j<hi:=by
    rcases hi3 with q|q
    ·exact qz q g4.le
    ·exact q.2
   have f6:tgt b' cs' j≠a:=λq=>by
    rcases q7 with p|p
    ·exact Nat.lt_irrefl _ (D6 p (D2 hlm (D2 hmb (q▸hbt))))
    ·exact Nat.lt_irrefl _ (D6 (q▸hbh) (D2 (E2 (RI.le hx)) p))
   refine ⟨lt,hi1,?_,Or.inr ⟨D2 hlm (D2 hmb hbt),hbh⟩,l0++[cV (mm,a',b')],?_,?_,?_⟩
   ·exact qz (fM _ _) (D2 hi2 (D2 (C8 (D3 _)) (A7 _ _)))
   ·exact qz (A9 f6) ha
   ·refine qz X2 ?_
    have Dz:RI (H.set (tgt b' cs' j) (lt++[cV c])) (.it mm ts' (Ao j sub (.it n ts []))) m d7 (cV (mm,a',b')):=⟨a',b',p',q',lp,lb',rfl,hb,(A9 (Nat.ne_of_gt (D6 hb.ah hbt))).trans g1,g2.to (R1.set (Or.inr (D2 hb.qh hbt))),hi4,hi5⟩
    exact bP.app (.one Dz) (h1.to (R1.set (Or.inr (D2 hmb hbt))))
   ·exact .cons hi4 hi6
noncomputable def jO (ds:List Nat) (n:Nat):Nat:=(ds.reverse.dropWhile λm=>decide (n<=m)).length
theorem uW {m n:Nat}:jO (ds++[m]) n=if n<=m then jO ds n else ds.length+1:=by
 unfold jO
 refine qz List.reverse_append ?_
 show ((m::ds.reverse).dropWhile _).length=_
 refine qz List.dropWhile_cons ?_
 by_cases h:n<=m
 ·exact qz (if_pos (decide_eq_true h)) (qz (if_pos h) rfl)
 ·exact qz (if_neg (λq=>h (of_decide_eq_true q))) (qz (if_neg h) (qz List.length_cons (qz List.length_reverse rfl)))
theorem Cy6 {n:Nat}:jO ds n<=ds.length:=by
 unfold jO
 exact qz (Eq.symm (List.length_reverse (as:=ds))) ((List.dropWhile_sublist _).length_le)
noncomputable def iR (s:List It×List Nat) (r:Nat×List T):List It×List Nat:=(Ao (jO s.2 r.1) s.1 (.it r.1 r.2 []),s.2.take (jO s.2 r.1)++[r.1])
noncomputable def Fs (rs:List (Nat×List T)):List It×List Nat:=rs.foldl iR ([],[])
theorem Br3 {rs:List (Nat×List T)}:Fs (rs++[r])=iR (Fs rs) r:=by
 unfold Fs;refine qz List.foldl_append ?_;rfl
noncomputable def itF (rs:List (Nat×List T)):List It:=(Fs rs).1
theorem zF:∀ (j:Nat) (is:List It) (x:It),Aq (Ao j is x)=Aq is+cnt x:=by
 intro j
 induction j with
 | zero=>exact λis x=>by show Aq (is++[x])=_;refine qz (fM _ _) ?_;rfl
 | succ j ih =>
  exact λis x=>by
   rcases List.eq_nil_or_concat is with rfl|⟨is',i,rfl⟩
   ·show Aq [x]=_;show cnt x+0=0+cnt x;refine qz (Nat.zero_add _) ?_;rfl
   ·refine qz List.concat_eq_append ?_
    obtain ⟨m,ts,sub⟩:=i
    refine qz X2 (qz (fM _ _) (qz (fM _ _) ?_))
    show Aq is'+((Aq (Ao j sub x)+1)+0)=Aq is'+((Aq sub+1)+0)+cnt x
    refine qz (ih sub x) (qz (B5 (Aq sub) _ _) (qz (C2 (Aq is') _ _) ?_));rfl
noncomputable def eW (s:Sh):Nat×List T:=(s.2.1,pts s.2.2)
noncomputable abbrev IS:=List Cn×Option V×Option V
structure Cu9 (H0:Heap) (rs:List (Nat×List T)) (i:Nat) (cs:List Cn) (G:Heap):Prop where
 old:R1 H0 G 0 H0.length
 len:H0.length+2<=G.length
 abv:G[H0.length+1]? = some (cs.map cV)
 top:∃ l,G[H0.length]? = some l/\bP G (itF (rs.take i)) (H0.length+2) G.length l/\Ch G l cs
 ds:cs.map (·.1)=(Fs (rs.take i)).2
 cnt:Aq (itF (rs.take i))<=i
 csl:cs.length<=i
theorem cI {α β:Type}{f:α->β}{cs:List α}{j:Nat}{c:α}(h:cs[j]? = some c):(cs.take (j+1)).map f=(cs.take j).map f++[f c]:=by
 refine qz List.take_add_one (qz h (qz C3 ?_));rfl
theorem Cc9 {n A:Nat}{cs:List Cn}{G:Heap}{R:O3}(hA:G[A]? = some (cs.map cV))
  (h:R .next [x0,x1,some (.ref A),some (Ej s),x4] (G.set A ((cs.take (jO (cs.map (·.1)) s.2.1)).map cV))) :
  lE (Ac P n) (.Dq (.and [.cmp .gt (.len J2) (.int 0),.cmp .ge (.idx (.idx J2 (.neg 1)) (.int 0)) (.idx J3 (.int 1))]) [.expr (.pop J2)]) [x0,x1,some (.ref A),some (Ej s),x4] R G:=by
 have h0:G.set A ((cs.take cs.length).map cV)=G:=by
  refine qz List.take_length ?_
  exact List.ext_getElem? λi=>by
   by_cases q:A=i
   ·subst q;exact qz (eZ hA) (qz hA rfl)
   ·exact qz (A9 q) rfl
 refine nM (σ:=Nat) (λZ=>[x0,x1,some (.ref A),some (Ej s),x4]) (λj G'=>j<=cs.length/\G'=G.set A ((cs.take j).map cV)/\jO ((cs.take j).map (·.1)) s.2.1=jO (cs.map (·.1)) s.2.1) (λj=>j) (λj G' hI K hK=>?_) cs.length ⟨D3 _,h0.symm,qz List.take_length rfl⟩
 obtain ⟨hj,rfl,hjo⟩:=hI
 have hg:=eZ (l':=(cs.take j).map cV) hA
 cases j with
 | zero =>
  refine .stop (K7 (b:=false) (b2:=true) (H9 (Q1 iq (P6 hg)) iq Z6) λq=>xF q) ?_
  rw [<- hjo] at h
  exact h
 | succ j =>
  have hc:cs[j]? = some cs[j]:=A8 hj
  generalize cs[j]=c at hc
  replace hg:=hg.trans (D0 some (cI (f:=cV) hc))
  rw [cI (f:=λc:Cn=>c.1) hc,uW] at hjo
  have t1:∀ {b:Bool},decide ((s.2.1:Int)<=(c.1:Nat))=b->Ev (Ac P n) [x0,x1,some (.ref A),some (Ej s),x4] (G.set A ((cs.take (j+1)).map cV)) (.and [.cmp .gt (.len J2) (.int 0),.cmp .ge (.idx (.idx J2 (.neg 1)) (.int 0)) (.idx J3 (.int 1))]) (.bool b):=λ{b} e =>
   Q0 (K7 (b:=true) (Q0 (H9 (Q1 iq (P6 hg)) iq Z6) jE) λZ=>M9 (Q0 (H9 (L6 (L6 iq iq (Q6 hg)) iq rfl) iq Ck8) e)) (Bool.true_and b)
  by_cases hn:s.2.1<=c.1
  ·rw [if_pos hn] at hjo
   refine .go (t1 (decide_eq_true (Int.ofNat_le.mpr hn))) (Bf7 iq hg ?_)
   exact qz (List.set_set _) (hK j _ (D9 j) ⟨Nat.le_of_succ_le hj,rfl,hjo⟩)
  ·rw [if_neg hn,E3,List.length_take,Nat.min_eq_left (Nat.le_of_succ_le hj)] at hjo
   refine .stop (t1 (decide_eq_false λq=>hn (Int.ofNat_le.mp q))) ?_
   rw [<- hjo] at h
   exact h
noncomputable def IQ (H0:Heap) (is:List It) (Q:F8):Prop:=∀ G l,G[H0.length]? = some l->M1 G (X9 is) (H0.length+2) G.length l->R1 H0 G 0 H0.length->Q (.ref H0.length) G
theorem Br2 {n a:Nat}{ss:List Sh}{Q:F8}{H0:Heap}(ha:H0[a]? = some (ss.map Ej)) (hl:ss.length<=15800000) (hs:∀ s∈ss,s.2.2.length<=15800000) (h:IQ H0 (itF (ss.map eW)) Q):Ac P (n+4) "items_of" [.ref a] Q H0:=by
 have hlim:P0=16777216:=rfl
 have hal:=M3 ha
 have st0:Cu9 H0 (ss.map eW) 0 [] (H0++[[]]++[[]]):=⟨(R1.one (D3 _)).trans (R1.one (by rw [R6];exact E4 _)),by rw [R6,R6];exact D3 _,by rw [<- R6 (x:=[])];exact K6,⟨[],P9 K6,⟨by rw [R6,R6];exact D3 _,rfl⟩,.nil⟩,rfl,D3 _,D3 _⟩
 refine E9 rfl rfl (P5 (H1:=H0++[[]]) iq (P5 (v:=.ref (H0.length+1)) (H1:=H0++[[]]++[[]]) (λZ h=>by rw [<- R6 (x:=[])] at h;exact h) (M7 (Y9 (σ:=IS) (λs=>[some (.ref a),some (.ref H0.length),some (.ref (H0.length+1)),s.2.1,s.2.2]) (λi s G=>Cu9 H0 (ss.map eW) i s.1 G) (l:=ss.map Ej) (λi s G hI=>?_) (λi s G v hv hI K hK=>?_) (λs G hI=>?_) ⟨[],none,none⟩ iq st0))))
 ·exact (hI.old a (D8 _) hal).trans ha
 ·rw [E6] at hv
  obtain ⟨sh,hsh,rfl⟩:=C1 hv
  have hsi:i<ss.length:=(A3 hsh).1
  have Es:(ss.map eW).take (i+1)=(ss.map eW).take i++[eW sh]:=by rw [List.take_add_one,E6,hsh];rfl
  refine M7 (Cc9 hI.abv ?_)
  have hj:jO (s.1.map (·.1)) sh.2.1<=s.1.length:=by have:=Cy6 (ds:=s.1.map (·.1)) (n:=sh.2.1);rw [E3] at this;exact this
  have hds:jO (Fs ((ss.map eW).take i)).2 sh.2.1=jO (s.1.map (·.1)) sh.2.1:=by rw [hI.ds]
  generalize jO (s.1.map (·.1)) sh.2.1=j at hj hds
  obtain ⟨l,htop,Dz,hch⟩:=hI.top
  have hA:H0.length+1<G.length:=hI.len
  have e1:R1 G (G.set (H0.length+1) ((s.1.take j).map cV)) (H0.length+2) G.length:=R1.set (Or.inl (D9 _))
  have Gk:(G.set (H0.length+1) ((s.1.take j).map cV)).length=G.length:=C7
  have htop1:(G.set (H0.length+1) ((s.1.take j).map cV))[H0.length]? = some l:=(A9 (Nat.ne_of_gt (D9 _))).trans htop
  have habv1:=eZ (l':=(s.1.take j).map cV) hI.abv
  have hold1:R1 H0 (G.set (H0.length+1) ((s.1.take j).map cV)) 0 H0.length:=hI.old.trans (R1.set (Or.inr (E4 _)))
  replace hch:=hch.to Dz e1
  replace Dz:=Dz.to e1
  rw [<- Gk] at Dz hA
  generalize G.set (H0.length+1) ((s.1.take j).map cV)=G1 at Dz hch htop1 habv1 hold1 hA
  refine P1 (T5 (K5 iq (R0 iq (jR (hs sh (E5 hsh)) (tV sh.2.2) λH' lp hp1 hp2 hp3=>cW ?_))))
  have d6:=hp2.le
  have g1:K3 G1 (H'++[[]]):=⟨by refine qz R6 ?_;exact E2 (Nat.lt_of_succ_lt (C8 d6)),hp3.trans (R1.one (E2 (Nat.lt_of_succ_lt d6)))⟩
  have hx:RI (H'++[[]]) (.it sh.2.1 (pts sh.2.2) []) G1.length (H'++[[]]:Heap).length (cV (sh.2.1,G1.length,H'.length)):=⟨G1.length,H'.length,G1.length+2,H'.length,lp,[],rfl,⟨D3 _,Nat.lt_of_succ_lt d6,E1 _ _,D3 _⟩,P9 hp1,hp2.to (R1.one (D3 _)),K6,by refine qz R6 ?_;exact D3 _,rfl⟩
  have hch2:=hch.to Dz (g1.old.sub (D8 _) (D3 _))
  replace Dz:=Dz.to (g1.old.sub (D8 _) (D3 _))
  apply Ah;intro g9 k9
  obtain ⟨lt,hi1,hi2,hi3,l',hi4,hi5,hi6⟩:=Cq4 hx j _ (H0.length+2) l s.1 H0.length Dz hch2 hj (g1.get htop1) (Or.inl (C9 (by decide)))
  apply k9
  have Eg:=g1.get habv1
  have hltl:lt.length<P0:=by have:=hI.cnt;exact S5 (U1 hi2 (U1 this (U1 hsi (U1 hl (A4 hlim.symm)))))
  have hbt:tgt H0.length s.1 j≠H0.length+1:=by rcases hi3 with q|q<;>lia
  have Gr:((H'++[[]]).set (tgt H0.length s.1 j) (lt++[cV (sh.2.1,G1.length,H'.length)]))[H0.length+1]? = some ((s.1.take j).map cV):=(A9 hbt).trans Eg
  have g8:((s.1.take j).map cV).length<P0:=qz (E3 _) (qz List.length_take (D7 (Nat.min_le_right _ _) (by have:=hI.csl;exact S5 (U1 this (U1 hsi (U1 hl (A4 hlim.symm)))))))
  have es:Fs ((ss.map eW).take (i+1))=iR (Fs ((ss.map eW).take i)) (eW sh):=qz Es (qz Br3 rfl)
  have hlen2:H0.length+2<=(H'++[[]]).length:=D2 hA g1.len
  have hold2:R1 H0 ((H'++[[]]).set (tgt H0.length s.1 j) (lt++[cV (sh.2.1,G1.length,H'.length)])) 0 H0.length:=(hold1.trans (g1.old.sub (D3 _) (E2 (Nat.lt_of_succ_lt hA)))).trans (R1.set (Or.inr (by rcases hi3 with q|q<;>lia)))
  have hl3:((H'++[[]]).set (tgt H0.length s.1 j) (lt++[cV (sh.2.1,G1.length,H'.length)])).length=(H'++[[]]:Heap).length:=C7
  rw [<- hl3] at hi5 hlen2
  have hbt0:=hi1
  generalize hG2:(H'++[[]]).set (tgt H0.length s.1 j) (lt++[cV (sh.2.1,G1.length,H'.length)])=G2 at hi4 hi5 hi6 Gr hold2 hlen2
  have e3:R1 G2 (G2.set (H0.length+1) ((s.1.take j).map cV++[cV (sh.2.1,G1.length,H'.length)])) (H0.length+2) G2.length:=R1.set (Or.inl (D9 _))
  have next:K [some (.ref a),some (.ref H0.length),some (.ref (H0.length+1)),some (Ej sh),some (cV (sh.2.1,G1.length,H'.length))] (G2.set (H0.length+1) ((s.1.take j).map cV++[cV (sh.2.1,G1.length,H'.length)])):=by
   refine hK ⟨s.1.take j++[(sh.2.1,G1.length,H'.length)],_,_⟩ _ ⟨hold2.trans (R1.set (Or.inr (E4 _))),by refine qz C7 ?_;exact hlen2,?_,⟨l',?_,?_,?_⟩,?_,?_,?_⟩
   ·exact qz C3 (eZ Gr)
   ·exact (A9 (Nat.ne_of_gt (D9 _))).trans hi4
   ·unfold itF
    refine qz C7 (qz es ?_)
    show bP _ (Ao (jO (Fs ((ss.map eW).take i)).2 sh.2.1) (Fs ((ss.map eW).take i)).1 (.it sh.2.1 (pts sh.2.2) [])) _ _ _
    exact qz hds (hi5.to e3)
   ·exact hi6.to hi5 e3
   ·refine qz es ?_
    show _=(Fs ((ss.map eW).take i)).2.take (jO (Fs ((ss.map eW).take i)).2 sh.2.1)++[sh.2.1]
    refine qz hds (qz hI.ds.symm (qz C3 (qz List.map_take ?_)));rfl
   ·unfold itF
    refine qz es ?_
    show Aq (Ao _ _ _)<=_
    exact qz (zF _ _ _) (E0 hI.cnt)
   ·show (s.1.take j++[_]).length<=i+1
    exact qz D4 (qz List.length_take (E0 (D2 (Nat.min_le_right _ _) hI.csl)))
  have last:∀ {R:O3},(∀ ρ G,K ρ G->R .next ρ G)->K1 (Ac P (n+3)) [.expr (.append J2 J4)] [some (.ref a),some (.ref H0.length),some (.ref (H0.length+1)),some (Ej sh),some (cV (sh.2.1,G1.length,H'.length))] R G2:=λ{R} hR=>N3 iq iq Gr g8 (hR _ _ next)
  cases j with
  | zero =>
   refine G8 (H9 (Q1 iq (P6 Eg)) iq Z6) (N3 (H1:=H'++[[]]) iq iq hbt0 hltl (oD (iZ ?_)))
   exact hG2▸last λZ Z h=>h
  | succ j =>
   have hc:s.1[j]? = some s.1[j]:=A8 hj
   have et:tgt H0.length s.1 (j+1)=s.1[j].2.2:=by show (match s.1[j]? with | some c=>c.2.2 | none=>H0.length)=_;exact qz hc rfl
   rw [cI hc] at Eg
   rw [et] at hbt0 hG2
   refine H7 (Q0 (H9 (Q1 iq (P6 Eg)) iq Z6) jE) (N3 (H1:=H'++[[]]) (L6 (L6 iq iq (Q6 Eg)) iq rfl) iq hbt0 hltl (oD (iZ ?_)))
   exact hG2▸last λZ Z h=>h
 ·obtain ⟨l,h1,h2,_⟩:=hI.top
  rw [E3,List.take_of_length_le (qz (E3 _) (D3 _))] at h2
  exact h G l h1 h2.rep hI.old
set_option genCtorIdx false in
inductive Bk where
 | gap (n:Nat)
 | head (n:Nat) (ts:List T)
 | list (is:List It)
 | para (rs:List (List T))
 | quote (bs:List Bk)
noncomputable def qW:List (List T)->List X
 | []=>[]
 | ts::r=>.lst (M0 ts)::qW r
mutual
noncomputable def Di:Bk->X
 | .gap n=>.tup [.at (.s [103,97,112]),.at (.i (n:Nat))]
 | .head n ts=>.tup [.at (.s [104,101,97,100,105,110,103]),.at (.i (n:Nat)),.lst (M0 ts)]
 | .list is=>.tup [.at (.s [108,105,115,116]),.lst (X9 is)]
 | .para rs=>.tup [.at (.s [112,97,114,97]),.lst (qW rs)]
 | .quote bs=>.tup [.at (.s [113,117,111,116,101]),.lst (O9 bs)]
noncomputable def O9:List Bk->List X
 | []=>[]
 | b::bs=>Di b::O9 bs
end
theorem aC:∀ bs:List Bk,O9 bs=bs.map Di:=by
 intro bs
 induction bs with
 | nil=>exact rfl
 | cons b bs ih=>exact D0 (Di b::·) (ih)
theorem zH (as bs:List Bk):O9 (as++bs)=O9 as++O9 bs:=Af6 aC as bs
theorem dG (bs:List Bk):(O9 bs).length=bs.length:=tZ (aC bs)
theorem gD:∀ rs:List (List T),qW rs=rs.map λts=>.lst (M0 ts):=by
 intro rs
 induction rs with
 | nil=>exact rfl
 | cons ts rs ih=>exact D0 (X.lst (M0 ts)::·) (ih)
theorem Cd1 (as bs:List (List T)):qW (as++bs)=qW as++qW bs:=Af6 gD as bs
noncomputable def Bw (s:Sh) (g:List Sh):Bool:=match g with
 | t::_=>t.1==s.1&&s.1 != 2
 | []=>false
noncomputable def Bt:List Sh->List (List Sh)
 | []=>[]
 | s::r=>match Bt r with
  | []=>[[s]]
  | g::gs=>bif Bw s g then (s::g)::gs else [s]::g::gs
theorem Br5 (s:Sh) (r:List Sh):∃ m gs,Bt (s::r)=(s::m)::gs:=by
 show ∃ m gs,(match Bt r with
  | []=>[[s]]
  | g::gs=>bif Bw s g then (s::g)::gs else [s]::g::gs)=(s::m)::gs
 cases Bt r with
 | nil=>exact ⟨[],[],rfl⟩
 | cons g gs =>
  show ∃ m gs',(bif Bw s g then (s::g)::gs else [s]::g::gs)=(s::m)::gs'
  cases Bw s g with
  | true=>exact ⟨g,gs,rfl⟩
  | false=>exact ⟨[],g::gs,rfl⟩
structure Uni (s:Sh) (m:List Sh):Prop where
 same:∀ t∈m,t.1=s.1
 one:s.1=2->m=[]
noncomputable def Stp (s:Sh):List Sh->Prop
 | []=>True
 | x::_=>x.1≠s.1∨s.1=2
theorem jG:∀ {s:Sh}{m r:List Sh},Uni s m->Stp s r->Bt (s::(m++r))=(s::m)::Bt r
 | s,[],[]=>λZ Z=>rfl
 | s,[],x::r=>λZ h=>by
  obtain ⟨m,gs,e⟩:=Br5 x r
  show (match Bt (x::r) with
   | []=>[[s]]
   | g::gs=>bif Bw s g then (s::g)::gs else [s]::g::gs)=[s]::Bt (x::r)
  refine qz e ?_
  have q:Bw s (x::m)=false:=by
   show (x.1==s.1&&s.1 != 2)=false
   rcases h with h|h
   ·refine qz (show (x.1==s.1)=false by simpa using h) ?_;rfl
   ·refine qz h (qz (Bool.and_comm _ _) ?_);rfl
  show (bif Bw s (x::m) then _ else _)=_
  refine qz q ?_;rfl
 | s,t::m,r=>λhu h=>by
  have et:t.1=s.1:=hu.same t (.head _)
  have e2:s.1≠2:=λq=>nomatch hu.one q
  have ih:=jG (s:=t) (m:=m) (r:=r) ⟨λx hx=>(hu.same x (.tail _ hx)).trans et.symm,λq=>absurd (et.symm.trans q) e2⟩ (by
   match r,h with
   | [],_=>exact trivial
   | x::r,h=>exact h.imp (λq=>qz et q) (λq=>absurd q e2))
  show (match Bt (t::(m++r)) with
   | []=>[[s]]
   | g::gs=>bif Bw s g then (s::g)::gs else [s]::g::gs)=_
  refine qz ih ?_
  have q:Bw s (t::m)=true:=by
   show (t.1==s.1&&s.1 != 2)=true
   refine qz et ?_;simpa using e2
  show (bif Bw s (t::m) then _ else _)=_
  refine qz q ?_;rfl
noncomputable def rA (rec:List (List Nat)->List Bk) (g:List Sh):Bk:=match g with
 | []=>.gap 0
 | s::_=>match s.1 with
  | 0=>.gap g.length
  | 1=>.quote (rec (g.map (·.2.2)))
  | 2=>.head s.2.1 (pts s.2.2)
  | 3=>.list (itF (g.map eW))
  | _=>.para (g.map λs=>pts s.2.2)
noncomputable def rdF:Nat->List (List Nat)->List Bk
 | 0,rows=>(Bt (rows.map (Au 9))).map (rA λZ=>[])
 | d+1,rows=>(Bt (rows.map (Au (8 - d)))).map (rA (rdF d))
theorem Cw8 (deep:Nat) (row:List Nat):(Au deep row).1<=4/\((Au deep row).1=1->deep<9)/\(Au deep row).2.2.length<=row.length:=by
 rcases gI deep row with ⟨rfl,e⟩|⟨h0,⟨hq,e⟩|⟨hq,⟨h35,e⟩|⟨h35,⟨h45,e⟩|⟨h45,e⟩⟩⟩⟩
 ·exact qz e ⟨by decide,(λq=>xZ q),D3 _⟩
 ·exact qz e ⟨(by decide:(1:Nat)<=4),(λZ=>of_decide_eq_true (B6 hq).1),by show (row.drop 2).length<=_;rw [List.length_drop];exact Nat.sub_le _ _⟩
 ·exact qz e ⟨(by decide:(2:Nat)<=4),(λq=>nomatch q),by show (row.drop _).length<=_;rw [List.length_drop];exact Nat.sub_le _ _⟩
 ·exact qz e ⟨(by decide:(3:Nat)<=4),(λq=>nomatch q),by show (row.drop _).length<=_;rw [List.length_drop];exact Nat.sub_le _ _⟩
 ·exact qz e ⟨D3 _,(λq=>nomatch q),D3 _⟩
theorem De4 (h:k<=4):k=0∨k=1∨k=2∨k=3∨k=4:=(by decide:∀ k<5,k=0∨k=1∨k=2∨k=3∨k=4) k (Nat.lt_succ_of_le h)
theorem Bh6:∀ a<5,∀ b<5,(nmS a==nmS b)=(a==b):=by decide
theorem oR (h:G[a]? = some l) (hr:M1 G xs (a+k+1) G.length l):N8 G (.lst xs) a G.length (.ref a):=by
 have d6:=hr.le
 exact U7 ⟨D3 _,M3 h,C8 (E1 _ _),D3 _⟩ h hr
theorem eA (hr:M1 G xs (H.length+k) G.length l) (e:R1 H G 0 H.length):K3 H G:=⟨D2 (E1 _ _) hr.le,e⟩
noncomputable def BQ (H:Heap) (x:X) (Q:F8):Prop:=∀ v G,K3 H G->N8 G x H.length G.length v->Q v G
theorem pE {x:X}(hh:lo<=hi) (h:N8 G x lo hi v):N8 G (.tup [.at (.s w),x]) lo hi (.tup [.str w,v]):=⟨_,rfl,.atom (a:=.s w) (.one hh h)⟩
structure Grp (H:Heap) (a:Nat) (f:Sh->V) (s:Sh) (m:List Sh):Prop where
 get:H[a]? = some ((s::m).map f)
 len:(s::m).length<=15800000
 row:∀ t∈s::m,t.2.2.length<=15800000
theorem Bt1 {n a deep:Nat}{rec:List (List Nat)->List Bk}(hg:Grp H a Ej s m) (hk:s.1<=4)
  (hrec:s.1=1->∀ (b:Nat) (G:Heap) (Q:F8),G[b]? = some (((s::m).map (·.2.2)).map .str)->BQ G (.lst (O9 (rec ((s::m).map (·.2.2))))) Q->Ac P (n+4) "blocks_of" [.ref b,.int ((deep+1:Nat):Int)] Q G)
  (h:BQ H (Di (rA rec (s::m))) Q):Ac P (n+5) "block_of" [.ref a,.int (deep:Nat)] Q H:=by
 have hlim:P0=16777216:=rfl
 obtain ⟨hga,b7,Es⟩:=hg
 have hal:=M3 hga
 have hlm:((s::m).map Ej).length=(s::m).length:=E3 _
 obtain ⟨k,sn,sr⟩:=s
 have e0:∀ {C:Calls}{x y:Option V}{j:Nat}{c:V}(hj:cL (Ej ⟨k,sn,sr⟩) (.int j) H=some c),Ev C [some (.ref a),some (.int (deep:Nat)),x,y] H (.idx (.idx J0 (.int 0)) (.int j)) c:=λhj=>L6 (L6 iq iq (X3 (i:=0) hga rfl)) iq hj
 refine E9 rfl rfl (F9 (e0 (j:=0) rfl) ?_)
 rcases De4 hk with rfl|rfl|rfl|rfl|rfl
 ·exact H7 iq (O0 (iM (I8 iq (I8 (Q1 iq (P6 hga)) Q7))) (h _ H .refl ⟨_,rfl,.atom (a:=.s _) (qz hlm (.atom (a:=.i _) (.nil (D3 _))))⟩))
 ·refine E8 iq (E8 iq (E8 iq (E8 iq (aH (T5 (K5 iq (Q9 (P7 ?_))))))))
  refine Q9 (Cv7 (λv=>match v with | .tup [_,_,w]=>w | _=>.none) ?_ hga (qz hlm (S5 (U1 b7 (A4 hlim.symm)))) (λv hv=>?_) _ ?_)
  ·exact λZ h=>h
  ·obtain ⟨t,_,rfl⟩:=List.mem_map.mp hv
   exact λZ h=>h
  refine K5 (v:=.int ((deep+1:Nat):Int)) iq (K8 (hrec rfl H.length _ _ ?_ λv G g hr=>K8 ?_))
  ·exact qz List.map_map (qz List.map_map K6)
  ·exact h _ G (K3.one.trans g) (pE (K3.one.trans g).len (hr.wide (qz R6 (E4 _)) (D3 _)))
 ·refine E8 iq (H7 iq (aH (T5 (K5 iq (K5 (e0 (j:=1) rfl) (R0 (I8 (e0 (j:=2) rfl) Q7) (jR (Es _ (.head _)) (tV sr) λG l g1 g2 g3=>K8 ?_)))))))
  exact h _ G (eA g2 g3) ⟨_,rfl,.atom (a:=.s _) (.atom (a:=.i _) (.one (eA g2 g3).len (oR (k:=1) g1 g2)))⟩
 ·refine E8 iq (E8 iq (H7 iq (aH (T5 (K5 iq (R0 iq (Br2 hga b7 Es λG l g1 g2 g3=>K8 ?_)))))))
  exact h _ G (eA g2 g3) (pE (eA g2 g3).len (oR (k:=1) g1 g2))
 ·refine E8 iq (E8 iq (E8 iq (H7 iq (aH (T5 (K5 iq (Q9 (tL ?_ (qz hlm (S5 (U1 b7 (A4 hlim.symm)))) (λi d5 G=>K3 H G/\M1 G (qW (((⟨4,sn,sr⟩::m).map λs=>pts s.2.2).take i)) H.length G.length d5) (λi d5 G hI=>hI.1.get hga) (λi d5 G v hv hi hI K hK=>?_) ⟨.refl,.nil (D3 _)⟩ _ λd5 G hacc hI=>K8 ?_))))))))
  ·exact λZ h=>h
  ·rw [E6] at hv
   obtain ⟨t,ht,rfl⟩:=C1 hv
   refine P7 (K5 (v:=.str t.2.2) iq (K8 (jR (Es t (E5 ht)) (tV t.2.2) λG' l g1 g2 g3=>hK _ _ ⟨hI.1.trans (eA g2 g3),?_⟩)))
   have gg:=eA g2 g3
   exact qz List.take_add_one (qz E6 (qz ht (qz (Cd1 _ _) ((hI.2.grow gg (D3 _)).add gg.len (oR (k:=1) g1 g2)))))
  ·rw [hlm,List.take_of_length_le (qz (E3 _) (D3 _))] at hI
   refine h _ _ (hI.1.trans .one) (pE (D2 hI.1.len K3.one.1) (U7 ⟨hI.1.len,by refine qz R6 ?_;exact D9 _,D3 _,qz R6 (E4 _)⟩ K6 (hI.2.grow .one (D3 _))))
noncomputable def wJ:Nat->List (List Nat)->List Bk
 | 0=>λZ=>[]
 | d+1=>rdF d
theorem tU {d deep:Nat}(h:deep+d=9) (rows:List (List Nat)):rdF d rows=(Bt (rows.map (Au deep))).map (rA (wJ d)):=by
 cases d with
 | zero=>obtain rfl:deep=9:=h;rfl
 | succ d =>
  obtain rfl:deep=8 - d:=Nat.eq_sub_of_add_eq (Nat.succ.inj h)
  rfl
noncomputable def Ao1 (d deep n:Nat):Prop:=∀ (a:Nat) (rows:List (List Nat)) (H:Heap) (Q:F8),H[a]? = some (rows.map .str)->rows≠[]->rows.length<=15800000->(∀ r∈rows,r.length<=15800000)->BQ H (.lst (O9 (rdF d rows))) Q->Ac P n "blocks_of" [.ref a,.int (deep:Nat)] Q H
noncomputable abbrev BS:=List (List Sh)×List Sh×Nat×Option V×Option V
structure Cv0 (H0:Heap) (rec:List (List Nat)->List Bk) (all:List Sh) (i:Nat) (s:BS) (G:Heap):Prop where
 old:R1 H0 G 0 H0.length
 blk:∃ l,G[H0.length]? = some l/\M1 G (O9 (s.1.map (rA rec))) (H0.length+1) s.2.2.1 l
 grp:G[s.2.2.1]? = some (s.2.1.map Ej)
 len:s.1.length+s.2.1.length<=i
 eq:Bt all=s.1++Bt (s.2.1++all.drop i)
 uni:(i=0/\s.2.1=[])∨∃ t m,s.2.1=t::m/\Uni t m/\∀ x∈t::m,x∈all
theorem zG {n d deep i:Nat}(hd:deep+d=9) (ih:∀ d',d=d'+1->Ao1 d' (deep+1) (n+4)) (hi:i<=15800000) (j4:∀ x∈all,x.1<=4/\(x.1=1->deep<9)/\x.2.2.length<=15800000)
  (hI:Cv0 H0 (wJ d) all i s G) (hg:s.2.1=t::m) (hm:∀ x∈t::m,x∈all)
  (h:∀ l v G',K3 G G'->G'[H0.length]? = some l->l.length<P0->R1 H0 (G'.set H0.length (l++[v])) 0 H0.length->M1 (G'.set H0.length (l++[v])) (O9 ((s.1++[s.2.1]).map (rA (wJ d)))) (H0.length+1) (G'.set H0.length (l++[v])).length (l++[v])->Q v G') :
  Ac P (n+5) "block_of" [.ref s.2.2.1,.int (deep:Nat)] Q G:=by
 have hlim:P0=16777216:=rfl
 have b7:=hI.len
 rw [hg] at b7
 have hml:(t::m).length<=15800000:=D2 (A7 _ _) (D2 b7 hi)
 obtain ⟨l,h1,h2⟩:=hI.blk
 have hgl:=M3 hI.grp
 have d6:=h2.le
 refine Bt1 (rec:=wJ d) (s:=t) (m:=m) ⟨hg▸hI.grp,hml,λx hx=>(j4 x (hm x hx)).2.2⟩ (j4 t (hm t (.head _))).1 (λhk b G' Q' hb hq=>?_) λv G' g hr=>?_
 ·have hd9:=(j4 t (hm t (.head _))).2.1 hk
  obtain ⟨d',rfl⟩:=gC hd hd9
  refine ih d' rfl b _ G' Q' hb (by simp) (qz (E3 _) hml) (λr hr=>?_) hq
  obtain ⟨x,hx,rfl⟩:=List.mem_map.mp hr
  exact (j4 x (hm x hx)).2.2
 ·have h1':=g.get h1
  have hl:l.length<P0:=qz h2.len (qz (dG _) (qz (E3 _) (D7 (D2 (E1 _ _) (D2 b7 hi)) (by show 15800000<16777216;decide))))
  refine h l v G' g h1' hl ((hI.old.trans (g.old.sub (D3 _) (E2 (M3 h1)))).trans (R1.set (Or.inr (D3 _)))) ?_
  have e:∀ {hi:Nat},R1 G' (G'.set H0.length (l++[v])) (H0.length+1) hi:=R1.set (Or.inl (D9 _))
  exact qz C7 (qz C3 (qz (zH _ _) (qz hg ((((h2.grow g (E2 hgl)).to e).wide (D3 _) (E2 hgl)).add g.len (hr.to (e.sub (D2 d6 (E2 hgl)) (D3 _)))))))
theorem mD {n d deep:Nat}(hd:deep+d=9) (ih:∀ d',d=d'+1->Ao1 d' (deep+1) (n+4)):Ao1 d deep (n+6):=by
 intro a rows H0 Q ha f6 b7 Es hQ
 have hlim:P0=16777216:=rfl
 have hal:=M3 ha
 have j4:∀ x∈rows.map (Au deep),x.1<=4/\(x.1=1->deep<9)/\x.2.2.length<=15800000:=λx hx=>by
  obtain ⟨r,hr,rfl⟩:=List.mem_map.mp hx
  have:=Cw8 deep r
  exact ⟨this.1,this.2.1,D2 this.2.2 (Es r hr)⟩
 rw [tU hd] at hQ
 refine E9 rfl rfl (P5 (H1:=H0++[[]]) iq (P5 (H1:=H0++[[]]++[[]]) iq (M7 (Y9 (σ:=BS) (λs=>[some (.ref a),some (.int (deep:Nat)),some (.ref H0.length),some (.ref s.2.2.1),s.2.2.2.1,s.2.2.2.2]) (Cv0 H0 (wJ d) (rows.map (Au deep))) (l:=rows.map .str) (λi s G hI=>?_) (λi s G v hv hI K hK=>?_) (λs G hI=>?_) ⟨[],[],(H0++[[]]:Heap).length,none,none⟩ iq
  ⟨(K3.one.trans K3.one).old,⟨[],P9 K6,.nil (qz R6 (D3 _))⟩,K6,D3 _,rfl,Or.inl ⟨rfl,rfl⟩⟩))))
 ·exact (hI.old a (D8 _) hal).trans ha
 ·rw [E6] at hv
  obtain ⟨row,hr,rfl⟩:=C1 hv
  have hi:i<rows.length:=(A3 hr).1
  have hx:(rows.map (Au deep))[i]? = some (Au deep row):=by refine qz E6 (qz hr ?_);rfl
  have hdrop:(rows.map (Au deep)).drop i=Au deep row::(rows.map (Au deep)).drop (i+1):=by
   obtain ⟨h1,h2⟩:=A3 hx
   exact qz (List.drop_eq_getElem_cons h1) (qz h2 rfl)
  have hxm:Au deep row∈rows.map (Au deep):=E5 hx
  have hxk:=j4 _ hxm
  have heq:=hI.eq
  rw [hdrop] at heq
  refine F9 (K4 iq yI) ?_
  have push:∀ {gsd:List (List Sh)}{g:List Sh}{ga:Nat}{G:Heap}{R:O3},(∀ ρ G,K ρ G->R .next ρ G)->R1 H0 G 0 H0.length->(∃ l,G[H0.length]? = some l/\M1 G (O9 (gsd.map (rA (wJ d)))) (H0.length+1) ga l)->G[ga]? = some (g.map Ej)->gsd.length+g.length<=i->Bt (rows.map (Au deep))=gsd++Bt (g++Au deep row::(rows.map (Au deep)).drop (i+1)) ->
    (∃ t m,g++[Au deep row]=t::m/\Uni t m/\∀ x∈t::m,x∈rows.map (Au deep))->K1 (Ac P (n+5)) [.expr (.append J3 J5)] [some (.ref a),some (.int (deep:Nat)),some (.ref H0.length),some (.ref ga),some (.str row),some (Ej (Au deep row))] R G:=λ{gsd g ga G R} hR p1 p2 p3 p4 p5 p6=>by
   obtain ⟨l,q1,q2⟩:=p2
   have d6:=q2.le
   refine N3 iq iq p3 (qz (E3 _) (S5 (U1 p4 (U1 hi (U1 b7 (A4 hlim.symm)))))) (hR _ _ (hK ⟨gsd,g++[Au deep row],ga,_,_⟩ _ ⟨p1.trans (R1.set (Or.inr (Nat.le_of_succ_le d6))),⟨l,(A9 (Nat.ne_of_gt d6)).trans q1,q2.to (R1.set (Or.inr (D3 _)))⟩,?_,?_,?_,Or.inr p6⟩))
   ·exact qz C3 (eZ p3)
   ·show gsd.length+(g++[_]).length<=i+1
    exact qz D4 (E0 p4)
   ·refine qz p5 (qz (D5 _ _ _) ?_);rfl
  rcases hI.uni with ⟨hi0,hg0⟩|⟨t,m,hg,hu,hm⟩
  ·have Ec:=hI.grp
   rw [hg0] at Ec heq
   refine E8 (K7 (b:=false) (b2:=true) (H9 (Q1 iq (P6 Ec)) iq Z6) λq=>xF q) (push (g:=[]) (λZ Z h=>h) hI.old hI.blk Ec (by have:=hI.len;rw [hg0] at this;exact this) heq ⟨_,[],rfl,⟨λZ q=>(xL q),λZ=>rfl⟩,λy hy=>?_⟩)
   exact qz (B1 hy) hxm
  ·have Ec:=hI.grp
   rw [hg] at Ec heq
   have htk:=(j4 t (hm t (.head _))).1
   have e1:∀ {C:Calls}{b:Bool},(!(nmS t.1==nmS (Au deep row).1)||(nmS (Au deep row).1==nmS 2))=b->Ev C [some (.ref a),some (.int (deep:Nat)),some (.ref H0.length),some (.ref s.2.2.1),some (.str row),some (Ej (Au deep row))] G (.and [.cmp .gt (.len J3) (.int 0),.or [.cmp .ne (.idx (.idx J3 (.int 0)) (.int 0)) (.idx J5 (.int 0)),.cmp .eq (.idx J5 (.int 0)) (.str [104,101,97,100,105,110,103])]]) (.bool b):=λ{C b} e =>
    Q0 (K7 (b:=true) (Q0 (H9 (Q1 iq (P6 Ec)) iq Z6) (decide_eq_true (Int.natCast_pos.mpr (Nat.succ_pos _)))) λZ=>M9 (Q0 (R5 (H9 (L6 (L6 iq iq (X3 (i:=0) Ec rfl)) iq rfl) iq nK) λZ=>Z8 iq) e)) (Bool.true_and b)
   rw [Bh6 _ (Nat.lt_succ_of_le htk) _ (Nat.lt_succ_of_le hxk.1),Bh6 _ (Nat.lt_succ_of_le hxk.1) 2 (by decide)] at e1
   by_cases f9:(Au deep row).1≠t.1∨t.1=2
   ·have hcut:=jG (r:=Au deep row::(rows.map (Au deep)).drop (i+1)) hu f9
    rw [show t::m++Au deep row::(rows.map (Au deep)).drop (i+1)=t::(m++Au deep row::(rows.map (Au deep)).drop (i+1)) from rfl,hcut,<- List.singleton_append,<- D5] at heq
    refine H7 (e1 ?_) (fJ iq iq (zG hd ih (by exact S5 (U1 hi b7)) j4 hI hg hm λl v G' g' q1 q2 q3 q4=>Q4 q1 q2 ?_))
    ·rcases f9 with q|q
     ·refine qz (show (t.1==(Au deep row).1)=false by simpa using q.symm) ?_;rfl
     ·by_cases q2:(Au deep row).1=t.1
      ·refine qz q2 (qz q ?_);rfl
      ·refine qz (show (t.1==(Au deep row).1)=false by simpa using λe=>q2 e.symm) ?_;rfl
    ·have b7:=hI.len
     rw [hg] at b7 q4
     have hA:(G'.set H0.length (l++[v]))[H0.length]? = some (l++[v]):=eZ q1
     refine P5 (H1:=G'.set H0.length (l++[v])++[[]]) iq (oD (iZ (push (gsd:=s.1++[t::m]) (g:=[]) (λZ Z h=>h) (q3.trans (R1.one (E2 (M3 hA)))) ⟨_,P9 hA,q4.to (R1.one (D3 _))⟩ K6 ?_ ?_ ⟨_,[],rfl,⟨λZ q=>(xL q),λZ=>rfl⟩,λy hy=>?_⟩)))
     ·exact qz D4 (D2 (A6 (E0 (D8 _)) _) b7)
     ·exact heq
     ·exact qz (B1 hy) hxm
   ·have hk:(Au deep row).1=t.1/\t.1≠2:=⟨Classical.not_not.mp λq=>f9 (Or.inl q),λq=>f9 (Or.inr q)⟩
    refine E8 (e1 ?_) (push (g:=t::m) (λZ Z h=>h) hI.old hI.blk Ec (by have:=hI.len;rw [hg] at this;exact this) heq ⟨t,m++[Au deep row],rfl,⟨λy hy=>?_,λq=>absurd q hk.2⟩,λy hy=>?_⟩)
    ·refine qz hk.1 (qz (show (t.1==t.1)=true by simp) (qz (show (t.1==2)=false by simpa using hk.2) ?_));rfl
    ·rcases C0 hy with q|q
     ·exact hu.same y q
     ·exact qz (B1 q) hk.1
    ·rcases C0 (show y∈(t::m)++[Au deep row] from hy) with q|q
     ·exact hm y q
     ·exact qz (B1 q) hxm
 ·have hn:(rows.map V.str).length=rows.length:=E3 _
  rw [hn] at hI
  rcases hI.uni with ⟨hi0,_⟩|⟨t,m,hg,hu,hm⟩
  ·exact absurd (List.length_eq_zero_iff.mp hi0) f6
  ·have heq:=hI.eq
   rw [List.drop_of_length_le (qz (E3 _) (D3 _)),hg] at heq
   have hcut:=jG (r:=[]) hu trivial
   rw [show t::m++[]=t::(m++[]) from rfl,hcut] at heq
   refine fJ iq iq (zG hd ih b7 j4 hI hg hm λl v G' g' q1 q2 q3 q4=>Q4 q1 q2 ?_)
   have hA:(G'.set H0.length (l++[v]))[H0.length]? = some (l++[v]):=eZ q1
   refine hQ _ _ ⟨E2 (M3 hA),q3⟩ ?_
   exact qz heq (qz hg.symm (oR (k:=0) hA q4))
theorem Bb5:∀ (d deep n:Nat),deep+d=9->Ao1 d deep (n+2 * d+6):=by
 intro d
 induction d with
 | zero=>exact λdeep n h=>mD h λd' q=>xZ q
 | succ d ih =>
  exact λdeep n h=>mD (n:=n+2 * d+2) h λd' q=>by
    cases q
    exact ih (deep+1) n (nV h)
noncomputable def Ad7 (deep:Nat) (ts:List T):Prop:=∀ t∈ts,Q2 W (2 * (12 - deep)+1) (i0 t)
theorem Ad7.nil {deep:Nat}:Ad7 deep []:=λZ q=>xL q
theorem Ad7.add {deep:Nat}(h:Ad7 deep ts) (k:Q2 W (2 * (12 - deep)+1) (i0 t)):Ad7 deep (ts++[t]):=λx hx=>by
 rcases C0 hx with q|q
 ·exact h x q
 ·exact qz (B1 q) k
theorem Ag0 {deep:Nat}(hd:deep<12) (hl:us.length<=W) (h:Ad7 (deep+1) us) (ht:(∃ c b,t=.span c us b)∨∃ g b,t=.link us g b):Q2 W (2 * (12 - deep)+1) (i0 t):=by
 have e0:12 - deep=12 - (deep+1)+1:=(Nat.sub_add_cancel (Nat.sub_pos_of_lt hd)).symm
 have e:2 * (12 - deep)+1=2 * (12 - (deep+1))+1+2:=by refine qz e0 ?_;rfl
 refine qz e ?_
 rcases ht with ⟨c,b,rfl⟩|⟨g,b,rfl⟩
 ·exact Br8 hl h
 ·exact Br9 hl h
mutual
noncomputable def dI:It->Nat
 | .it _ _ sub=>Br sub+1
noncomputable def Br:List It->Nat
 | []=>0
 | i::is=>max (dI i) (Br is)
end
theorem At5:∀ as bs:List It,Br (as++bs)=max (Br as) (Br bs):=by
 intro as
 induction as with
 | nil=>exact λbs=>(Nat.zero_max _).symm
 | cons a as ih=>exact λbs=>by show max (dI a) (Br (as++bs))=max (max (dI a) (Br as)) (Br bs);exact qz (ih bs) (qz (Nat.max_assoc _ _ _) rfl)
mutual
noncomputable def PI:It->Prop
 | .it _ ts sub=>Q2 W 26 (.lst (M0 ts))/\PIs sub
noncomputable def PIs:List It->Prop
 | []=>True
 | i::is=>PI i/\PIs is
end
theorem dF (is:List It):(X9 is).length=is.length:=tZ (dE is)
mutual
theorem Cr2:∀ {i:It}{m:Nat},dI i<=m->cnt i<=W->PI i->Q2 W (2 * m+26) (Fy i)
 | .it n ts sub,0=>λh Z Z=>nomatch h
 | .it n ts sub,m+1=>λh hc hp=>by
  refine Q2.tup (m:=2 * m+27) (D2 (by decide:(3:Nat)<=4) W4) λy hy=>?_
  rcases B0 hy with rfl|hy
  ·exact Q2.at
  ·rcases B0 hy with rfl|hy
   ·exact hp.1.up (D3 _) (by exact (by simp +arith only))
   ·refine qz (B1 hy) ?_
    have j0:Aq sub+1<=W:=hc
    exact Q2.lst (m:=2 * m+26) (qz (dF _) (D2 (dC sub) (Nat.le_of_succ_le j0))) (mZ (Nat.le_of_succ_le_succ h) (Nat.le_of_succ_le j0) hp.2)
theorem mZ:∀ {is:List It}{m:Nat},Br is<=m->Aq is<=W->PIs is->∀ y∈X9 is,Q2 W (2 * m+26) y
 | []=>λZ Z Z=>λy hy=>xL hy
 | i::is=>λh hc hp=>λy hy=>by
  have h1:=Nat.max_le.mp h
  have j0:cnt i+Aq is<=W:=hc
  rcases B0 hy with rfl|hy
  ·exact Cr2 h1.1 (D2 (E1 _ _) j0) hp.1
  ·exact mZ h1.2 (D2 (A7 _ _) j0) hp.2 y hy
end
theorem Bv3 {x:X}(h:Q2 W m x):Q2 W (m+1) (.tup [.at (.s w),x]):=Q2.tup (D2 (by decide:(2:Nat)<=4) W4) λy hy=>by
 rcases B0 hy with rfl|hy
 ·exact Q2.at
 ·exact qz (B1 hy) h
theorem Cd7 {rs:List (List T)}(h:y∈qW rs):∃ ts∈rs,y=.lst (M0 ts):=Bh8 (gD rs) h
theorem jF (rs:List (List T)):(qW rs).length=rs.length:=tZ (gD rs)
noncomputable def qU (c:Nat):Bool:=decide (32<=c)&&(decide (c<=126)&&c != 37)
theorem Ar4 {n c:Nat}(hc:qU c=true) (Q:F8) (h:Q (.bool true) H):Ac P (n+1) "is_sign" [.str [c]] Q H:=by
 have j0:32<=c/\c<=126/\c≠37:=by unfold qU at hc;simpa using hc
 exact E9 rfl rfl (F9 (Cg5 iq) (O0 (K7 (b:=true) (b2:=true) (Q0 (H9 iq iq tD) (decide_eq_true (by exact Int.ofNat_le.mpr (S5 j0.1)))) λZ=>K7 (b:=true) (b2:=true) (Q0 (H9 iq iq tD) (decide_eq_true (by exact Int.ofNat_le.mpr (S5 j0.2.1)))) λZ=>M9 (Q0 (H9 iq iq Bc6) (by simp;lia))) h))
theorem X7 {n:Nat}(hs:∀ c∈s,qU c=true) (Q:F8) (h:Q (.bool true) H):Ac P (n+2) "is_row" [.str s] Q H:=by
 refine E9 rfl rfl (E8 iq (M7 (Bg2 (σ:=Option V) (λe=>[some (.str s),e]) (λZ Z G=>G=H) (t:=s) (λi e G c hc hI K hK=>?_) (λe G hI=>?_) none iq rfl)))
 ·subst hI
  exact E8 (bR (t:=true) (K4 iq (Ar4 (hs c (E5 hc))))) (hK _ _ rfl)
 ·subst hI
  exact h
theorem sM:∀ {s:List Nat},splitAt c s≠[]/\(splitAt c s).length<=s.length+1/\∀ r∈splitAt c s,r.length<=s.length
 | []=>⟨λq=>(nomatch q),D3 _,λr h=>qz (B1 h) (D3 _)⟩
 | y::l=>by
  have ih:=sM (c:=c) (s:=l)
  show (if y=c then []::splitAt c l else match splitAt c l with | []=>[[y]] | w::r=>(y::w)::r)≠[]/\(if y=c then []::splitAt c l else match splitAt c l with | []=>[[y]] | w::r=>(y::w)::r).length<=l.length+1+1/\∀ r∈(if y=c then []::splitAt c l else match splitAt c l with | []=>[[y]] | w::r=>(y::w)::r),r.length<=l.length+1
  by_cases hy:y=c
  ·refine qz (if_pos hy) ?_
   refine ⟨λq=>(nomatch q),E0 ih.2.1,λr h=>?_⟩
   rcases B0 h with rfl|h
   ·exact D8 _
   ·exact C8 (ih.2.2 r h)
  ·refine qz (if_neg hy) ?_
   cases hs:splitAt c l with
   | nil=>exact absurd hs ih.1
   | cons w q =>
    rw [hs] at ih
    refine ⟨λq=>(nomatch q),C8 ih.2.1,λr h=>?_⟩
    rcases B0 h with rfl|h
    ·exact E0 (ih.2.2 w (.head _))
    ·exact C8 (ih.2.2 r (.tail _ h))
theorem Cc6 {n:Nat}(ht:∀ r∈splitAt 10 t,∀ c∈r,qU c=true) (hl:t.length<=15500000) (h:BQ H (.lst (O9 (rdF 9 (splitAt 10 t)))) Q):Ac P (n+25) "read" [.str t] Q H:=by
 have hlim:P0=16777216:=rfl
 have hs:=sM (c:=10) (s:=t)
 refine E9 rfl rfl (E8 iq (P5 (H1:=H++[(splitAt 10 t).map .str]) (λQ k=>Ca7 (by exact iq) (by exact iq) (D7 hl (by show 15500000<16777216;decide)) Q k) (M7 (Y9 (σ:=Option V) (λe=>[some (.str t),some (.ref H.length),e]) (λZ Z G=>G=H++[(splitAt 10 t).map .str]) (l:=(splitAt 10 t).map .str) (λi e G hI=>?_) (λi e G v hv hI K hK=>?_) (λe G hI=>?_) none iq rfl))))
 ·exact qz hI K6
 ·subst hI
  rw [E6] at hv
  obtain ⟨r,hr,rfl⟩:=C1 hv
  exact E8 (bR (t:=true) (K4 iq (X7 (ht r (E5 hr))))) (hK _ _ rfl)
 ·subst hI
  exact rU iq (Bb5 9 0 n rfl H.length _ _ _ K6 hs.1 (D2 hs.2.1 (D2 (E0 hl) (by decide))) (λr hr=>D2 (hs.2.2 r hr) (D2 hl (by decide))) λv G g hr=>h v G (K3.one.trans g) (hr.wide (qz R6 (E4 _)) (D3 _)))
noncomputable def dA:A->D
 | .n=>.none
 | .b t=>.bool t
 | .i z=>.int z
 | .s w=>.str w
mutual
noncomputable def dX:X->D
 | .at a=>dA a
 | .tup xs=>.tup (dXs xs)
 | .lst xs=>.list (dXs xs)
noncomputable def dXs:List X->List D
 | []=>[]
 | x::xs=>dX x::dXs xs
end
noncomputable def okA:A->Prop
 | .s w=>∀ c∈w,c<1114112
 | _=>True
mutual
noncomputable def okX:X->Prop
 | .at a=>okA a
 | .tup xs=>qY xs
 | .lst xs=>qY xs
noncomputable def qY:List X->Prop
 | []=>True
 | x::xs=>okX x/\qY xs
end
theorem Ct8 {n:Nat}(h:okA a):rd H (n+1) (aV a)=some (dA a):=by
 cases a with
 | n=>rfl
 | b t=>rfl
 | i z=>rfl
 | s w=>exact if_pos (List.all_eq_true.mpr λc hc=>decide_eq_true (h c hc))
theorem Cl1:∀ (m:Nat) (x:X) (v:V) (lo hi n:Nat),Q2 w m x->okX x->N8 H x lo hi v->m<n->rd H n v=some (dX x):=by
 intro m
 induction m with
 | zero =>
  intro x v lo hi n hf ho h hn
  cases x with
  | «at» a =>
   obtain ⟨n',rfl⟩:=hZ hn
   exact qz (show v=aV a from h) (Ct8 ho)
  | tup xs=>exact hf.elim
  | lst xs=>exact hf.elim
 | succ m ih =>
  intro x v lo hi n hf ho h hn
  obtain ⟨n',rfl⟩:=hZ hn
  have go:∀ (xs:List X) (l:List V) (p q:Nat),(∀ y∈xs,Q2 w m y)->qY xs->M1 H xs p q l->vY (rd H n') l=some (dXs xs):=by
   intro xs
   induction xs with
   | nil=>intro l p q _ _ h;refine qz h.2 ?_;rfl
   | cons y ys ihy =>
    intro l p q hf ho h
    obtain ⟨u,r,k,rfl,_,h1,h2⟩:=h
    show (match rd H n' u with | some d=>(vY (rd H n') r).map (d::·) | none=>none)=_
    refine qz (ih y u _ _ n' (hf y (.head _)) ho.1 h1 (Nat.lt_of_succ_lt_succ hn)) (qz (ihy r _ _ (λz hz=>hf z (.tail _ hz)) ho.2 h2) ?_);rfl
  cases x with
  | «at» a=>exact qz (show v=aV a from h) (Ct8 ho)
  | tup xs =>
   obtain ⟨l,rfl,h⟩:=h
   show (vY (rd H n') l).map D.tup=_
   refine qz (go xs l _ _ hf.2 ho h) ?_;rfl
  | lst xs =>
   obtain ⟨a,l,p,q,rfl,_,ha,h⟩:=h
   show (match H[a]? with | some l=>(vY (rd H n') l).map D.list | none=>none)=_
   refine qz ha ?_
   show (vY (rd H n') l).map D.list=_
   refine qz (go xs l _ _ hf.2 ho h) ?_;rfl
theorem Cl5 (hm:m<100) (hf:Q2 w m (.lst xs)) (ho:okX (.lst xs)) (h:N8 H (.lst xs) lo hi (.ref a)) (h':N8 H (.lst xs) lo' d7 (.ref b)):W5 .eq (.ref a) (.ref b) H=some true:=by
 show (match tM (V.ref a) (V.ref b) with | some t=>some t | none=>tN (.ref a) (.ref b) H)=_
 show ((rd H S2 (.ref a)).bind λx=>(rd H S2 (.ref b)).bind λy=>some (vZ x y))=_
 exact qz (Cl1 m _ _ _ _ S2 hf ho h hm) (qz (Cl1 m _ _ _ _ S2 hf ho h' hm) (D0 some (yA _)))
theorem Bu9 {x:X}(hm:m<100) (hf:Q2 w m (.lst (x::xs))) (ho:okX (.lst (x::xs))) (h:N8 H (.lst (x::xs)) lo hi (.ref a)) (hb:H[b]? = some []):W5 .eq (.ref a) (.ref b) H=some false:=by
 show ((rd H S2 (.ref a)).bind λx=>(rd H S2 (.ref b)).bind λy=>some (vZ x y))=_
 refine qz (Cl1 m _ _ _ _ S2 hf ho h hm) ?_
 have e:rd H S2 (.ref b)=some (.list []):=by
  show (match H[b]? with | some l=>(vY (rd H 99) l).map D.list | none=>none)=_
  refine qz hb ?_;rfl
 refine qz e ?_;rfl
theorem U4 (h:M1 H (.at a::xs) lo hi l):∃ r m,l=aV a::r/\lo<=m/\M1 H xs m hi r:=by
 apply Ah;intro g9 k9
 obtain ⟨v,r,m,rfl,h1,h2,h3⟩:=h
 apply k9
 exact qz (show v=aV a from h2) ⟨r,m,rfl,h1,h3⟩
theorem kH (h:M1 H (.lst ys::xs) lo hi l):∃ a r m,l=.ref a::r/\N8 H (.lst ys) lo m (.ref a)/\lo<=m/\M1 H xs m hi r:=by
 apply Ah;intro g9 k9
 obtain ⟨v,r,m,rfl,h1,⟨a,vs,p,q,rfl,hb,ha,hr⟩,h3⟩:=h
 apply k9
 exact ⟨a,r,m,rfl,⟨a,vs,p,q,rfl,hb,ha,hr⟩,h1,h3⟩
theorem cA (h:N8 H (i0 (.kept s)) lo hi v):v=wY s:=by
 obtain ⟨l,rfl,h⟩:=h
 obtain ⟨r,_,rfl,_,h⟩:=U4 h
 obtain ⟨r,_,rfl,_,h⟩:=U4 h
 refine qz h.2 ?_;rfl
theorem cB (h:N8 H (i0 (.code s b)) lo hi v):v=Bc2 s b:=by
 obtain ⟨l,rfl,h⟩:=h
 obtain ⟨r,_,rfl,_,h⟩:=U4 h
 obtain ⟨r,_,rfl,_,h⟩:=U4 h
 obtain ⟨r,_,rfl,_,h⟩:=U4 h
 refine qz h.2 ?_;rfl
theorem bY (h:N8 H (i0 (.span c ts b)) lo hi v):∃ a,v=lN c a b/\N8 H (.lst (M0 ts)) lo hi (.ref a):=by
 apply Ah;intro g9 k9
 obtain ⟨l,rfl,h⟩:=h
 obtain ⟨r,_,rfl,q1,h⟩:=U4 h
 obtain ⟨r,_,rfl,q2,h⟩:=U4 h
 obtain ⟨a,r,_,rfl,ha,_,h⟩:=kH h
 have d6:=h.le
 obtain ⟨r,_,rfl,_,h⟩:=U4 h
 apply k9
 exact qz h.2 ⟨a,rfl,ha.wide (D2 q1 q2) d6⟩
theorem bZ (h:N8 H (i0 (.link ts g b)) lo hi v):∃ a,v=X5 a g b/\N8 H (.lst (M0 ts)) lo hi (.ref a):=by
 apply Ah;intro g9 k9
 obtain ⟨l,rfl,h⟩:=h
 obtain ⟨r,_,rfl,q1,h⟩:=U4 h
 obtain ⟨a,r,_,rfl,ha,_,h⟩:=kH h
 have d6:=h.le
 obtain ⟨r,_,rfl,_,h⟩:=U4 h
 obtain ⟨r,_,rfl,_,h⟩:=U4 h
 apply k9
 exact qz h.2 ⟨a,rfl,ha.wide q1 d6⟩
theorem Cl2 {H:Heap}{ts:List T}{lo hi:Nat}{l:List V}{i:Nat}(h:M1 H (M0 ts) lo hi l) (hv:l[i]? = some v):∃ t p q,ts[i]? = some t/\lo<=p/\q<=hi/\N8 H (i0 t) p q v:=by
 obtain ⟨t,ht,hr⟩:=Av0 (Y6 ts) h hv
 exact ⟨t,lo,hi,ht,D3 _,D3 _,hr⟩
noncomputable def Sg (s:List Nat):Prop:=∀ c∈s,qU c=true
noncomputable def TO (s:List Nat):Prop:=Sg s/\∀ c∈s,c≠41
mutual
noncomputable def GT:Nat->T->Prop
 | _,.Al s=>s≠[]/\Sg s
 | _,.kept s=>s.length<=1/\Sg s
 | _,.code s _=>Sg s
 | d,.span c ts _=>d<12/\[42,95,126].contains c=true/\eV (d+1) ts
 | d,.link ts g _=>d<12/\(∀ s,g=some s->TO s)/\eV (d+1) ts
noncomputable def eV:Nat->List T->Prop
 | _,[]=>True
 | d,t::ts=>GT d t/\eV d ts
end
theorem eV.app:∀ {ts us:List T},eV d (ts++us)↔eV d ts/\eV d us:=by
 intro ts
 induction ts with
 | nil=>exact ⟨λh=>⟨trivial,h⟩,λh=>h.2⟩
 | cons t ts ih=>exact ⟨λh=>⟨⟨h.1,(ih.mp h.2).1⟩,(ih.mp h.2).2⟩,λh=>⟨h.1.1,ih.mpr ⟨h.1.2,h.2⟩⟩⟩
theorem eV.add (h:eV d ts) (k:GT d t):eV d (ts++[t]):=eV.app.mpr ⟨h,k,trivial⟩
theorem eV.get:∀ {ts:List T}{i:Nat}{t:T},eV d ts->ts[i]? = some t->GT d t
 | t::ts,0,_,h,e=>by cases e;exact h.1
 | t::ts,i+1,_,h,e=>eV.get (ts:=ts) (i:=i) h.2 e
theorem Sg.drop (h:Sg s):Sg (s.drop k):=λc hc=>h c (List.mem_of_mem_drop hc)
theorem rW (h:Sg s):∀ c∈s,c<1114112:=λc hc=>by
 have:=h c hc
 unfold qU at this
 exact D7 (of_decide_eq_true (B6 (B6 this).2).1) (by decide)
theorem okL (h:(w.all λc=>decide (c<1114112))=true):okX (.at (.s w)):=λc hc=>of_decide_eq_true (List.all_eq_true.mp h c hc)
mutual
theorem De1:∀ {d:Nat}{t:T},GT d t->okX (i0 t)
 | _,.Al s=>λh=>rW h.2
 | _,.kept s=>λh=>⟨okL rfl,rW h.2,trivial⟩
 | _,.code s b=>λh=>⟨okL rfl,rW h,trivial,trivial⟩
 | d,.span c ts b=>λh=>⟨okL rfl,λx hx=>by
   refine qz (B1 hx) ?_
   have:=h.2.1
   simp at this
   rcases this with e|e|e<;>subst e<;>decide,lO h.2.2,trivial,trivial⟩
 | d,.link ts g b=>λh=>⟨okL rfl,lO h.2.2,by cases g with | none=>exact trivial | some s=>exact rW (h.2.1 s rfl).1,trivial,trivial⟩
theorem lO:∀ {d:Nat}{ts:List T},eV d ts->qY (M0 ts)
 | _,[]=>λZ=>trivial
 | _,t::ts=>λh=>⟨De1 h.1,lO h.2⟩
end
theorem cH:cL (.tup (v::r)) (.int 0) H=some v:=by
 show (R2 ((0:Nat):Int) (v::r).length).bind _=some v
 refine qz (Z3 (k:=0) (n:=(v::r).length) (Nat.succ_pos _)) ?_;rfl
theorem N9 {n:Nat}(Q:F8) (h:Q (.bool (((r.length+1:Nat):Int)==z&&w==kd)) H):Ac P (n+1) "is_tuple" [.tup (.str w::r),.str kd,.int z] Q H:=by
 refine E9 rfl rfl ?_
 have e1:∀ {C:Calls},Ev C [some (.tup (.str w::r)),some (.str kd),some (.int z)] H (.or [.not (.Ae J0 .tuple),.cmp .ne (.len J0) J2]) (.bool (false||!(((r.length+1:Nat):Int)==z))):=R5 iq λZ=>Z8 iq
 cases hz:((r.length+1:Nat):Int)==z with
 | false =>
  rw [hz] at e1 h
  exact H7 e1 h
 | true =>
  rw [hz] at e1 h
  exact E8 e1 (O0 (K7 (b:=true) (Q0 (kF (L6 iq iq cH)) rfl) λZ=>M9 (H9 (L6 iq iq cH) iq aA)) h)
theorem Aa4 (hs:c<1114112):W5 .notin (.str [c]) (.tup [.str [42],.str [95],.str [126]]) H=some (![42,95,126].contains c):=by
 have e1:rd H S2 (.str [c])=some (.str [c]):=if_pos (by simpa using hs)
 show (Fq _ _ H).map (!·)=_
 unfold Fq
 rw [e1]
 show some (!([D.str [42],D.str [95],D.str [126]].any λy=>vZ y (.str [c])))=_
 have q:∀ a:Nat,vZ (.str [a]) (.str [c])=(c==a):=λa=>by
  show ([a]==[c])=(c==a)
  rw [Bool.eq_iff_iff,beq_iff_eq,beq_iff_eq]
  exact ⟨λh=>by cases h;rfl,λh=>qz h rfl⟩
 simp only [List.any_cons,List.any_nil,q,List.contains_cons,List.contains_nil]
noncomputable def APs (d n:Nat):Prop:=∀ (ts:List T) (a lo hi:Nat) (H:Heap) (Q:F8),eV d ts->N8 H (.lst (M0 ts)) lo hi (.ref a)->Q (.bool true) H->Ac P n "are_parts" [.ref a,.int (d:Nat)] Q H
theorem Al3 {n d lo hi:Nat}(ih:d<12->APs (d+1) (n+2)) (hg:GT d t) (hr:N8 H (i0 t) lo hi v) (Q:F8) (h:Q (.bool true) H):Ac P (n+3) "is_part" [v,.int (d:Nat)] Q H:=by
 refine E9 rfl rfl ?_
 have e12:∀ {C:Calls}{v:V},d<12->Ev C [some v,some (.int (d:Nat))] H (.cmp .ge J1 (.glob "MOST_OPEN" 12)) (.bool false):=λq=>Q0 (H9 iq iq Ck8) (decide_eq_false (λk=>Nat.not_le_of_lt q (Int.ofNat_le.mp k)))
 cases t with
 | Al s =>
  exact qz (show v=.str s from hr) (H7 iq (O0 (K7 (b:=true) (b2:=true) (Q0 iq (by simpa using hg.1)) λZ=>M9 (K4 iq (X7 hg.2))) h))
 | kept s =>
  exact qz (cA hr) (E8 iq (H7 (Q0 (K4 iq N9) rfl) (O0 (K7 (b:=true) (b2:=true) (K4 iq (X7 hg.2)) λZ=>M9 (Q0 iq (decide_eq_true (Int.ofNat_le.mpr hg.1)))) h)))
 | code s b =>
  exact qz (cB hr) (E8 iq (E8 (Q0 (K4 iq N9) rfl) (H7 (Q0 (K4 iq N9) rfl) (O0 (K7 (b:=true) (b2:=true) (K4 iq (X7 hg)) λZ=>iq) h))))
 | span c ts b =>
  obtain ⟨a,rfl,Ay⟩:=bY hr
  have hc:qU c=true:=by have:=hg.2.1;simp at this;rcases this with e|e|e<;>subst e<;>rfl
  have hs:Sg [c]:=λx hx=>qz (B1 hx) hc
  refine E8 iq (E8 (Q0 (K4 iq N9) rfl) (E8 (Q0 (K4 iq N9) rfl) (E8 (e12 hg.1) (H7 (Q0 (K4 iq N9) rfl) (E8 (R5 (b:=false) (b2:=false) (bR (t:=true) (K4 iq (X7 hs))) λZ=>Z8 (Q0 (H9 iq iq (Aa4 (rW hs c (.head _)))) (by refine qz hg.2.1 ?_;rfl))) (O0 (K7 (b:=true) (b2:=true) iq λZ=>M9 (K4 (vs:=[.ref a,.int ((d+1:Nat):Int)]) iq λQ q=>ih hg.1 ts a _ _ H Q hg.2.2 Ay q)) h))))))
 | link ts g b =>
  obtain ⟨a,rfl,Ay⟩:=bZ hr
  have eg:∀ {C:Calls},C=Ac P (n+2)->Ev C [some (X5 a g b),some (.int (d:Nat))] H (.and [.Az (.idx J0 (.int 2)) .none,.not (.call "is_row" [.idx J0 (.int 2)])]) (.bool false):=λ{C} e=>by
   subst e
   cases g with
   | none=>exact K7 (b:=false) (b2:=true) iq λq=>xF q
   | some s=>exact K7 (b:=true) (b2:=false) iq λZ=>M9 (bR (t:=true) (K4 iq (X7 (hg.2.1 s rfl).1)))
  exact E8 iq (E8 (Q0 (K4 iq N9) rfl) (E8 (Q0 (K4 iq N9) rfl) (E8 (e12 hg.1) (E8 (Q0 (K4 iq N9) rfl) (H7 (Q0 (K4 iq N9) rfl) (E8 (eg rfl) (O0 (K7 (b:=true) (b2:=true) iq λZ=>M9 (K4 (vs:=[.ref a,.int ((d+1:Nat):Int)]) iq λQ q=>ih hg.1 ts a _ _ H Q hg.2.2 Ay q)) h)))))))
theorem zJ {n d:Nat}(ih:d<12->APs (d+1) (n+2)):APs d (n+4):=by
 intro ts a lo hi H Q hg hr h
 obtain ⟨a',l,p,q,e,hb,ha,Bc⟩:=hr
 cases e
 refine E9 rfl rfl (E8 iq (M7 (Y9 (σ:=Option V) (λe=>[some (.ref a),some (.int (d:Nat)),e]) (λZ Z G=>G=H) (l:=l) (λi e G hI=>hI▸ha) (λi e G v hv hI K hK=>?_) (λe G hI=>?_) none iq rfl)))
 ·subst hI
  obtain ⟨t,p',q',ht,_,_,Dn⟩:=Cl2 Bc hv
  exact E8 (bR (t:=true) (K4 iq (Al3 ih (hg.get ht) Dn))) (hK _ _ rfl)
 ·subst hI
  exact h
theorem Cr8:∀ (m d n:Nat),d+m=12->APs d (n+2 * m+4):=by
 intro m
 induction m with
 | zero=>exact λd n h=>zJ λq=>absurd h (D1 q)
 | succ m ih=>exact λd n h=>zJ (n:=n+2 * m+2) λZ=>ih (d+1) n ((B5 d 1 m).trans h)
mutual
noncomputable def Aj:T->List Nat
 | .Al s=>s
 | .kept s=>[92]++s
 | .code s b=>[96]++s++(if b then [96] else [])
 | .span c ts b=>[c,40]++Ab ts++(if b then [41] else [])
 | .link ts g b=>match g with
  | none=>[91]++Ab ts++(if b then [93] else [])
  | some s=>[91]++Ab ts++[93,40]++s++(if b then [41] else [])
noncomputable def Ab:List T->List Nat
 | []=>[]
 | t::ts=>Aj t++Ab ts
end
theorem N7:∀ (ts us:List T),Ab (ts++us)=Ab ts++Ab us:=by
 intro ts
 induction ts with
 | nil=>exact λus=>rfl
 | cons t ts ih =>
  exact λus=>by
   show Aj t++Ab (ts++us)=Aj t++Ab ts++Ab us
   exact qz (ih us) (qz (D5 _ _ _) rfl)
theorem wM:(15800000:Nat)<=P0:=by show 15800000<=16777216;decide
theorem pre {a b:List Nat}{n:Nat}(h:(a++b).length<=n):a.length<=n:=D2 (by exact qz D4 (E1 _ _)) h
theorem suf {a b:List Nat}{n:Nat}(h:(a++b).length<=n):b.length<=n:=D2 (by exact qz D4 (A7 _ _)) h
theorem wC {n:Nat}(h:n<=15800000):n<P0:=D7 h (by show 15800000<16777216;decide)
theorem M8 (t:T):Ab [t]=Aj t:=List.append_nil _
noncomputable def pV (p:List Nat×List Nat):V:=.tup [.str p.1,.str p.2]
noncomputable def Pc (ps:List V) (s:List Nat):Prop:=∃ ks:List (List Nat×List Nat),ps=ks.map pV/\(ks.map (·.2)).flatten=s/\∀ p∈ks,p.2≠[]
theorem Pc.nil:Pc [] []:=⟨[],rfl,rfl,λp hp=>xL hp⟩
theorem Pc.app (h:Pc ps s) (k:Pc qs t):Pc (ps++qs) (s++t):=by
 obtain ⟨ks,rfl,rfl,h1⟩:=h
 obtain ⟨js,rfl,rfl,h2⟩:=k
 refine ⟨ks++js,(C3).symm,qz C3 (qz List.flatten_append rfl),λp hp=>?_⟩
 rcases C0 hp with q|q
 ·exact h1 p q
 ·exact h2 p q
theorem Pc.one (ht:t≠[]):Pc [.tup [.str k,.str t]] t:=⟨[(k,t)],rfl,List.append_nil _,λp hp=>qz (B1 hp) ht⟩
theorem Ak7:∀ ks:List (List Nat×List Nat),(∀ p∈ks,p.2≠[])->ks.length<=(ks.map (·.2)).flatten.length:=by
 intro ks
 induction ks with
 | nil=>exact λZ=>D3 _
 | cons k ks ih =>
  exact λh=>by
   have h1:=List.length_pos_iff.mpr (h k (.head _))
   have h2:=ih λp hp=>h p (.tail _ hp)
   show ks.length+1<=(k.2++(ks.map (·.2)).flatten).length
   exact qz D4 (qz (Nat.add_comm _ _) (B3 h1 h2))
theorem Pc.len (h:Pc ps s):ps.length<=s.length:=by
 obtain ⟨ks,rfl,rfl,h1⟩:=h
 exact qz (E3 _) (Ak7 ks h1)
theorem T9 {n mk:Nat}{k t s:List Nat}{ps ps0:List V}{Q:F8}{H:Heap}(hm:H[mk]? = some ps0) (hp:Pc ps s) (hl:s.length<P0) (h:∀ l5,Pc l5 (s++t)->Q .none (H.set mk l5)):Ac P (n+1) "put_piece" [.ref mk,.str k,.str t] Q (H.set mk ps):=by
 refine E9 rfl rfl ?_
 by_cases ht:t=[]
 ·subst ht
  rw [List.append_nil] at h
  exact E8 iq (h ps hp)
 ·refine H7 (Q0 iq (by simpa using ht)) (N3 iq iq (eZ hm) (D7 hp.len hl) ?_)
  exact qz (List.set_set _) (h _ (hp.app (.one ht)))
noncomputable def PPs (d n:Nat):Prop:=∀ (H:Heap) (ts:List T) (a lo hi mk:Nat) (ps0 ps:List V) (s:List Nat) (Q:F8),eV d ts->N8 H (.lst (M0 ts)) lo hi (.ref a)->hi<=mk->H[mk]? = some ps0->Pc ps s->(s++Ab ts).length<=15800000 ->
 (∀ l5,Pc l5 (s++Ab ts)->Q .none (H.set mk l5))->Ac P n "put_pieces" [.ref a,.ref mk] Q (H.set mk ps)
theorem mV {n mk:Nat}{w s:List Nat}{ps ps0:List V}{ρ:M6}{x:Nat}{ss:List S}{R:O3}{H:Heap}(hm:H[mk]? = some ps0) (hp:Pc ps s) (hl:s.length<P0) (he:Ev (Ac P (n+1)) ρ (H.set mk ps) e (.bool b)) (hx:ρ[x]? = some (some (.ref mk)))
  (h:∀ l5,Pc l5 (s++(if b then w else []))->K1 (Ac P (n+1)) ss ρ R (H.set mk l5)):K1 (Ac P (n+1)) (.ite e [.expr (.call "put_piece" [.var x,.str [109,97,114,107],.str w])] []::ss) ρ R (H.set mk ps):=by
 cases b with
 | true=>exact H7 he (P8 (I8 (iL hx) iq) (T9 hm hp hl λl5 hp'=>oD (iZ (h l5 hp'))))
 | false=>exact E8 he (h ps (qz (show (if false=true then w else [])=[] from rfl) (qz (List.append_nil _) hp)))
theorem Bq4 {n d a lo hi mk:Nat}(ih:PPs (d+1) (n+1)) (hg:GT d (.link ts g b)) (hr:N8 H (.lst (M0 ts)) lo hi (.ref a)) (hh:hi<=mk) (hm:H[mk]? = some ps0) (hp:Pc ps s) (hl:(s++Aj (.link ts g b)).length<=15800000)
  (h:∀ l5,Pc l5 (s++Aj (.link ts g b))->Q .none (H.set mk l5)):Ac P (n+2) "link_pieces" [X5 a g b,.ref mk] Q (H.set mk ps):=by
 have h1:(s++[91]++Ab ts).length<=15800000:=by
  cases g with
  | none =>
   replace hl:(s++([91]++Ab ts++(if b then [93] else []))).length<=15800000:=hl
   rw [<- D5,<- D5] at hl
   exact pre hl
  | some w =>
   replace hl:(s++([91]++Ab ts++[93,40]++w++(if b then [41] else []))).length<=15800000:=hl
   rw [<- D5,<- D5,<- D5,<- D5] at hl
   exact pre (pre (pre hl))
 have hs:s.length<P0:=wC (pre (pre h1))
 refine E9 rfl rfl (P8 iq (T9 hm hp hs λps1 hp1=>P8 iq (ih H ts a lo hi mk ps0 ps1 _ _ hg.2.2 hr hh hm hp1 h1 λps2 hp2=>?_)))
 cases g with
 | none =>
  refine H7 iq (mV (b:=b) (w:=[93]) hm hp2 (wC h1) iq rfl λps3 hp3=>h ps3 ?_)
  rw [D5,D5] at hp3
  show Pc ps3 (s++([91]++Ab ts++(if b then [93] else [])))
  exact qz (D5 _ _ _) hp3
 | some w =>
  have e0:(s++Aj (.link ts (some w) b))=(((s++[91]++Ab ts)++[93,40])++w)++(if b then [41] else []):=by
   show s++([91]++Ab ts++[93,40]++w++_)=_
   simp only [D5]
  rw [e0] at h hl
  have h2:(((s++[91]++Ab ts)++[93,40])++w).length<=15800000:=pre hl
  exact E8 iq (P8 iq (T9 hm hp2 (wC h1) λps3 hp3=>P8 iq (T9 hm hp3 (wC (pre h2)) λps4 hp4=>mV (b:=b) (w:=[41]) hm hp4 (wC h2) iq rfl λps5 hp5=>h ps5 hp5)))
noncomputable abbrev PZ:=List V×Option V
theorem yR {n d:Nat}(ih:d<12->PPs (d+1) (n+2)) (n9:d<12->PPs (d+1) (n+1)):PPs d (n+3):=by
 intro H ts a lo hi mk ps0 ps s Q hg hr hh hm hp hl hQ
 apply Ah;intro g9 k9
 obtain ⟨a',l,p,q,e,hb,ha,Bc⟩:=hr
 apply k9
 cases e
 have ham:mk≠a:=Nat.ne_of_gt (D6 hb.ah hh)
 refine E9 rfl rfl (M7 (Y9 (σ:=PZ) (λz=>[some (.ref a),some (.ref mk),z.2]) (λi z G=>G=H.set mk z.1/\Pc z.1 (s++Ab (ts.take i))) (l:=l) (λi z G hI=>?_) (λi z G v hv hI K hK=>?_) (λz G hI=>?_) ⟨ps,none⟩ iq ⟨rfl,qz (show Ab (ts.take 0)=[] from rfl) (qz (List.append_nil _) hp)⟩))
 ·exact qz hI.1 (qz (A9 ham) ha)
 ·apply Ah;intro g9 k9
  obtain ⟨rfl,hpz⟩:=hI
  obtain ⟨t,p',q',ht,hp',hq',Dn⟩:=Cl2 Bc hv
  apply k9
  have hgt:=hg.get ht
  have ek:Ab (ts.take (i+1))=Ab (ts.take i)++Aj t:=qz List.take_add_one (qz ht (qz (N7 _ _) (D0 _ (M8 t))))
  have hq:q'<=mk:=D2 hq' (D2 hb.qh hh)
  have b7:((s++Ab (ts.take i))++Aj t).length<=15800000:=by
   refine D2 ?_ hl
   refine qz (D5 _ _ _) (qz ek.symm (qz D4 (qz D4 ?_)))
   have:=D0 List.length (N7 (ts.take (i+1)) (ts.drop (i+1)))
   rw [List.take_append_drop,D4] at this
   exact qz this (A6 (E1 _ _) _)
  have fin:∀ {l5:List V}{R:O3}{w:V},(∀ ρ G,K ρ G->R .next ρ G)->Pc l5 ((s++Ab (ts.take i))++Aj t)->R .next [some (.ref a),some (.ref mk),some w] (H.set mk l5):=λ{l5 R w} hR hp'=>hR _ _ (hK ⟨l5,some w⟩ _ ⟨rfl,qz ek (qz (Eq.symm (D5 _ _ _)) hp')⟩)
  generalize s++Ab (ts.take i)=u at hpz b7 fin
  have hu:u.length<P0:=wC (pre b7)
  cases t with
  | Al w =>
   exact qz (show v=.str w from Dn) (H7 iq (P8 iq (T9 hm hpz hu λps1 hp1=>fin (λZ Z h=>h) hp1)))
  | kept w =>
   refine qz (cA Dn) ?_
   replace b7:(u++([92]++w)).length<=15800000:=b7
   rw [<- D5] at b7
   refine G8 iq (H7 iq (P8 iq (T9 hm hpz hu λps1 hp1=>P8 iq (T9 hm hp1 (wC (pre b7)) λps2 hp2=>fin (λZ Z h=>h) ?_))))
   rw [D5] at hp2;exact hp2
  | code w b =>
   refine qz (cB Dn) ?_
   have e0:u++Aj (.code w b)=((u++[96])++w)++(if b then [96] else []):=by
    show u++([96]++w++_)=_
    simp only [D5]
   rw [e0] at b7 fin
   have h2:((u++[96])++w).length<=15800000:=pre b7
   exact G8 iq (G8 iq (H7 iq (P8 iq (T9 hm hpz hu λps1 hp1=>P8 iq (T9 hm hp1 (wC (pre h2)) λps2 hp2=>mV (b:=b) (w:=[96]) hm hp2 (wC h2) iq rfl λps3 hp3=>fin (λZ Z h=>h) hp3)))))
  | span c us b =>
   obtain ⟨a2,rfl,Ay⟩:=bY Dn
   have e0:u++Aj (.span c us b)=((u++([c]++[40]))++Ab us)++(if b then [41] else []):=by
    show u++([c,40]++Ab us++_)=_
    simp only [D5];rfl
   rw [e0] at b7 fin
   have h2:((u++([c]++[40]))++Ab us).length<=15800000:=pre b7
   exact G8 iq (G8 iq (G8 iq (H7 iq (P8 (I8 iq (I8 iq (I8 (K0 iq iq (bC (by show 2<=P0;decide))) Q7))) (T9 hm hpz hu λps1 hp1=>P8 iq (ih hgt.1 H us a2 _ _ mk ps0 ps1 _ _ hgt.2.2 Ay hq hm hp1 h2 λps2 hp2=>mV (b:=b) (w:=[41]) hm hp2 (wC h2) iq rfl λps3 hp3=>fin (λZ Z h=>h) hp3))))))
  | link us g b =>
   obtain ⟨a2,rfl,Ay⟩:=bZ Dn
   exact G8 iq (G8 iq (G8 iq (G8 iq (P8 iq (Bq4 (n9 hgt.1) hgt Ay hq hm hpz b7 λps1 hp1=>fin (λZ Z h=>h) hp1)))))
 ·obtain ⟨rfl,hpz⟩:=hI
  rw [Bc.len,V9,List.take_length] at hpz
  exact hQ z.1 hpz
theorem Co9:∀ (m d n:Nat),d+m=12->PPs d (n+2 * m+3):=by
 intro m
 induction m with
 | zero=>exact λd n h=>yR (λq=>absurd h (D1 q)) (λq=>absurd q (by exact Nat.not_lt_of_le (S5 (A4 h.symm))))
 | succ m ih =>
  exact λd n h=>yR (n:=n+2 * m+2) (λZ=>by
    have:=ih (d+1) (n+1) (nV h)
    rw [show n+1+2 * m+3=n+2 * m+2+2 from D0 (· + 3) (B5 n 1 (2 * m))] at this
    exact this) λZ=>ih (d+1) n (nV h)
theorem eI {n a lo hi:Nat}(hg:eV 0 ts) (hr:N8 H (.lst (M0 ts)) lo hi (.ref a)) (hh:hi<=H.length) (hl:(Ab ts).length<=15800000) (h:∀ ps,Pc ps (Ab ts)->Q (.ref H.length) (H++[ps])):Ac P (n+28) "pieces_of" [.ref a] Q H:=by
 have hset:∀ ps,(H++[[]]).set H.length ps=H++[ps]:=λps=>by refine qz (List.set_append_right _ _ (D3 _)) (qz (Nat.sub_self _) ?_);rfl
 refine E9 rfl rfl (P5 (H1:=H++[[]]) iq (P8 iq ?_))
 have:=Co9 12 0 n rfl (H++[[]]) ts a lo hi H.length [] [] [] (λv Hw=>K1 (Ac P (n+27)) [.ret J1] [some (.ref a),some (.ref H.length)] (S1 Q) Hw) hg (hr.to (R1.one hh)) hh K6 .nil hl λps hp=>(hset ps).symm▸h ps hp
 rw [hset] at this
 exact this
theorem Ag7 (h:H[a]? = some l) (i:Nat):(It.lst a).at H i=l[i]?:=by
 show (match H[a]? with | some l=>l[i]? | none=>none)=_
 exact qz h rfl
theorem yW {n:Nat}{ps:List V}{s:List Nat}{Q:F8}{ρ:M6}{x b:Nat}{H:Heap}(hx:x<ρ.length) (hp:Pc ps s) (hl:s.length<=15800000) (hb:H[b]? = some ps) (h:∀ l,Q (.str s) (H++[l])) :
  ∃ m,bS (L0 (Ac P n) (.idx (.var x) (.int 1))) x ρ (.lst b) m 0 [] (λvs Hz=>lL [] (.ref Hz.length) Q (Hz++[vs])) H:=by
 have hlim:P0=16777216:=rfl
 have hpl:=hp.len
 obtain ⟨ks,rfl,hks,f6⟩:=hp
 refine yB _ (λv=>match v with | .tup [_,w]=>w | _=>.none) (Ag7 hb) (D2 hpl (D2 hl wM)) (λv hv K hK=>?_) ?_
 ·obtain ⟨p,_,rfl⟩:=List.mem_map.mp hv
  exact rT (eY (v:=pV p) (qz (B9 hx) rfl) (Ch3 hK))
 ·have e:(ks.map pV).map (λv=>match v with | .tup [_,w]=>w | _=>.none)=(ks.map (·.2)).map V.str:=by refine qz List.map_map (qz List.map_map ?_);rfl
  refine qz e ?_
  refine Ch1 (ks.map (·.2)) K6 ?_ ?_
  ·refine qz List.length_flatten.symm (qz hks ?_);show s.length+_ * 0<=P0;exact qz (Nat.mul_zero _) (D2 hl wM)
  ·exact qz (xT _) (qz hks (h _))
theorem sP {n a lo hi:Nat}(hg:eV 0 ts) (hr:N8 H (.lst (M0 ts)) lo hi (.ref a)) (hh:hi<=H.length) (hl:(Ab ts).length<=15800000) (h:∀ l l',Q (.str (Ab ts)) (H++[l]++[l'])):Ac P (n+29) "row_of" [.ref a] Q H :=
 E9 rfl rfl (aH (Bc7 iq (Bg7 (P7 (K5 (v:=.ref a) iq (K8 (eI hg hr hh hl λps hp=>yW (by show 1<2;decide) hp hl K6 λl=>h ps l)))))))
noncomputable def cR:Option Nat->List Nat
 | some c=>[c,40]
 | none=>[91]
noncomputable def Bg:T2->List T->List Nat
 | [],b6=>Ab b6
 | (kd,p)::b4,b6=>Bg b4 p++cR kd++Ab b6
theorem cY:∀ (b4:T2) (b6 us:List T),Bg b4 (b6++us)=Bg b4 b6++Ab us
 | []=>λb6 us=>N7 b6 us
 | (kd,p)::b4=>λb6 us=>by
  show Bg b4 p++cR kd++Ab (b6++us)=Bg b4 p++cR kd++Ab b6++Ab us
  exact qz (N7 _ _) (qz (Eq.symm (D5 _ _ _)) rfl)
inductive Kd where
 | top | sp | lb
noncomputable def eT:T2->Kd
 | []=>.top
 | (some _,_)::_=>.sp
 | (none,_)::_=>.lb
structure W3 (deep:Nat) (kd:Kd) (s:List Nat):Prop where
 ne:s≠[]
 all:∀ c∈s,c≠92/\c≠96/\(kd=.sp->c≠41)/\(kd=.lb->c≠93)/\(deep<12->c≠91)
 pair:deep<12->∀ a b c,s=a++c::40::b->[42,95,126].contains c=false
noncomputable def eO (ts:List T):Prop:=∀ us s,ts≠us++[.Al s]
noncomputable def bF (ts:List T):Prop:=∃ us vs,ts=us++[.link vs none true]
inductive R7:Nat->Kd->List T->Prop
 | nil {deep:Nat}{kd:Kd}:R7 deep kd []
 | Al {deep:Nat}{kd:Kd}{ts:List T}{s:List Nat}:R7 deep kd ts->eO ts->W3 deep kd s->(bF ts->s.take 1≠[40])->R7 deep kd (ts++[.Al s])
 | kept {deep:Nat}{kd:Kd}{ts:List T}{c:Nat}:R7 deep kd ts->R7 deep kd (ts++[.kept [c]])
 | code {deep:Nat}{kd:Kd}{ts:List T}{s:List Nat}:R7 deep kd ts->(∀ c∈s,c≠96)->R7 deep kd (ts++[.code s true])
 | span {deep c:Nat}{kd:Kd}{ts us:List T}:R7 deep kd ts->deep<12->[42,95,126].contains c=true->R7 (deep+1) .sp us->R7 deep kd (ts++[.span c us true])
 | link {deep:Nat}{kd:Kd}{ts us:List T}{g:Option (List Nat)}:R7 deep kd ts->deep<12->(∀ s,g=some s->∀ c∈s,c≠41)->R7 (deep+1) .lb us->R7 deep kd (ts++[.link us g true])
theorem W9 (u:List Nat) (x:Nat) (v:List Nat):(u++x::v)[u.length]? = some x:=by
 refine qz (List.getElem?_append_right (D3 _)) (qz (Nat.sub_self _) ?_);rfl
theorem vA (u:List Nat) (x:Nat) (v:List Nat):(u++x::v).drop (u.length+1)=v:=by
 refine qz List.drop_append ?_;simp
theorem lP (u:List Nat) (x:Nat) (v:List Nat):nx (u++x::v) u.length=v.take 1:=by
 unfold nx;exact qz (vA _ _ _) rfl
theorem pK:∀ {t v:List Nat},(∀ x∈t,x≠c)->idx? c (t++c::v)=some t.length
 | [],v,_=>if_pos rfl
 | x::t,v,h=>by
  have h1:¬ x=c:=h x (by simp)
  show (if x=c then some 0 else (idx? c (t++c::v)).map (· + 1))=_
  refine qz (if_neg h1) (qz (pK λy hy=>h y (C5 _ hy)) ?_);rfl
theorem sX:∀ {t:List Nat},(∀ x∈t,x≠c)->idx? c t=none:=by
 intro t
 induction t with
 | nil=>exact λZ=>rfl
 | cons x t ih =>
  exact λh=>by
   have h1:¬ x=c:=h x (by simp)
   show (if x=c then some 0 else (idx? c t).map (· + 1))=_
   refine qz (if_neg h1) (qz (ih λy hy=>h y (C5 _ hy)) ?_);rfl
noncomputable def part (ts:List T) (s:List Nat):List T:=if s=[] then ts else ts++[.Al s]
theorem Bp6 (hd:eO ts):cC (part ts s) c=part ts (s++[c]):=by
 unfold part
 refine qz (if_neg (by simp:¬ s++[c]=[])) ?_
 by_cases h:s=[]
 ·refine qz (if_pos h) (qz h ?_)
  unfold cC
  rcases List.eq_nil_or_concat ts with rfl|⟨us,t,rfl⟩
  ·rfl
  ·rw [List.concat_eq_append] at hd ⊢
   refine qz List.getLast?_append ?_
   simp only [List.getLast?_singleton,Option.some_or]
   cases t with
   | Al s'=>exact absurd rfl (hd us s')
   | kept _=>rfl
   | code _ _=>rfl
   | span _ _ _=>rfl
   | link _ _ _=>rfl
 ·refine qz (if_neg h) ?_
  unfold cC
  refine qz List.getLast?_append ?_
  simp only [List.getLast?_singleton,Option.some_or,List.dropLast_concat]
theorem Ce3 {b4:T2}(h:eT b4=kd):iA b4=true->kd=.sp:=by
 intro q
 subst h
 match b4,q with
 | (some _,_)::_,_=>rfl
theorem Br1 {b4:T2}(h:eT b4=kd):dZ b4=true->kd=.lb:=by
 intro q
 subst h
 match b4,q with
 | (none,_)::_,_=>rfl
theorem qF {row:List Nat}{b4:T2}(hk:eT b4=kd) (hn:eO ts) (hp:W3 b4.length kd s):∀ (b a u v:List Nat),s=a++b->row=u++a++b++v->(b.getLast? = none∨v.take 1≠[40]∨∃ c,b.getLast? = some c/\[42,95,126].contains c=false) ->
  P2 row (u.length+a.length+b.length) (part ts (a++b)) b4 r->P2 row (u.length+a.length) (part ts a) b4 r
 | []=>λa u v Z Z Z h=>by simpa using h
 | c::b=>λa u v es e hv h=>by
  have hc:=hp.all c (by refine qz es ?_;simp)
  have e1:row=(u++a)++c::(b++v):=by refine qz e ?_;simp
  have hg:row[u.length+a.length]? = some c:=by
   exact qz e1 (qz List.length_append.symm (W9 _ _ _))
  have hnx:nx row (u.length+a.length)=(b++v).take 1:=by
   exact qz e1 (qz List.length_append.symm (lP _ _ _))
  refine .plain hg hc.1 hc.2.1 (λh12=>?_) (λq=>?_) (λq=>?_) ?_
  ·unfold qV
   have h91:(c==91)=false:=by simpa using hc.2.2.2.2 h12
   refine qz h91 (qz (Bool.false_or _) (qz hnx ?_))
   cases Cs:[42,95,126].contains c with
   | false=>rfl
   | true =>
    refine qz (Bool.true_and _) ?_
    cases b with
    | nil =>
     rcases hv with q|q|⟨x,q,qx⟩
     ·simp at q
     ·simpa using q
     ·have:x=c:=by simpa using q.symm
      subst this
      rw [Cs] at qx;cases qx
    | cons y b =>
     by_cases hy:y=40
     ·subst hy
      have:=hp.pair h12 a b c es
      rw [Cs] at this;cases this
     ·simpa using hy
  ·cases hs:iA b4 with
   | false=>rfl
   | true=>exact absurd q (hc.2.2.1 (Ce3 hk hs))
  ·cases hs:dZ b4 with
   | false=>rfl
   | true=>exact absurd q (hc.2.2.2.1 (Br1 hk hs))
  ·refine qz (Bp6 hn) ?_
   have ih:=qF (row:=row) (r:=r) (b4:=b4) (s:=s) hk hn hp b (a++[c]) u v (by refine qz es ?_;simp) (by refine qz e ?_;simp) ?_
   ·have e2:u.length+(a++[c]).length=u.length+a.length+1:=by simp;exact Nat.le_antisymm ((by simp +arith only)) ((by simp +arith only))
    rw [e2] at ih
    refine ih ?_
    have e3:u.length+a.length+1+b.length=u.length+a.length+(c::b).length:=by simp;exact Nat.le_antisymm ((by simp +arith only)) ((by simp +arith only))
    have e4:a++[c]++b=a++c::b:=by simp
    exact qz e3 (qz e4 h)
   ·cases b with
    | nil=>exact Or.inl rfl
    | cons y b =>
     rcases hv with q|q|q
     ·simp at q
     ·exact Or.inr (Or.inl q)
     ·refine Or.inr (Or.inr ?_)
      simpa using q
noncomputable def De5 (ts:List T) (v:List Nat):Prop:=(bF ts∨∃ us s,ts=us++[.Al s])->v.take 1≠[40]
theorem vW (h:∀ x∈t,x≠96):Y4 (u++96::(t++96::v)) u.length=(.code t true,u.length+(t.length+2)):=by
 unfold Y4
 refine qz (vA _ _ _) (qz (pK h) ?_)
 simp only [List.take_left']
 have:u.length+1+t.length+1=u.length+(t.length+2):=by refine qz (B5 u.length 1 _) ?_;rfl
 exact qz this rfl
theorem Am4 (h:∀ x∈t,x≠96):Y4 (u++96::t) u.length=(.code t false,(u++96::t).length):=by
 unfold Y4
 exact qz (vA _ _ _) (qz (sX h) rfl)
theorem Al2 (h:v.take 1≠[40]):U6 (u++93::v) u.length ts=(.link ts none true,u.length+1):=by
 unfold U6
 exact qz (lP _ _ _) (qz (if_neg h) rfl)
theorem zE (u v:List Nat) (x y:Nat):(u++x::y::v).drop (u.length+2)=v:=by
 refine qz List.drop_append ?_;simp
theorem Bq5 (h:∀ x∈g,x≠41):U6 (u++93::40::(g++41::v)) u.length ts=(.link ts (some g) true,u.length+(g.length+3)):=by
 unfold U6
 refine qz (lP _ _ _) (qz (if_pos (show List.take 1 (40::(g++41::v))=[40] from rfl)) (qz (zE _ _ _ _) (qz (pK h) ?_)))
 simp only [List.take_left']
 have:u.length+2+g.length+1=u.length+(g.length+3):=by refine qz (B5 u.length 2 _) ?_;rfl
 exact qz this rfl
theorem Al1 (h:∀ x∈g,x≠41):U6 (u++93::40::g) u.length ts=(.link ts (some g) false,(u++93::40::g).length):=by
 unfold U6
 exact qz (lP _ _ _) (qz (if_pos (show List.take 1 (40::g)=[40] from rfl)) (qz (zE _ _ _ _) (qz (sX h) rfl)))
theorem Ac3 (h:bF (ts++[t])):∃ vs,t=.link vs none true:=by
 obtain ⟨a,b,e⟩:=h
 obtain ⟨_,e2⟩:=List.append_inj' e rfl
 exact ⟨b,by simpa using e2⟩
theorem Al0 {ts:List T}{us:List T}{s:List Nat}(h:ts++[t]=us++[.Al s]):t=.Al s:=by
 obtain ⟨_,e2⟩:=List.append_inj' h rfl
 simpa using e2
theorem wW {u w x:List Nat}:u.length+(w++x).length=(u++w).length+x.length:=qz D4 (qz D4 (qz (C2 _ _ _) rfl))
theorem Cj1 {A p w q:List Nat}:A.length+(p++w++q).length=(A++p++w).length+q.length:=by simp only [D4,C2]
theorem Cx5 {A w g:List Nat}:A.length+([91]++w++[93,40]++g++[41]).length=(A++[91]++w).length+(g.length+3):=by
 simp only [D4,C2]
 refine qz (Nat.add_comm [93,40].length _) ?_;rfl
theorem rk:Aj (.kept s)=92::s:=rfl
theorem rc:Aj (.code s b)=96::(s++if b then [96] else []):=rfl
theorem rs:Aj (.span c us b)=c::40::(Ab us++if b then [41] else []):=rfl
theorem rn:Aj (.link us none b)=91::(Ab us++if b then [93] else []):=rfl
theorem rl:Aj (.link us (some g) b)=[91]++Ab us++[93,40]++g++if b then [41] else []:=rfl
theorem R7.read {deep:Nat}(h:R7 deep kd ts):∀ (u v:List Nat) (b4:T2) (r:List T),b4.length=deep->eT b4=kd->De5 ts v ->
  P2 (u++Ab ts++v) (u.length+(Ab ts).length) ts b4 r->P2 (u++Ab ts++v) u.length [] b4 r:=by
 induction h with
 | nil=>intro u v b4 r _ _ _ h;exact h
 | @Al deep kd ts s hg hn hp hbar ih =>
  intro u v b4 r hc hk Dm h
  rw [N7,M8] at h ⊢
  have e:u++(Ab ts++s)++v=u++Ab ts++(s++v):=by simp
  have e':u++(Ab ts++Aj (.Al s))++v=u++Ab ts++(s++v):=e
  rw [e'] at h ⊢
  have hs1:(s++v).take 1=s.take 1:=by
   cases s with
   | nil=>exact absurd rfl hp.ne
   | cons x s=>rfl
  refine ih u (s++v) b4 r hc hk (λq=>?_) ?_
  ·refine qz hs1 ?_
   rcases q with q|⟨us,s',q⟩
   ·exact hbar q
   ·exact absurd q (hn us s')
  ·have hv:v.take 1≠[40]:=Dm (Or.inr ⟨ts,s,rfl⟩)
   have hpl:W3 b4.length kd s:=qz hc hp
   have:=qF (row:=u++Ab ts++(s++v)) (ts:=ts) (r:=r) hk hn hpl s [] (u++Ab ts) v rfl (by simp) (Or.inr (Or.inl hv))
   simp only [List.length_nil,Nat.add_zero,List.nil_append,D4] at this
   have e1:part ts s=ts++[.Al s]:=by unfold part;exact qz (if_neg hp.ne) rfl
   have e2:part ts []=ts:=by unfold part;exact qz (if_pos rfl) rfl
   rw [e1,e2] at this
   refine this ?_
   have e3:u.length+(Ab ts++Aj (.Al s)).length=u.length+(Ab ts).length+s.length:=by
    show u.length+(Ab ts++s).length=_
    exact qz D4 ((C2 ..).symm)
   rw [e3] at h;exact h
 | @kept deep kd ts c hg ih =>
  intro u v b4 r hc hk Dm h
  rw [N7,M8] at h ⊢
  have e:u++(Ab ts++Aj (.kept [c]))++v=u++Ab ts++(92::c::v):=by simp [rk]
  rw [e] at h ⊢
  refine ih u _ b4 r hc hk (λZ=>by simp) ?_
  refine qz List.length_append.symm ?_
  refine .kept (W9 _ _ _) ?_
  refine qz (lP _ _ _) ?_
  have e2:u.length+(Ab ts++Aj (.kept [c])).length=(u++Ab ts).length+2:=wW
  rw [e2] at h
  exact h
 | @code deep kd ts s hg hs ih =>
  intro u v b4 r hc hk Dm h
  rw [N7,M8] at h ⊢
  have e:u++(Ab ts++Aj (.code s true))++v=u++Ab ts++(96::(s++96::v)):=by simp [rc]
  rw [e] at h ⊢
  refine ih u _ b4 r hc hk (λZ=>by simp) ?_
  refine qz List.length_append.symm ?_
  refine .code (W9 _ _ _) ?_
  refine qz (vW hs) ?_
  have e2:u.length+(Ab ts++Aj (.code s true)).length=(u++Ab ts).length+(s.length+2):=wW.trans (D0 (λk=>(u++Ab ts).length+(k+1)) (D4 (as:=s) (bs:=[96])))
  rw [e2] at h
  exact h
 | @span deep c kd ts us hg hd Cs hus ih ihu =>
  intro u v b4 r hc hk Dm h
  rw [N7,M8] at h ⊢
  have e:u++(Ab ts++Aj (.span c us true))++v=u++Ab ts++(c::40::(Ab us++41::v)):=by simp [rs]
  rw [e] at h ⊢
  have hc40:c≠40:=by rintro rfl;simp at Cs
  refine ih u _ b4 r hc hk (λZ=>by simpa using hc40) ?_
  refine qz List.length_append.symm ?_
  refine .span (c:=c) (W9 _ _ _) Cs (by refine qz (lP _ _ _) ?_;rfl) (hc▸hd) ?_
  have eu:u++Ab ts++(c::40::(Ab us++41::v))=(u++Ab ts++[c,40])++Ab us++41::v:=by simp
  have el:(u++Ab ts).length+2=(u++Ab ts++[c,40]).length:=(D4 (as:=u++Ab ts) (bs:=[c,40])).symm
  rw [eu] at h ⊢
  refine qz el ?_
  refine ihu (u++Ab ts++[c,40]) (41::v) ((some c,ts)::b4) r (by simp [hc]) rfl (λZ=>by simp) ?_
  refine qz List.length_append.symm ?_
  refine .shutS (W9 _ _ _) ?_
  have e2:u.length+(Ab ts++Aj (.span c us true)).length=(u++Ab ts++[c,40]++Ab us).length+1:=wW.trans (Cj1 (p:=[c,40]) (q:=[41]))
  rw [e2] at h
  exact h
 | @link deep kd ts us g hg hd hgg hus ih ihu =>
  intro u v b4 r hc hk Dm h
  rw [N7,M8] at h ⊢
  cases g with
  | none =>
   have hv:v.take 1≠[40]:=Dm (Or.inl ⟨ts,us,rfl⟩)
   have e:u++(Ab ts++Aj (.link us none true))++v=u++Ab ts++(91::(Ab us++93::v)):=by simp [rn]
   rw [e] at h ⊢
   refine ih u _ b4 r hc hk (λZ=>by simp) ?_
   refine qz List.length_append.symm ?_
   refine .label (W9 _ _ _) (hc▸hd) ?_
   have eu:u++Ab ts++(91::(Ab us++93::v))=(u++Ab ts++[91])++Ab us++93::v:=by simp
   have el:(u++Ab ts).length+1=(u++Ab ts++[91]).length:=(D4 (as:=u++Ab ts) (bs:=[91])).symm
   rw [eu] at h ⊢
   refine qz el ?_
   refine ihu (u++Ab ts++[91]) (93::v) ((none,ts)::b4) r (by simp [hc]) rfl (λZ=>by simp) ?_
   refine qz List.length_append.symm ?_
   refine .Fe (W9 _ _ _) ?_
   refine qz (Al2 hv) ?_
   have e2:u.length+(Ab ts++Aj (.link us none true)).length=(u++Ab ts++[91]++Ab us).length+1:=wW.trans (Cj1 (p:=[91]) (q:=[93]))
   rw [e2] at h
   exact h
  | some g =>
   have e:u++(Ab ts++Aj (.link us (some g) true))++v=u++Ab ts++(91::(Ab us++93::40::(g++41::v))):=by simp [rl]
   rw [e] at h ⊢
   refine ih u _ b4 r hc hk (λZ=>by simp) ?_
   refine qz List.length_append.symm ?_
   refine .label (W9 _ _ _) (hc▸hd) ?_
   have eu:u++Ab ts++(91::(Ab us++93::40::(g++41::v)))=(u++Ab ts++[91])++Ab us++93::40::(g++41::v):=by simp
   have el:(u++Ab ts).length+1=(u++Ab ts++[91]).length:=(D4 (as:=u++Ab ts) (bs:=[91])).symm
   rw [eu] at h ⊢
   refine qz el ?_
   refine ihu (u++Ab ts++[91]) (93::40::(g++41::v)) ((none,ts)::b4) r (by simp [hc]) rfl (λZ=>by simp) ?_
   refine qz List.length_append.symm ?_
   refine .Fe (W9 _ _ _) ?_
   refine qz (Bq5 (hgg g rfl)) ?_
   have e2:u.length+(Ab ts++Aj (.link us (some g) true)).length=(u++Ab ts++[91]++Ab us).length+(g.length+3):=wW.trans Cx5
   rw [e2] at h
   exact h
inductive jY:Nat->Kd->List T->Prop
 | good {deep:Nat}{kd:Kd}{ts:List T}:R7 deep kd ts->jY deep kd ts
 | kept {deep:Nat}{kd:Kd}{ts:List T}:R7 deep kd ts->jY deep kd (ts++[.kept []])
 | code {deep:Nat}{kd:Kd}{ts:List T}{s:List Nat}:R7 deep kd ts->(∀ c∈s,c≠96)->jY deep kd (ts++[.code s false])
 | span {deep c:Nat}{kd:Kd}{ts us:List T}:R7 deep kd ts->deep<12->[42,95,126].contains c=true->jY (deep+1) .sp us->jY deep kd (ts++[.span c us false])
 | bare {deep:Nat}{kd:Kd}{ts us:List T}:R7 deep kd ts->deep<12->jY (deep+1) .lb us->jY deep kd (ts++[.link us none false])
 | link {deep:Nat}{kd:Kd}{ts us:List T}{g:List Nat}:R7 deep kd ts->deep<12->(∀ c∈g,c≠41)->R7 (deep+1) .lb us->jY deep kd (ts++[.link us (some g) false])
theorem jY.read {deep:Nat}(h:jY deep kd ts):∀ (u:List Nat) (b4:T2),b4.length=deep->eT b4=kd->P2 (u++Ab ts) u.length [] b4 (Q5 ts b4):=by
 induction h with
 | @good deep kd ts hg =>
  intro u b4 hc hk
  have:=hg.read u [] b4 (Q5 ts b4) hc hk (λZ=>by simp) (.done (by simp<;>lia))
  simpa using this
 | @kept deep kd ts hg =>
  intro u b4 hc hk
  refine qz (N7 _ _) (qz (M8 _) ?_)
  have:=hg.read u [92] b4 (Q5 (ts++[.kept []]) b4) hc hk (λZ=>by simp) (by
   refine qz List.length_append.symm ?_
   refine .kept (W9 _ _ _) ?_
   exact qz (lP _ _ _) (.done (by simp<;>exact (by simp +arith only))))
  exact qz (Eq.symm (D5 _ _ _)) this
 | @code deep kd ts s hg hs =>
  intro u b4 hc hk
  refine qz (N7 _ _) (qz (M8 _) ?_)
  have e:Aj (.code s false)=96::s:=by simp [rc]
  refine qz e ?_
  have:=hg.read u (96::s) b4 (Q5 (ts++[.code s false]) b4) hc hk (λZ=>by simp) (by
   refine qz List.length_append.symm ?_
   refine .code (W9 _ _ _) ?_
   exact qz (Am4 hs) (.done (D3 _)))
  exact qz (Eq.symm (D5 _ _ _)) this
 | @span deep c kd ts us hg hd Cs hus ihu =>
  intro u b4 hc hk
  refine qz (N7 _ _) (qz (M8 _) ?_)
  have e:Aj (.span c us false)=c::40::Ab us:=by simp [rs]
  refine qz e ?_
  have hc40:c≠40:=by rintro rfl;simp at Cs
  have:=hg.read u (c::40::Ab us) b4 (Q5 (ts++[.span c us false]) b4) hc hk (λZ=>by simpa using hc40) (by
   refine qz List.length_append.symm ?_
   refine .span (c:=c) (W9 _ _ _) Cs (by refine qz (lP _ _ _) ?_;rfl) (hc▸hd) ?_
   have eu:u++Ab ts++(c::40::Ab us)=(u++Ab ts++[c,40])++Ab us:=by simp
   have el:(u++Ab ts).length+2=(u++Ab ts++[c,40]).length:=(D4 (as:=u++Ab ts) (bs:=[c,40])).symm
   exact qz eu (qz el (ihu (u++Ab ts++[c,40]) ((some c,ts)::b4) (by simp [hc]) rfl)))
  exact qz (Eq.symm (D5 _ _ _)) this
 | @bare deep kd ts us hg hd hus ihu =>
  intro u b4 hc hk
  refine qz (N7 _ _) (qz (M8 _) ?_)
  have e:Aj (.link us none false)=91::Ab us:=by simp [rn]
  refine qz e ?_
  have:=hg.read u (91::Ab us) b4 (Q5 (ts++[.link us none false]) b4) hc hk (λZ=>by simp) (by
   refine qz List.length_append.symm ?_
   refine .label (W9 _ _ _) (hc▸hd) ?_
   have eu:u++Ab ts++(91::Ab us)=(u++Ab ts++[91])++Ab us:=by simp
   have el:(u++Ab ts).length+1=(u++Ab ts++[91]).length:=(D4 (as:=u++Ab ts) (bs:=[91])).symm
   exact qz eu (qz el (ihu (u++Ab ts++[91]) ((none,ts)::b4) (by simp [hc]) rfl)))
  exact qz (Eq.symm (D5 _ _ _)) this
 | @link deep kd ts us g hg hd hgg hus =>
  intro u b4 hc hk
  refine qz (N7 _ _) (qz (M8 _) ?_)
  have e:Aj (.link us (some g) false)=91::(Ab us++93::40::g):=by simp [rl]
  refine qz e ?_
  have:=hg.read u (91::(Ab us++93::40::g)) b4 (Q5 (ts++[.link us (some g) false]) b4) hc hk (λZ=>by simp) (by
   refine qz List.length_append.symm ?_
   refine .label (W9 _ _ _) (hc▸hd) ?_
   have eu:u++Ab ts++(91::(Ab us++93::40::g))=(u++Ab ts++[91])++Ab us++93::40::g:=by simp
   have el:(u++Ab ts).length+1=(u++Ab ts++[91]).length:=(D4 (as:=u++Ab ts) (bs:=[91])).symm
   refine qz eu (qz el ?_)
   refine hus.read (u++Ab ts++[91]) (93::40::g) ((none,ts)::b4) _ (by simp [hc]) rfl (λZ=>by simp) ?_
   refine qz List.length_append.symm ?_
   refine .Fe (W9 _ _ _) ?_
   exact qz (Al1 hgg) (.done (D3 _)))
  exact qz (Eq.symm (D5 _ _ _)) this
theorem jY.back (h:jY 0 .top ts):P2 (Ab ts) 0 [] [] ts:=h.read [] [] rfl rfl
theorem Sg.cut {a b:List Nat}(h:Sg (a++b)):Sg a/\Sg b:=⟨λc hc=>h c (List.mem_append_left _ hc),λc hc=>h c (List.mem_append_right _ hc)⟩
noncomputable def RL (r:List Nat):Prop:=Sg r/\r.length<=W
theorem RL.cut {a b:List Nat}(h:RL (a++b)):RL a/\RL b:=by
 have:=h.2
 rw [D4] at this
 exact ⟨⟨h.1.cut.1,D2 (E1 _ _) this⟩,h.1.cut.2,D2 (A7 _ _) this⟩
theorem RL.row {ts:List T}{t:T}(h:RL (Ab (ts++[t]))):RL (Ab ts)/\RL (Aj t):=by
 rw [N7,M8] at h
 exact h.cut
noncomputable def GF (d:Nat) (ts:List T):Prop:=eV d ts/\Ad7 d ts/\ts.length<=(Ab ts).length
theorem GF.add {d:Nat}{ts:List T}{t:T}(h:GF d ts) (k:GT d t) (f:Q2 W (2 * (12 - d)+1) (i0 t)) (l:1<=(Aj t).length):GF d (ts++[t]):=⟨h.1.add k,h.2.1.add f,by
 exact qz (N7 _ _) (qz (M8 _) (qz D4 (qz D4 (B3 h.2.2 l))))⟩
theorem GF.span {d c:Nat}{ts us:List T}{b:Bool}(h:GF d ts) (hd:d<12) (hc:[42,95,126].contains c=true) (ih:RL (Ab us)->GF (d+1) us) (q:RL (Aj (.span c us b))):GF d (ts++[.span c us b]):=by
 have k:=ih q.cut.1.cut.2
 exact h.add ⟨hd,hc,k.1⟩ (Ag0 hd (D2 k.2.2 q.cut.1.cut.2.2) k.2.1 (Or.inl ⟨_,_,rfl⟩)) (Nat.succ_pos _)
theorem GF.link {d:Nat}{ts us:List T}{g:Option (List Nat)}{b:Bool}(h:GF d ts) (hd:d<12) (hg:∀ s,g=some s->∀ c∈s,c≠41) (ih:RL (Ab us)->GF (d+1) us) (q:RL (Aj (.link us g b))):GF d (ts++[.link us g b]):=by
 cases g with
 | none =>
  have r:=(RL.cut (a:=[91]) (RL.cut q).1).2
  have k:=ih r
  exact h.add ⟨hd,(λs e=>xN e),k.1⟩ (Ag0 hd (D2 k.2.2 r.2) k.2.1 (Or.inr ⟨_,_,rfl⟩)) (Nat.succ_pos _)
 | some s =>
  have r:=(RL.cut (a:=[91]) (RL.cut (RL.cut (RL.cut q).1).1).1).2
  have k:=ih r
  exact h.add ⟨hd,(λs' e=>by cases e;exact ⟨(RL.cut (RL.cut q).1).2.1,hg s rfl⟩),k.1⟩ (Ag0 hd (D2 k.2.2 r.2) k.2.1 (Or.inr ⟨_,_,rfl⟩)) (Nat.succ_pos _)
theorem R7.gf {d:Nat}{kd:Kd}{ts:List T}(h:R7 d kd ts):RL (Ab ts)->GF d ts:=by
 induction h with
 | nil=>exact λZ=>⟨trivial,.nil,D3 _⟩
 | Al _ _ hp _ ih=>exact λq=>(ih q.row.1).add ⟨hp.ne,q.row.2.1⟩ Cf1 (List.length_pos_iff.mpr hp.ne)
 | kept _ ih=>exact λq=>(ih q.row.1).add ⟨D3 _,(Sg.cut (a:=[92]) q.row.2.1).2⟩ yY (Nat.succ_pos _)
 | code _ _ ih=>exact λq=>(ih q.row.1).add (Sg.cut (a:=[96]) (Sg.cut q.row.2.1).1).2 yZ (Nat.succ_pos _)
 | span _ hd hc _ n9 ih2=>exact λq=>(n9 q.row.1).span hd hc ih2 q.row.2
 | link _ hd hg _ n9 ih2=>exact λq=>(n9 q.row.1).link hd hg ih2 q.row.2
theorem jY.gf {d:Nat}{kd:Kd}{ts:List T}(h:jY d kd ts):RL (Ab ts)->GF d ts:=by
 induction h with
 | good hg=>exact hg.gf
 | kept hg=>exact λq=>(hg.gf q.row.1).add ⟨D8 _,λZ h=>xL h⟩ yY (Nat.succ_pos _)
 | code hg _=>exact λq=>(hg.gf q.row.1).add (Sg.cut (a:=[96]) (Sg.cut q.row.2.1).1).2 yZ (Nat.succ_pos _)
 | span hg hd hc _ ih=>exact λq=>(hg.gf q.row.1).span hd hc ih q.row.2
 | bare hg hd _ ih=>exact λq=>(hg.gf q.row.1).link hd (λZ e=>xN e) ih q.row.2
 | link hg hd hs hu=>exact λq=>(hg.gf q.row.1).link hd (λZ e=>by cases e;exact hs) hu.gf q.row.2
structure Ct (ts:List T):Prop where
 op:jY 0 .top ts
 sg:Sg (Ab ts)
 len:(Ab ts).length<=15500000
theorem Ct.pars (h:Ct ts):P2 (Ab ts) 0 [] [] ts:=h.op.back
theorem Ct.eq (h:Ct ts):ts=pts (Ab ts):=Cp1 h.op.back
theorem Ct.gf (h:Ct ts):GF 0 ts:=h.op.gf ⟨h.sg,D2 h.len (by decide)⟩
theorem Ct.good (h:Ct ts):eV 0 ts:=h.gf.1
theorem Ct.fit (h:Ct ts):Q2 W 26 (.lst (M0 ts)):=Q2.lst (qz (V9 _) (D2 h.gf.2.2 (D2 h.len (by decide)))) λy hy=>by
 obtain ⟨t,ht,rfl⟩:=yT hy
 exact h.gf.2.1 t ht
theorem eN:K3 H (H++[l]++[l']):=K3.one.trans .one
theorem wX {H:Heap}{l l':List V}:(H++[l]++[l']).length=H.length+2:=qz R6 (qz R6 rfl)
theorem iH {n a lo hi:Nat}(hc:Ct ts) (hr:N8 H (.lst (M0 ts)) lo hi (.ref a)) (hh:hi<=H.length) (Q:F8) (h:∀ G,K3 H G->Q (.bool true) G):Ac P (n+30) "is_content" [.ref a] Q H:=by
 refine E9 rfl rfl (oO (Φ:=K3 H) (cG (iK (K4 iq λQ q=>Cr8 12 0 (n+1) rfl ts a lo hi H Q hc.good hr q)) λG g=>?_) h)
 subst g
 have e1:aF (Ac P (n+29)) [some (.ref a)] G (.call "parts_of" [.call "row_of" [J0]]) (.ref (G.length+2)) (λG'=>K3 G G'/\N8 G' (.lst (M0 ts)) (G.length+2) G'.length (.ref (G.length+2))):=λQ k=>by
  refine P7 (Q9 (P7 (Q9 (eY rfl (K8 (sP (n:=n) hc.good hr hh (D2 hc.len (by decide)) λl l'=>K8 (jR (n:=n+26) (D2 hc.len (by decide)) hc.pars λH' lp h1 h2 h3=>?_)))))))
  have e:=wX (H:=G) (l:=l) (l':=l')
  have hgr:=eA h2 h3
  have:=oR (k:=1) h1 h2
  rw [e] at this ⊢
  exact k H' ⟨eN.trans hgr,this⟩
 exact hX (Bc0 (rR (t:=true) e1 (λG' g Q k=>eY rfl (k G' g)) λG' g=>Cl5 (w:=W) (m:=26) (by decide) hc.fit (lO hc.good) g.2 (hr.grow g.1 hh)) λG' g=>g.1)
noncomputable def dsh:It->Nat
 | .it n _ _=>n
mutual
noncomputable def El:Nat->Nat->It->Prop
 | above,most,.it n ts sub=>(1<=n/\n<=most/\above<n)/\Ct ts/\cJ n 9 sub
noncomputable def cJ:Nat->Nat->List It->Prop
 | _,_,[]=>True
 | above,most,i::is=>El above most i/\cJ above (dsh i) is
end
theorem sQ {n k m:Nat}(h1:1<=k) (h2:k<=m) (Q:F8) (h:Q (.bool true) H):Ac P (n+1) "is_number" [.int (k:Nat),.int (m:Nat)] Q H :=
 E9 rfl rfl (E8 (R5 (b:=false) (b2:=false) iq λZ=>R5 (b:=false) (b2:=false) iq λZ=>Z8 (Q0 (H9 iq iq aZ) (decide_eq_false (by exact Int.not_lt.mpr (Int.ofNat_le.mpr (S5 h1)))))) (O0 (R5 (b:=false) (b2:=true) iq λZ=>Z8 (Q0 (H9 iq iq tD) (decide_eq_true (Int.ofNat_le.mpr h2)))) h))
theorem Ak9 {n k:Nat}(h1:1<=k) (Q:F8) (h:Q (.bool true) H):Ac P (n+1) "is_number" [.int (k:Nat),.none] Q H :=
 E9 rfl rfl (E8 (R5 (b:=false) (b2:=false) iq λZ=>R5 (b:=false) (b2:=false) iq λZ=>Z8 (Q0 (H9 iq iq aZ) (decide_eq_false (by exact Int.not_lt.mpr (Int.ofNat_le.mpr (S5 h1)))))) (O0 (R5 (b:=true) (b2:=true) iq λq=>xB q) h))
theorem jB {n:Nat}{sub:List It}(h:N8 H (Fy (.it n ts sub)) lo hi v):∃ a b,v=.tup [.int (n:Nat),.ref a,.ref b]/\N8 H (.lst (M0 ts)) lo hi (.ref a)/\N8 H (.lst (X9 sub)) lo hi (.ref b):=by
 apply Ah;intro g9 k9
 obtain ⟨l,rfl,h⟩:=h
 obtain ⟨r,_,rfl,q1,h⟩:=U4 h
 obtain ⟨a,r,_,rfl,ha,q2,h⟩:=kH h
 have d6:=h.le
 obtain ⟨b,r,_,rfl,hb,_,h⟩:=kH h
 apply k9
 exact qz h.2 ⟨a,b,rfl,ha.wide q1 d6,hb.wide (D2 q1 q2) h.1⟩
theorem Cl3 {H:Heap}{is:List It}{lo hi:Nat}{l:List V}{k:Nat}(h:M1 H (X9 is) lo hi l) (hv:l[k]? = some v):∃ i,is[k]? = some i/\N8 H (Fy i) lo hi v:=Av0 (dE is) h hv
theorem nC:∀ {is:List It}{k:Nat}{i:It},is[k]? = some i->dI i<=Br is
 | j::is,0,i,h=>by cases h;exact Nat.le_max_left _ _
 | j::is,k+1,i,h=>D2 (nC (is:=is) h) (Nat.le_max_right _ _)
noncomputable def AIs (m n:Nat):Prop:=∀ (is:List It) (above a lo hi:Nat) (H:Heap) (Q:F8),Br is<=m->cJ above 9 is->N8 H (.lst (X9 is)) lo hi (.ref a)->hi<=H.length->(∀ G,K3 H G->Q (.bool true) G)->Ac P n "are_items" [.ref a,.int (above:Nat)] Q H
noncomputable abbrev IZ:=Nat×Option V
theorem qK {m n:Nat}(ih:∀ m',m=m'+1->AIs m' (n+30)):AIs m (n+31):=by
 intro is above a lo hi H Q hd hi0 hr hh hQ
 apply Ah;intro g9 k9
 obtain ⟨a',l,p,q,e,hb,ha,Bc⟩:=hr
 apply k9
 cases e
 have hq:q<=H.length:=D2 hb.qh hh
 refine E9 rfl rfl (E8 iq (F9 iq (M7 (Y9 (σ:=IZ) (λz=>[some (.ref a),some (.int (above:Nat)),some (.int (z.1:Nat)),z.2]) (λk z G=>K3 H G/\cJ above z.1 (is.drop k)) (l:=l) (λk z G hI=>hI.1.get ha) (λk z G v hv hI K hK=>?_) (λz G hI=>hQ G hI.1) ⟨9,none⟩ iq ⟨.refl,hi0⟩))))
 apply Ah;intro g9 k9
 obtain ⟨hg,Cv⟩:=hI
 obtain ⟨i,hi1,Dz⟩:=Cl3 Bc hv
 have hdk:=D2 (nC hi1) hd
 obtain ⟨c,ts,sub⟩:=i
 have ed:is.drop k=.it c ts sub::is.drop (k+1):=by
  obtain ⟨h1,h2⟩:=A3 hi1
  exact qz (List.drop_eq_getElem_cons h1) (qz h2 rfl)
 rw [ed] at Cv
 obtain ⟨⟨hn,n7,i8⟩,hrest⟩:=Cv
 obtain ⟨a1,b1,rfl,Ay,hrb⟩:=jB (Dz.grow hg hq)
 have Dp:q<=G.length:=D2 hq hg.len
 obtain ⟨m',rfl⟩:=hZ hdk
 apply k9
 refine E8 (R5 (b:=false) (b2:=false) iq λZ=>iq) (E8 (R5 (b:=false) (b2:=false) (bR (t:=true) (K4 iq (sQ hn.1 hn.2.1))) λZ=>Z8 (Q0 (H9 iq iq tD) (decide_eq_false (by lia)))) (T7 (Φ:=K3 G) (nN (gT (t:=true) (bE iq λQ k=>iH (n:=n) n7 Ay Dp Q k)) λG1 g1=>rQ (Bc0 (gT (t:=true) (bE iq λQ k=>ih m' rfl sub c b1 p q G1 Q (Nat.le_of_succ_le_succ hdk) i8 (hrb.grow g1 Dp) (D2 Dp g1.len) k)) λG2 g2=>g1.trans g2)) λG2 g2=>?_))
 exact hK ⟨c,_⟩ _ ⟨hg.trans g2,hrest⟩
theorem vX:∀ (m n:Nat),AIs m (n+m+31):=by
 intro m
 induction m with
 | zero=>exact λn=>qK λm' q=>xZ q
 | succ m ih=>exact λn=>qK (n:=n+m+1) λm' q=>by cases q;exact ih n
noncomputable def eQ:Bk->List Nat
 | .gap _=>[103,97,112]
 | .head _ _=>[104,101,97,100,105,110,103]
 | .list _=>[108,105,115,116]
 | .para _=>[112,97,114,97]
 | .quote _=>[113,117,111,116,101]
mutual
noncomputable def wB:Nat->Bk->Prop
 | _,.gap n=>1<=n
 | _,.head n ts=>(1<=n/\n<=6)/\Ct ts
 | _,.list is=>is≠[]/\cJ 0 9 is/\Br is<=9
 | deep,.para rs=>rs≠[]/\∀ ts∈rs,Ct ts/\(Au deep (Ab ts)).1=4
 | deep,.quote bs=>deep<9/\bs≠[]/\aM (deep+1) [] bs
noncomputable def aM:Nat->List Nat->List Bk->Prop
 | _,_,[]=>True
 | deep,last,b::bs=>wB deep b/\(eQ b≠last∨last=[104,101,97,100,105,110,103])/\aM deep (eQ b) bs
end
mutual
theorem De2:∀ {above most:Nat}{i:It},El above most i->okX (Fy i)
 | above,most,.it n ts sub=>λh=>⟨trivial,lO h.2.1.good,wT h.2.2,trivial⟩
theorem wT:∀ {above most:Nat}{is:List It},cJ above most is->qY (X9 is)
 | _,_,[]=>λZ=>trivial
 | above,most,i::is=>λh=>⟨De2 h.1,wT h.2⟩
end
theorem Ci3:∀ {rs:List (List T)},(∀ ts∈rs,Ct ts)->qY (qW rs):=by
 intro rs
 induction rs with
 | nil=>exact λZ=>trivial
 | cons ts rs ih=>exact λh=>⟨lO (h ts (.head _)).good,ih λx hx=>h x (.tail _ hx)⟩
mutual
theorem De3:∀ {deep:Nat}{b:Bk},wB deep b->okX (Di b)
 | _,.gap n=>λh=>⟨okL rfl,trivial,trivial⟩
 | _,.head n ts=>λh=>⟨okL rfl,trivial,lO h.2.good,trivial⟩
 | _,.list is=>λh=>⟨okL rfl,wT h.2.1,trivial⟩
 | _,.para rs=>λh=>⟨okL rfl,Ci3 λts ht=>(h.2 ts ht).1,trivial⟩
 | deep,.quote bs=>λh=>⟨okL rfl,wU h.2.2,trivial⟩
theorem wU:∀ {deep:Nat}{last:List Nat}{bs:List Bk},aM deep last bs->qY (O9 bs)
 | _,_,[]=>λZ=>trivial
 | deep,last,b::bs=>λh=>⟨De3 h.1,wU h.2.2⟩
end
theorem W8 (h:N8 H (.tup [.at (.s w),.lst xs]) lo hi v):∃ a,v=.tup [.str w,.ref a]/\N8 H (.lst xs) lo hi (.ref a):=by
 apply Ah;intro g9 k9
 obtain ⟨l,rfl,h⟩:=h
 obtain ⟨r,_,rfl,q1,h⟩:=U4 h
 obtain ⟨a,r,_,rfl,ha,q2,h⟩:=kH h
 apply k9
 exact qz h.2 ⟨a,rfl,ha.wide q1 h.1⟩
theorem oP {n:Nat}(h:N8 H (Di (.gap n)) lo hi v):v=.tup [.str [103,97,112],.int (n:Nat)]:=by
 obtain ⟨l,rfl,h⟩:=h
 obtain ⟨r,_,rfl,q1,h⟩:=U4 h
 obtain ⟨r,_,rfl,q1,h⟩:=U4 h
 refine qz h.2 ?_;rfl
theorem jC {n:Nat}(h:N8 H (Di (.head n ts)) lo hi v):∃ a,v=.tup [.str [104,101,97,100,105,110,103],.int (n:Nat),.ref a]/\N8 H (.lst (M0 ts)) lo hi (.ref a):=by
 apply Ah;intro g9 k9
 obtain ⟨l,rfl,h⟩:=h
 obtain ⟨r,_,rfl,q1,h⟩:=U4 h
 obtain ⟨r,_,rfl,q2,h⟩:=U4 h
 obtain ⟨a,r,_,rfl,ha,q3,h⟩:=kH h
 apply k9
 exact qz h.2 ⟨a,rfl,ha.wide (D2 q1 q2) h.1⟩
theorem Cl4 {H:Heap}{is:List Bk}{lo hi:Nat}{l:List V}{k:Nat}(h:M1 H (O9 is) lo hi l) (hv:l[k]? = some v):∃ i,is[k]? = some i/\N8 H (Di i) lo hi v:=Av0 (aC is) h hv
theorem Bv2 {H:Heap}{is:List (List T)}{lo hi:Nat}{l:List V}{k:Nat}(h:M1 H (qW is) lo hi l) (hv:l[k]? = some v):∃ i a,is[k]? = some i/\v=.ref a/\N8 H (.lst (M0 i)) lo hi (.ref a):=by
 apply Ah;intro g9 k9
 obtain ⟨ts,ht,hr⟩:=Av0 (gD is) h hv
 obtain ⟨a,_,_,_,rfl,_⟩:=id hr
 apply k9
 exact ⟨ts,a,ht,rfl,hr⟩
theorem zB {x:X}(he:Ev C ρ H e (.ref a)) (hm:m<100) (hf:Q2 W m (.lst (x::xs))) (ho:okX (.lst (x::xs))) (h:N8 H (.lst (x::xs)) lo hi (.ref a)) (hh:hi<=H.length):aF C ρ H (.cmp .eq e (.list [])) (.bool false) (λG=>G=H++[[]]) :=
 rR (iK he) (λG g=>by subst g;exact mP) λG g=>by
  subst g
  exact Bu9 hm hf ho (h.grow .one hh) K6
theorem Cc3 {n deep a lo hi m:Nat}{rs:List (List T)}{H:Heap}(f6:rs≠[]) (k6:∀ ts∈rs,Ct ts/\(Au deep (Ab ts)).1=4) (hm:m<100) (hf:Q2 W m (.lst (qW rs))) (hr:N8 H (.lst (qW rs)) lo hi (.ref a)) (hh:hi<=H.length) (Q:F8) (h:∀ G,K3 H G->Q (.bool true) G):Ac P (n+31) "are_rows" [.ref a,.int (deep:Nat)] Q H:=by
 have hok:=Ci3 λts ht=>(k6 ts ht).1
 cases rs with
 | nil=>exact absurd rfl f6
 | cons t0 rs =>
  refine E9 rfl rfl (T7 (nN (iK (v:=.bool false) iq) λG g=>by subst g;exact rQ (zB (by exact iq) hm hf hok hr hh)) λG g=>?_)
  apply Ah;intro g9 k9
  subst g
  obtain ⟨a',l,p,q,e,hb,ha,Bc⟩:=hr
  apply k9
  cases e
  have hq:q<=H.length:=D2 hb.qh hh
  refine M7 (Y9 (σ:=Option V) (λz=>[some (.ref a),some (.int (deep:Nat)),z]) (λk z G=>K3 H G) (l:=l) (λk z G hI=>hI.get ha) (λk z G v hv hI K hK=>?_) (λz G hI=>h G hI) none iq .one)
  apply Ah;intro g9 k9
  obtain ⟨ts,b,Dy,rfl,hrb⟩:=Bv2 Bc hv
  obtain ⟨hc,h4⟩:=k6 ts (E5 Dy)
  apply k9
  have hrb:=hrb.grow hI hq
  have Dp:q<=G.length:=D2 hq hI.len
  have e2:∀ G1,K3 G G1->aF (Ac P (n+30)) [some (.ref a),some (.int (deep:Nat)),some (.ref b)] G1 (.cmp .ne (.idx (.call "shape" [.call "row_of" [J2],J1]) (.int 0)) (.str [112,108,97,105,110])) (.bool false) (K3 G1):=λG1 g1 Q k=>by
   refine Cv9 (rT (P7 (Q9 (P7 (Q9 (eY rfl (K8 (sP (n:=n+1) hc.good (hrb.grow g1 Dp) (D2 Dp g1.len) (D2 hc.len (by decide)) λl l'=>Q9 (eY rfl (K8 (yI (n:=n+28) (deep:=deep) (row:=Ab ts) _ ?_)))))))))))
   generalize Au deep (Ab ts)=s at h4
   obtain ⟨k4,sn,sr⟩:=s
   cases h4
   exact k _ eN
  refine T7 (Φ:=K3 G) (nN (gT (t:=true) (bE iq λQ k=>iH (n:=n) hc hrb Dp Q k)) λG1 g1=>rQ (Bc0 (e2 G1 g1) λG2 g2=>g1.trans g2)) λG2 g2=>?_
  exact hK _ _ (hI.trans g2)
theorem Br7 {x:X}(he:Ev C ρ H e (.ref a)) (hm:m<100) (hf:Q2 W m (.lst (x::xs))) (ho:okX (.lst (x::xs))) (h:N8 H (.lst (x::xs)) lo hi (.ref a)) (hh:hi<=H.length):aF C ρ H (.cmp .ne e (.list [])) (.bool true) (K3 H) :=
 Bc0 (Φ:=λG=>G=H++[[]]) (rR (iK he) (λG g=>by subst g;exact mP) λG g=>by
  subst g
  exact D0 (Option.map not) (Bu9 hm hf ho (h.grow .one hh) K6)) λG g=>by subst g;exact .one
theorem Bt2 {bs:List Bk}{k:Nat}(h:bs[k]? = some b):Di b∈O9 bs:=qz (aC _) (List.mem_map.mpr ⟨b,E5 h,rfl⟩)
noncomputable def ABs (d deep n:Nat):Prop:=∀ (bs:List Bk) (a lo hi:Nat) (H:Heap) (Q:F8),bs≠[]->aM deep [] bs->Q2 W (2 * d+47) (.lst (O9 bs))->N8 H (.lst (O9 bs)) lo hi (.ref a)->hi<=H.length->(∀ G,K3 H G->Q (.bool true) G)->Ac P n "are_blocks" [.ref a,.int (deep:Nat)] Q H
theorem Aa7 {n d deep lo hi:Nat}(hd:deep+d=9) (ih:∀ d',d=d'+1->ABs d' (deep+1) (n+40)) (hb:wB deep b) (hf:Q2 W (2 * d+46) (Di b)) (hr:N8 H (Di b) lo hi v) (hh:hi<=H.length) (Q:F8) (h:∀ G,K3 H G->Q (.bool true) G):Ac P (n+41) "is_block" [v,.int (deep:Nat)] Q H:=by
 refine E9 rfl rfl ?_
 cases b with
 | gap k =>
  exact qz (oP hr) (H7 (Q0 (K4 iq N9) rfl) (O0 (K4 iq (Ak9 hb)) (h H .refl)))
 | head k ts =>
  obtain ⟨a,rfl,Ay⟩:=jC hr
  exact E8 (Q0 (K4 iq N9) rfl) (H7 (Q0 (K4 iq N9) rfl) (oO (Φ:=K3 H) (cG (iK (K4 iq (sQ hb.1.1 hb.1.2))) λG g=>by subst g;exact hX (bE iq λQ k=>iH (n:=n+10) hb.2 Ay hh Q k)) h))
 | list is =>
  obtain ⟨a,rfl,Ay⟩:=W8 hr
  have hfl:=hf.2 _ (C5 _ (.head _))
  cases is with
  | nil=>exact absurd rfl hb.1
  | cons i is =>
   refine E8 (Q0 (K4 iq N9) rfl) (E8 (Q0 (K4 iq N9) rfl) (H7 (Q0 (K4 iq N9) rfl) (oO (Φ:=K3 H) (cG (bE iq λQ k=>vX 9 n (i::is) 0 a lo hi H Q hb.2.2 hb.2.1 Ay hh k) λG g=>hX (Bc0 (Br7 (by exact iq) ?_ hfl (wT hb.2.1) (Ay.grow g hh) (D2 hh g.len)) λG1 g1=>g.trans g1)) h)))
   exact S5 (U1 (A4 hd) (A4 hd))
 | para rs =>
  obtain ⟨a,rfl,Ay⟩:=W8 hr
  have hfl:=hf.2 _ (C5 _ (.head _))
  exact E8 (Q0 (K4 iq N9) rfl) (E8 (Q0 (K4 iq N9) rfl) (E8 (Q0 (K4 iq N9) rfl) (H7 (Q0 (K4 iq N9) rfl) (oO (Φ:=K3 H) (bE iq λQ k=>Cc3 (n:=n+9) (m:=2 * d+45) hb.1 hb.2 (by exact S5 (U1 (A4 hd) (A4 hd))) hfl Ay hh Q k) h))))
 | quote bs =>
  obtain ⟨a,rfl,Ay⟩:=W8 hr
  have hfl:=hf.2 _ (C5 _ (.head _))
  obtain ⟨d',rfl⟩:=gC hd hb.1
  exact E8 (Q0 (K4 iq N9) rfl) (E8 (Q0 (K4 iq N9) rfl) (E8 (Q0 (K4 iq N9) rfl) (E8 (Q0 (K4 iq N9) rfl) (H7 (Q0 (K4 iq N9) rfl) (oO (Φ:=K3 H) (cG (iK (Q0 (H9 iq iq aZ) (decide_eq_true (Int.ofNat_lt.mpr hb.1)))) λG g=>by subst g;exact hX (bE iq λQ k=>ih d' rfl bs a lo hi G Q hb.2.1 hb.2.2 hfl Ay hh k)) h)))))
theorem Be0 (h:N8 H (Di b) lo hi v):∃ l,v=.tup (.str (eQ b)::l):=by
 cases b<;>(obtain ⟨l,rfl,h⟩:=h;obtain ⟨r,_,rfl,q1,h⟩:=U4 h;exact ⟨r,rfl⟩)
noncomputable abbrev BZ:=List Nat×Option V
theorem Au1 {n d deep:Nat}(hd:deep+d=9) (ih:∀ d',d=d'+1->ABs d' (deep+1) (n+40)):ABs d deep (n+42):=by
 intro bs a lo hi H Q f6 Ba hf hr hh hQ
 cases bs with
 | nil=>exact absurd rfl f6
 | cons b0 bs =>
  refine E9 rfl rfl (T7 (nN (iK (v:=.bool false) iq) λG g=>by subst g;exact rQ (zB (by exact iq) (by exact S5 (U1 (A4 hd) (A4 hd))) hf (wU Ba) hr hh)) λG g=>?_)
  subst g
  obtain ⟨a',l,p,q,e,hb,ha,Bc⟩:=hr
  cases e
  have hq:q<=H.length:=D2 hb.qh hh
  refine F9 iq (M7 (Y9 (σ:=BZ) (λz=>[some (.ref a),some (.int (deep:Nat)),some (.str z.1),z.2]) (λk z G=>K3 H G/\aM deep z.1 ((b0::bs).drop k)) (l:=l) (λk z G hI=>hI.1.get ha) (λk z G v hv hI K hK=>?_) (λz G hI=>hQ G hI.1) ⟨[],none⟩ iq ⟨.one,Ba⟩))
  obtain ⟨hg,Cv⟩:=hI
  obtain ⟨b,hb1,hrb⟩:=Cl4 Bc hv
  have hfb:=hf.2 _ (Bt2 hb1)
  generalize hbs:b0::bs=all at hb1 Cv hK
  have ed:all.drop k=b::all.drop (k+1):=by
   obtain ⟨h1,h2⟩:=A3 hb1
   exact qz (List.drop_eq_getElem_cons h1) (qz h2 rfl)
  rw [ed] at Cv
  obtain ⟨ho,hl,hrest⟩:=Cv
  have hrb:=hrb.grow hg hq
  have Dp:q<=G.length:=D2 hq hg.len
  obtain ⟨vs,rfl⟩:=Be0 hrb
  refine T7 (Φ:=K3 G) (gT (t:=true) (bE iq λQ k=>Aa7 hd ih ho hfb hrb Dp Q k)) λG1 g1=>?_
  have e0:∀ {C:Calls},Ev C [some (.ref a),some (.int (deep:Nat)),some (.str z.1),some (.tup (.str (eQ b)::vs))] G1 (.idx J3 (.int 0)) (.str (eQ b)):=L6 iq iq cH
  refine E8 (Q0 (K7 (b:=eQ b==z.1) (b2:=!(z.1==[104,101,97,100,105,110,103])) (H9 e0 iq rfl) λq=>M9 (H9 iq iq rfl)) ?_) (F9 e0 (hK ⟨eQ b,_⟩ _ ⟨hg.trans g1,hrest⟩))
  rcases hl with hl|hl
  ·refine qz (beq_eq_false_iff_ne.mpr hl) ?_;rfl
  ·exact qz hl (Bool.and_false _)
theorem rK:∀ (d deep n:Nat),deep+d=9->ABs d deep (n+2 * d+42):=by
 intro d
 induction d with
 | zero=>exact λdeep n hd=>Au1 hd λd' q=>xZ q
 | succ d ih=>exact λdeep n hd=>Au1 (n:=n+2 * d+2) hd λd' q=>by cases q;exact ih (deep+1) n (nV hd)
noncomputable def mk (c n:Nat) (r:List Nat):List Nat:=List.replicate n c++32::r
mutual
noncomputable def Fw:It->List (List Nat)
 | .it n ts sub=>mk 45 n (Ab ts)::T1 sub
noncomputable def T1:List It->List (List Nat)
 | []=>[]
 | i::is=>Fw i++T1 is
end
theorem yL:∀ is js:List It,T1 (is++js)=T1 is++T1 js:=by
 intro is
 induction is with
 | nil=>exact λjs=>rfl
 | cons i is ih=>exact λjs=>by show Fw i++T1 (is++js)=(Fw i++T1 is)++T1 js;exact qz (ih js) (qz (D5 _ _ _) rfl)
theorem Bp1 (i:It):T1 [i]=Fw i:=List.append_nil _
mutual
noncomputable def Cq:Bk->List (List Nat)
 | .gap n=>List.replicate n []
 | .head n ts=>[mk 35 n (Ab ts)]
 | .list is=>T1 is
 | .para rs=>rs.map Ab
 | .quote bs=>(Ag bs).map λr=>62::32::r
noncomputable def Ag:List Bk->List (List Nat)
 | []=>[]
 | b::bs=>Cq b++Ag bs
end
noncomputable def nmK:Nat->List Nat
 | 0=>[103,97,112]
 | 1=>[113,117,111,116,101]
 | 2=>[104,101,97,100,105,110,103]
 | 3=>[108,105,115,116]
 | _=>[112,97,114,97]
theorem Cd4:∀ a<5,∀ b<5,nmK a=nmK b->a=b:=by decide
structure Up (m:Nat) (H G:Heap):Prop where
 len:H.length<=G.length
 eq:∀ b,b≠m->b<H.length->G[b]? = H[b]?
theorem Up.refl:Up m H H:=⟨D3 _,λZ Z Z=>rfl⟩
theorem Up.trans {A B C:Heap}(h:Up m A B) (k:Up m B C):Up m A C:=⟨D2 h.len k.len,λb q1 q2=>(k.eq b q1 (D6 q2 h.len)).trans (h.eq b q1 q2)⟩
theorem Up.grow (g:K3 H G):Up m H G:=⟨g.len,λb Z q=>g.old b (D8 _) q⟩
theorem Up.set:Up m H (H.set m l):=⟨by refine qz C7 ?_;exact D3 _,λb q Z=>A9 (Ne.symm q)⟩
theorem Up.get (u:Up m H G) (hb:b≠m) (h:H[b]? = some l):G[b]? = some l:=(u.eq b hb (M3 h)).trans h
theorem Up.eqv (u:Up m H G) (h1:hi<=m) (h2:hi<=H.length):R1 H G lo hi:=λx Z q=>u.eq x (D1 (D6 q h1)) (D6 q h2)
noncomputable def wA (H:Heap) (lo:Nat):List V->List (List Nat)->Prop
 | [],rs=>rs=[]
 | v::l,rs=>∃ b ps r j9,v=.ref b/\lo<=b/\H[b]? = some ps/\Pc ps r/\rs=r::j9/\wA H lo l j9
theorem wA.up (u:Up m H G) (hm:m<lo) (hl:lo'<=lo):∀ {l:List V}{rs:List (List Nat)},wA H lo l rs->wA G lo' l rs:=by
 intro l
 induction l with
 | nil=>exact λh=>h
 | cons v l ih =>
  exact λh=>by
   obtain ⟨b,ps,r,j9,e1,h1,h2,h3,e2,h4⟩:=h
   exact ⟨b,ps,r,j9,e1,D2 hl h1,u.get (Nat.ne_of_gt (D6 hm h1)) h2,h3,e2,ih h4⟩
theorem wA.app (h':wA H lo l' j9):∀ {l:List V}{rs:List (List Nat)},wA H lo l rs->wA H lo (l++l') (rs++j9)
 | [],rs,h=>qz (show rs=[] from h) h'
 | v::l,rs,h=>by
  apply Ah;intro g9 k9
  obtain ⟨b,ps,r,rs1,e1,h1,h2,h3,e2,h4⟩:=h
  apply k9
  exact qz e2 ⟨b,ps,r,rs1++j9,e1,h1,h2,h3,rfl,wA.app h' h4⟩
theorem wA.len:∀ {l:List V}{rs:List (List Nat)},wA H lo l rs->l.length=rs.length
 | [],rs,h=>by refine qz (show rs=[] from h) ?_;rfl
 | v::l,rs,h=>by
  obtain ⟨b,ps,r,rs1,e1,h1,h2,h3,e2,h4⟩:=h
  exact qz e2 (D0 (· + 1) (wA.len h4))
theorem wA.at:∀ {l:List V}{rs:List (List Nat)}{i:Nat}{v:V},wA H lo l rs->l[i]? = some v->∃ b ps r,v=.ref b/\lo<=b/\H[b]? = some ps/\Pc ps r/\rs[i]? = some r
 | v::l,rs,0,w,h,hv=>by
  apply Ah;intro g9 k9
  obtain ⟨b,ps,r,rs1,e1,h1,h2,h3,e2,h4⟩:=h
  apply k9
  cases hv
  exact ⟨b,ps,r,e1,h1,h2,h3,by refine qz e2 ?_;rfl⟩
 | v::l,rs,i+1,w,h,hv=>by
  apply Ah;intro g9 k9
  obtain ⟨b,ps,r,rs1,e1,h1,h2,h3,e2,h4⟩:=h
  apply k9
  refine qz e2 ?_
  obtain ⟨b',l5,r',g⟩:=wA.at (l:=l) h4 hv
  exact ⟨b',l5,r',g⟩
structure RS (m:Nat) (H:Heap) (l0:List V) (rs:List (List Nat)) (G:Heap):Prop where
 up:Up m H G
 new:∃ l,G[m]? = some (l0++l)/\wA G H.length l rs
theorem RS.nil (h:H[m]? = some l0):RS m H l0 [] H:=⟨.refl,[],by refine qz (List.append_nil _) ?_;exact h,rfl⟩
theorem RS.trans {rs j9:List (List Nat)}(hm:m<H.length) (h:RS m H l0 rs G) (k:∀ lG,G[m]? = some lG->RS m G lG j9 G'):RS m H l0 (rs++j9) G':=by
 obtain ⟨u,l,e,hl⟩:=h
 obtain ⟨u',l',e',hl'⟩:=k _ e
 exact ⟨u.trans u',l++l',by refine qz (Eq.symm (D5 _ _ _)) ?_;exact e',wA.app (hl'.up .refl (D6 hm u.len) u.len) (hl.up u' hm (D3 _))⟩
theorem RS.one (hm:H[m]? = some l0) (g:K3 H G) (hb:G[b]? = some ps) (n6:H.length<=b) (hp:Pc ps r):RS m H l0 [r] (G.set m (l0++[.ref b])):=by
 have Ft:=M3 hm
 refine ⟨(Up.grow g).trans .set,[.ref b],B9 (D6 Ft g.len),b,ps,r,[],rfl,n6,?_,hp,rfl,rfl⟩
 exact qz (A9 (D1 (D6 Ft n6))) hb
theorem RS.get {rs:List (List Nat)}(h:RS m H l0 rs G):∃ l,G[m]? = some l/\l.length=l0.length+rs.length:=by
 obtain ⟨u,l,e,hl⟩:=h
 exact ⟨_,e,qz D4 (qz hl.len rfl)⟩
theorem lC {Φ:Heap->Prop}(ho:Ev C ρ H o (.ref a)) (he:aF C ρ H e v Φ) (k:∀ G,Φ G->∃ l,G[a]? = some l/\l.length<P0/\K1 C ss ρ R (G.set a (l++[v]))):K1 C (.expr (.append o e)::ss) ρ R H:=ho _ (he _ λG g=>by
 obtain ⟨l,h1,h2,h3⟩:=k G g
 exact Q4 (Q:=λZ Hw=>K1 C ss ρ R Hw) h1 h2 h3)
noncomputable def Cj6 (H:Heap) (b:Nat) (r:List Nat) (G:Heap):Prop:=K3 H G/\∃ ps,G[b]? = some ps/\Pc ps r
theorem Bh3 {n a lo hi:Nat}(h1:Ev (Ac P (n+28)) ρ H e1 (.str w)) (hw:w≠[]) (h2:∀ l,Ev (Ac P (n+28)) ρ (H++[l]) e2 (.ref a)) (hg:eV 0 ts) (hr:N8 H (.lst (M0 ts)) lo hi (.ref a)) (hh:hi<=H.length) (hl:(w++Ab ts).length<=15800000) :
  aF (Ac P (n+28)) ρ H (.bin .add (.list [.tup [.str [109,97,114,107],e1]]) (.call "pieces_of" [e2])) (.ref (H.length+2)) (Cj6 H (H.length+2) (w++Ab ts)):=λQ k=>by
 have hlim:P0=16777216:=rfl
 have hl2:(Ab ts).length<=15800000:=suf hl
 refine cQ (aJ (K5 (v:=.tup [.str [109,97,114,107],.str w]) (iM (I8 (by exact iq) (I8 h1 Q7))) (K8 (P7 (K5 (h2 _) (K8 (eI hg (hr.grow .one hh) (D2 hh K3.one.1) hl2 λps hp=>?_)))))))
 have hp':Pc ([.tup [.str [109,97,114,107],.str w]]++ps) (w++Ab ts):=(Pc.one hw).app hp
 have hpl:=hp'.len
 rw [D4] at hpl
 have el:=wX (H:=H) (l:=[.tup [.str [109,97,114,107],.str w]]) (l':=ps)
 refine hO (l:=[.tup [.str [109,97,114,107],.str w]]) (r:=ps) (K3.one.get K6) K6 (D2 hpl (D2 hl wM)) ?_
 refine qz el ?_
 refine k _ ⟨eN.trans .one,_,?_,hp'⟩
 exact qz el.symm K6
mutual
noncomputable def GI1:It->Prop
 | .it n ts sub=>n<=9/\eV 0 ts/\GIs sub
noncomputable def GIs:List It->Prop
 | []=>True
 | i::is=>GI1 i/\GIs is
end
mutual
theorem Cq6:∀ {above most:Nat}{i:It},most<=9->El above most i->GI1 i
 | above,most,.it n ts sub=>λhm h=>⟨D2 h.1.2.1 hm,h.2.1.good,uX (D3 _) h.2.2⟩
theorem uX:∀ {above most:Nat}{is:List It},most<=9->cJ above most is->GIs is
 | _,_,[]=>λZ Z=>trivial
 | above,most,.it n ts sub::is=>λhm h=>⟨Cq6 hm h.1,uX (D2 h.1.1.2.1 hm) h.2⟩
end
theorem GIs.get:∀ {is:List It}{k:Nat}{i:It},GIs is->is[k]? = some i->GI1 i
 | j::is,0,i,h,e=>by cases e;exact h.1
 | j::is,k+1,i,h,e=>GIs.get (is:=is) h.2 e
theorem Ar5 (h:is[k]? = some i):T1 (is.take (k+1))=T1 (is.take k)++Fw i/\T1 is=T1 (is.take k)++(Fw i++T1 (is.drop (k+1))):=by
 have e:T1 (is.take (k+1))=T1 (is.take k)++Fw i:=qz List.take_add_one (qz h (qz (yL _ _) (D0 _ (Bp1 i))))
 refine ⟨e,?_⟩
 exact qz (Eq.symm (D5 _ _ _)) (qz e.symm (qz (Eq.symm (yL _ _)) (qz (List.take_append_drop _ _) rfl)))
theorem wV {c n:Nat}:(List.replicate n c++[32])++r=mk c n r:=D5 ..
theorem uZ {c n:Nat}(hn:n<=9) (he:Ev C ρ H e (.int (n:Nat))):Ev C ρ H (.bin .add (.bin .mul (.str [c]) e) (.str [32])) (.str (List.replicate n c++[32])):=by
 have hlim:P0=16777216:=rfl
 refine K0 (jX (K0 iq he (Ae5 ⟨?_,?_,?_⟩)) (D0 V.str List.flatten_replicate_singleton)) iq (bC ?_)
 ·show 1 * n<=P0;exact qz (Nat.one_mul _) (D2 hn (by show 9<=16777216;decide))
 ·exact Int.lt_of_lt_of_le (by decide) (C6 n)
 ·exact Int.lt_of_le_of_lt (Int.ofNat_le.mpr hn) (by decide)
 ·refine qz List.length_replicate ?_;show n+1<=P0;exact D2 (E0 hn) (by show 10<=16777216;decide)
noncomputable def PIt (m n:Nat):Prop:=∀ (is:List It) (a lo hi mk:Nat) (H:Heap) (l0:List V) (Q:F8),Br is<=m->GIs is->N8 H (.lst (X9 is)) lo hi (.ref a)->hi<=mk->H[mk]? = some l0->l0.length+(T1 is).length<=15800000->(∀ r∈T1 is,r.length<=15800000)->(∀ G,RS mk H l0 (T1 is) G->Q .none G)->Ac P n "put_items" [.ref a,.ref mk] Q H
theorem fQ {m n:Nat}(ih:∀ m',m=m'+1->PIt m' (n+28)):PIt m (n+29):=by
 intro is a lo hi mk' H l0 Q hd hg hr hh hm hl k6 hQ
 have hlim:P0=16777216:=rfl
 apply Ah;intro g9 k9
 obtain ⟨a',l,p,q,e,hb,ha,Bc⟩:=hr
 apply k9
 cases e
 have Ft:=M3 hm
 have hqm:q<=mk':=D2 hb.qh hh
 have ham:a≠mk':=D1 (D6 hb.ah hh)
 refine E9 rfl rfl (M7 (Y9 (σ:=Option V) (λz=>[some (.ref a),some (.ref mk'),z]) (λk z G=>RS mk' H l0 (T1 (is.take k)) G) (l:=l) (λk z G hI=>hI.up.get ham ha) (λk z G v hv hI K hK=>?_) (λz G hI=>?_) none iq (RS.nil hm)))
 ·apply Ah;intro g9 k9
  obtain ⟨i,hi1,Dz⟩:=Cl3 Bc hv
  have hdk:=D2 (nC hi1) hd
  have hgi:=hg.get hi1
  obtain ⟨e1,e2⟩:=Ar5 hi1
  obtain ⟨c,ts,sub⟩:=i
  obtain ⟨m',rfl⟩:=hZ hdk
  have Fz:q<=H.length:=E2 (D7 hqm Ft)
  obtain ⟨a1,b1,rfl,Ay,hrb⟩:=jB (Dz.to (hI.up.eqv hqm Fz))
  apply k9
  have Dp:q<=G.length:=D2 Fz hI.up.len
  have e3:Fw (.it c ts sub)=mk 45 c (Ab ts)::T1 sub:=rfl
  rw [e3] at e1 e2
  have hr0:(mk 45 c (Ab ts)).length<=15800000:=k6 _ (qz e2 (List.mem_append_right _ (.head _)))
  have b7:l0.length+((T1 (is.take k)).length+((T1 sub).length+1))<=15800000:=by
   rw [e2,D4,List.cons_append,List.length_cons,D4] at hl
   exact D2 (A6 (A6 (E0 (E1 _ _)) _) _) hl
  obtain ⟨lG,Cu,Cw⟩:=hI.get
  refine lC iq (Bh3 (n:=n) (w:=List.replicate c 45++[32]) (ts:=ts) (a:=a1) (uZ hgi.1 (by exact iq)) (by simp) (λl=>by exact iq) hgi.2.1 Ay Dp (qz wV hr0)) λG1 g1=>?_
  apply Ah;intro g9 k9
  obtain ⟨gg,ps,hps,hp⟩:=g1
  apply k9
  rw [wV] at hp
  have Et:=RS.one Cu gg hps (E1 _ _) hp
  have hlg:lG.length+((T1 sub).length+1)<=15800000:=qz Cw (qz (C2 _ _ _) b7)
  refine ⟨lG,gg.get Cu,wC (D2 (E1 _ _) hlg),P8 iq (ih m' rfl sub b1 p q mk' _ _ _ (Nat.le_of_succ_le_succ hdk) hgi.2.2 (hrb.to (Et.up.eqv hqm Dp)) hqm (B9 (D6 (M3 Cu) gg.len)) ?_ (λr hr=>k6 r ?_) λG2 g2=>?_)⟩
  ·refine qz D4 ?_;show lG.length+1+_<=_;exact qz (C2 _ _ _) (qz (Nat.add_comm 1 _) hlg)
  ·exact qz e2 (List.mem_append_right _ (.tail _ (List.mem_append_left _ hr)))
  ·refine hK _ _ ?_
   refine qz e1 ?_
   refine hI.trans Ft λlG' hlG'=>?_
   cases Cu.symm.trans hlG'
   refine RS.trans (rs:=[mk 45 c (Ab ts)]) (M3 Cu) Et λl2 hl2=>?_
   rw [B9 (D6 (M3 Cu) gg.len)] at hl2
   cases hl2
   exact g2
 ·have:=Bc.len
  rw [dF] at this
  rw [this,List.take_length] at hI
  exact hQ G hI
theorem vM:∀ (m n:Nat),PIt m (n+m+29):=by
 intro m
 induction m with
 | zero=>exact λn=>fQ λm' q=>xZ q
 | succ m ih=>exact λn=>fQ (n:=n+m+1) λm' q=>by cases q;exact ih n
mutual
noncomputable def GB1:Nat->Bk->Prop
 | _,.gap n=>True
 | _,.head n ts=>n<=9/\eV 0 ts
 | _,.list is=>GIs is/\Br is<=9
 | _,.para rs=>∀ ts∈rs,eV 0 ts
 | d,.quote bs=>∃ d',d=d'+1/\GBs d' bs
noncomputable def GBs:Nat->List Bk->Prop
 | _,[]=>True
 | d,b::bs=>GB1 d b/\GBs d bs
end
mutual
theorem Cq7:∀ {d deep:Nat}{b:Bk},deep+d=9->wB deep b->GB1 d b
 | _,_,.gap n=>λZ Z=>trivial
 | _,_,.head n ts=>λZ h=>⟨D2 h.1.2 (by decide),h.2.good⟩
 | _,_,.list is=>λZ h=>⟨uX (D3 _) h.2.1,h.2.2⟩
 | _,_,.para rs=>λZ h=>λts ht=>(h.2 ts ht).1.good
 | d,deep,.quote bs=>λhd h=>by
  obtain ⟨d',rfl⟩:=gC hd h.1
  exact ⟨d',rfl,mY (deep:=deep+1) (nV hd) h.2.2⟩
theorem mY:∀ {d deep:Nat}{last:List Nat}{bs:List Bk},deep+d=9->aM deep last bs->GBs d bs
 | _,_,_,[]=>λZ Z=>trivial
 | d,deep,last,b::bs=>λhd h=>⟨Cq7 hd h.1,mY hd h.2.2⟩
end
theorem GBs.get:∀ {bs:List Bk}{k:Nat}{b:Bk},GBs d bs->bs[k]? = some b->GB1 d b
 | j::is,0,i,h,e=>by cases e;exact h.1
 | j::is,k+1,i,h,e=>GBs.get (bs:=is) h.2 e
theorem yM:∀ is js:List Bk,Ag (is++js)=Ag is++Ag js:=by
 intro is
 induction is with
 | nil=>exact λjs=>rfl
 | cons i is ih=>exact λjs=>by show Cq i++Ag (is++js)=(Cq i++Ag is)++Ag js;exact qz (ih js) (qz (D5 _ _ _) rfl)
theorem Bp2 (i:Bk):Ag [i]=Cq i:=List.append_nil _
theorem Ar6 (h:is[k]? = some i):Ag (is.take (k+1))=Ag (is.take k)++Cq i/\Ag is=Ag (is.take k)++(Cq i++Ag (is.drop (k+1))):=by
 have e:Ag (is.take (k+1))=Ag (is.take k)++Cq i:=qz List.take_add_one (qz h (qz (yM _ _) (D0 _ (Bp2 i))))
 refine ⟨e,?_⟩
 exact qz (Eq.symm (D5 _ _ _)) (qz e.symm (qz (Eq.symm (yM _ _)) (qz (List.take_append_drop _ _) rfl)))
noncomputable def RBs (d n:Nat):Prop:=∀ (bs:List Bk) (a lo hi:Nat) (H:Heap) (Q:F8),GBs d bs->N8 H (.lst (O9 bs)) lo hi (.ref a)->hi<=H.length->(Ag bs).length<=15800000->(∀ r∈Ag bs,r.length<=15800000)->(∀ G l,K3 H G->G[H.length]? = some l->wA G (H.length+1) l (Ag bs)->Q (.ref H.length) G)->Ac P n "rows_of" [.ref a] Q H
noncomputable abbrev RZ:=Option V×Option V×Option V×Option V
section
variable {n a m:Nat}{l0:List V}{H:Heap}{C:Calls}{R:O3}
theorem Br6 (hm:H[m]? = some l0) (hl:l0.length+k<=15800000) (h:∀ x3 G,RS m H l0 (List.replicate k []) G->R .next [some (.ref a),some (.ref m),some (.tup [e0,.int (k:Nat)]),x3,x4,x5] G) :
  K1 C [.Dc 3 (.idx J2 (.int 1)) [.expr (.append J1 (.list []))]] [some (.ref a),some (.ref m),some (.tup [e0,.int (k:Nat)]),x3,x4,x5] R H:=by
 have hlim:P0=16777216:=rfl
 have he:Ev C [some (.ref a),some (.ref m),some (.tup [e0,.int (k:Nat)]),x3,x4,x5] H (.idx J2 (.int 1)) (.int (k:Nat)):=λZ h=>h
 refine M7 (tK (Q:=R8 C [] R) (σ:=Option V) (λz=>[some (.ref a),some (.ref m),some (.tup [e0,.int (k:Nat)]),z,x4,x5]) (λi z G=>RS m H l0 (List.replicate i []) G) (n:=k) (by exact S5 hl) (λi z G hi hI K hK=>?_) (λz G hI=>h z G hI) x3 he (RS.nil hm))
 obtain ⟨lG,Cu,Cw⟩:=hI.get
 rw [List.length_replicate] at Cw
 refine N3 (H1:=G++[[]]) (v:=.ref G.length) iq iq (K3.one.get Cu) (by exact S5 (U1 (A4 Cw) (U1 hl (U1 hi (A4 hlim.symm))))) (hK _ _ ?_)
 refine qz (show List.replicate (i+1) ([]:List Nat)=List.replicate i []++[[]] from List.replicate_succ') ?_
 refine hI.trans (M3 hm) λlG' hlG'=>?_
 cases Cu.symm.trans hlG'
 exact RS.one Cu .one K6 (D3 _) .nil
end
theorem Bh1 {rs:List (List T)}(h:rs[k]? = some ts):(rs.take (k+1)).map Ab=(rs.take k).map Ab++[Ab ts]:=by
 refine qz List.take_add_one (qz h (qz C3 ?_));rfl
theorem Ba0 {n a m b lo hi:Nat}{rs:List (List T)}(hm:H[m]? = some l0) (hr:N8 H (.lst (qW rs)) lo hi (.ref b)) (hh:hi<=m) (hg:∀ ts∈rs,eV 0 ts) (hl:l0.length+rs.length<=15800000) (k6:∀ r∈rs.map Ab,r.length<=15800000) (h:∀ x4 G,RS m H l0 (rs.map Ab) G->R .next [some (.ref a),some (.ref m),some (.tup [e0,.ref b]),x3,x4,x5] G) :
  K1 (Ac P (n+28)) [.forIn 4 (.idx J2 (.int 1)) [.expr (.append J1 (.call "pieces_of" [J4]))]] [some (.ref a),some (.ref m),some (.tup [e0,.ref b]),x3,x4,x5] R H:=by
 have hlim:P0=16777216:=rfl
 apply Ah;intro g9 k9
 obtain ⟨a',l,p,q,e,hb,ha,Bc⟩:=hr
 apply k9
 cases e
 have Ft:=M3 hm
 have hqm:q<=m:=D2 hb.qh hh
 have Fz:q<=H.length:=E2 (D7 hqm Ft)
 refine M7 (Y9 (σ:=Option V) (λz=>[some (.ref a),some (.ref m),some (.tup [e0,.ref b]),x3,z,x5]) (λk z G=>RS m H l0 ((rs.take k).map Ab) G) (l:=l) (λk z G hI=>hI.up.get (D1 (D6 hb.ah hh)) ha) (λk z G v hv hI K hK=>?_) (λz G hI=>?_) x4 iq (RS.nil hm))
 ·apply Ah;intro g9 k9
  obtain ⟨ts,c,Dy,rfl,Dg⟩:=Bv2 Bc hv
  have hmem:=E5 Dy
  have hkl:=(A3 Dy).1
  obtain ⟨lG,Cu,Cw⟩:=hI.get
  apply k9
  rw [E3,List.length_take] at Cw
  refine fJ iq iq (eI (n:=n) (hg ts hmem) (Dg.to (hI.up.eqv hqm Fz)) (D2 Fz hI.up.len) (k6 _ (List.mem_map.mpr ⟨ts,hmem,rfl⟩)) λps hp=>Q4 (K3.one.get Cu) (wC (D2 (A4 Cw) (D2 (A6 (Nat.min_le_right _ _) _) hl))) (hK _ _ ?_))
  refine qz (Bh1 Dy) ?_
  refine hI.trans Ft λlG' hlG'=>?_
  cases Cu.symm.trans hlG'
  exact RS.one Cu .one K6 (D3 _) hp
 ·have:=Bc.len
  rw [jF] at this
  rw [this,List.take_length] at hI
  exact h z G hI
theorem Ak5 {n d a m b lo hi:Nat}(ih:RBs d n) (hm:H[m]? = some l0) (hr:N8 H (.lst (O9 bs)) lo hi (.ref b)) (hh:hi<=m) (hg:GBs d bs) (hl:l0.length+(Ag bs).length<=15800000) (k6:∀ r∈Ag bs,(62::32::r).length<=15800000) (h:∀ x5 G,RS m H l0 ((Ag bs).map λr=>62::32::r) G->R .next [some (.ref a),some (.ref m),some (.tup [e0,.ref b]),x3,x4,x5] G) :
  K1 (Ac P n) [.forIn 5 (.call "rows_of" [.idx J2 (.int 1)]) [.expr (.append J1 (.bin .add (.list [.tup [.str [109,97,114,107],.str [62,32]]]) J5))]] [some (.ref a),some (.ref m),some (.tup [e0,.ref b]),x3,x4,x5] R H:=by
 have hlim:P0=16777216:=rfl
 have Ft:=M3 hm
 refine M7 (Bg3 (P7 (K5 (v:=.ref b) (by exact iq) (K8 (ih bs b lo hi H _ hg hr (E2 (D7 hh Ft)) (D2 (A7 _ _) hl) (λr hr=>Nat.le_of_succ_le (Nat.le_of_succ_le (k6 r hr))) λG1 l g1 hl1 hw=>?_)))))
 have b7:=hw.len
 have hm1:=g1.get hm
 refine Ae6 (σ:=Option V) (λz=>[some (.ref a),some (.ref m),some (.tup [e0,.ref b]),x3,x4,z]) (λk z G=>RS m G1 l0 (((Ag bs).take k).map λr=>62::32::r) G) (l:=l) (λk z G hI=>hI.up.get (Nat.ne_of_gt Ft) hl1) (λk z G v hv hI K hK=>?_) (λz G hI=>?_) x5 (RS.nil hm1)
 ·apply Ah;intro g9 k9
  obtain ⟨c,ps,r,rfl,hc,hps,hp,hrk⟩:=hw.at hv
  have hkl:=(A3 hrk).1
  have hr2:=k6 r (E5 hrk)
  obtain ⟨lG,Cu,Cw⟩:=hI.get
  apply k9
  rw [E3,List.length_take] at Cw
  have hps1:=hI.up.get (Nat.ne_of_gt (D6 (Nat.lt_succ_of_lt Ft) hc)) hps
  have hp':Pc ([.tup [.str [109,97,114,107],.str [62,32]]]++ps) ([62,32]++r):=(Pc.one (List.cons_ne_nil _ _)).app hp
  have hpl:=hp'.len
  rw [D4] at hpl
  have hr2':([62,32]++r).length<=15800000:=hr2
  have el:=R6 (H:=G) (x:=[.tup [.str [109,97,114,107],.str [62,32]]])
  have ev:aF (Ac P n) [some (.ref a),some (.ref m),some (.tup [e0,.ref b]),x3,x4,some (.ref c)] G (.bin .add (.list [.tup [.str [109,97,114,107],.str [62,32]]]) J5) (.ref (G.length+1)) (Cj6 G (G.length+1) ([62,32]++r)):=λQ k=>by
   refine cQ (aJ (K5 (v:=.tup [.str [109,97,114,107],.str [62,32]]) (by exact iq) (K8 (eY rfl (hO (l:=[.tup [.str [109,97,114,107],.str [62,32]]]) (r:=ps) K6 (K3.one.get hps1) (by exact S5 (U1 hpl (U1 hr2' (A4 hlim.symm)))) ?_)))))
   refine qz el ?_
   refine k _ ⟨eN,_,?_,hp'⟩
   exact qz el.symm K6
  refine lC iq ev λG2 g2=>?_
  obtain ⟨gg,ps2,hps2,hp2⟩:=g2
  refine ⟨lG,gg.get Cu,wC (D2 (A4 Cw) (D2 (A6 (Nat.min_le_right _ _) _) hl)),hK _ _ ?_⟩
  refine qz List.take_add_one (qz hrk (qz C3 ?_))
  refine hI.trans (M3 hm1) λlG' hlG'=>?_
  cases Cu.symm.trans hlG'
  exact RS.one Cu gg hps2 (E4 _) hp2
 ·rw [b7,List.take_length] at hI
  refine h z G ⟨(Up.grow g1).trans hI.up,?_⟩
  obtain ⟨l',h1,h2⟩:=hI.new
  exact ⟨l',h1,h2.up .refl (D6 Ft g1.len) g1.len⟩
theorem sO {n d:Nat}(ih:∀ d',d=d'+1->RBs d' (n+38)):RBs d (n+39):=by
 intro bs a lo hi H Q hg hr hh hl k6 hQ
 have hlim:P0=16777216:=rfl
 obtain ⟨a',l,p,q,e,hb,ha,Bc⟩:=hr
 cases e
 have hq:q<=H.length:=D2 hb.qh hh
 have ea:H.length<(H++[[]]).length:=qz R6 (D9 _)
 have haH:a<H.length:=D6 hb.ah hh
 refine E9 rfl rfl (P5 (H1:=H++[[]]) (v:=.ref H.length) iq (M7 (Y9 (σ:=RZ) (λz=>[some (.ref a),some (.ref H.length),z.1,z.2.1,z.2.2.1,z.2.2.2]) (λk z G=>RS H.length (H++[[]]) [] (Ag (bs.take k)) G) (l:=l) (λk z G hI=>hI.up.get (D1 haH) (K3.one.get ha)) (λk z G v hv hI K hK=>?_) (λz G hI=>?_) ⟨none,none,none,none⟩ iq (RS.nil K6))))
 ·obtain ⟨b,hb1,hrb⟩:=Cl4 Bc hv
  have Ed:=hg.get hb1
  obtain ⟨e1,e2⟩:=Ar6 hb1
  rw [e1] at hK
  have hrb:=hrb.to ((K3.one.2.sub (D8 _) hq).trans (hI.up.eqv hq (D2 hq (E2 ea))))
  obtain ⟨lG,Cu,Cw⟩:=hI.get
  have fin:∀ {G':Heap}{R:O3}{z':RZ},(∀ ρ G,K ρ G->R .next ρ G)->RS H.length G lG (Cq b) G'->R .next [some (.ref a),some (.ref H.length),z'.1,z'.2.1,z'.2.2.1,z'.2.2.2] G':=λ{G' R z'} hR hs=>hR _ _ (hK z' _ (hI.trans ea λlG' hlG'=>by cases Cu.symm.trans hlG';exact hs))
  have b7:lG.length+(Cq b).length<=15800000:=by
   rw [e2,D4,D4] at hl
   refine qz Cw ?_;show 0+_+_<=_;refine qz (Nat.zero_add _) ?_
   exact D2 (A6 (E1 _ _) _) hl
  have hrb':∀ r∈Cq b,r.length<=15800000:=λr hr=>k6 r (qz e2 (List.mem_append_right _ (List.mem_append_left _ hr)))
  have Dp:q<=G.length:=D2 (D2 hq (E2 ea)) hI.up.len
  cases b with
  | gap k =>
   refine qz (oP hrb) ?_
   rw [show Cq (.gap k)=List.replicate k [] from rfl,List.length_replicate] at b7
   exact H7 iq (Br6 Cu b7 λx3 G' hs=>fin (z':=⟨_,x3,_,_⟩) (λZ Z h=>h) hs)
  | head k ts =>
   obtain ⟨b,rfl,Dg⟩:=jC hrb
   rw [show Cq (.head k ts)=[mk 35 k (Ab ts)] from rfl] at b7 hrb'
   refine G8 iq (H7 iq (lC iq (Bh3 (n:=n+10) (w:=List.replicate k 35++[32]) (ts:=ts) (a:=b) (uZ Ed.1 (by exact iq)) (by simp) (λl=>by exact iq) Ed.2 Dg Dp (qz wV (hrb' _ (.head _)))) λG1 g1=>?_))
   obtain ⟨gg,ps,hps,hp⟩:=g1
   rw [wV] at hp
   exact ⟨lG,gg.get Cu,wC (D2 (E1 _ _) b7),fin (z':=⟨_,_,_,_⟩) (λZ Z h=>h) (RS.one Cu gg hps (E1 _ _) hp)⟩
  | list is =>
   obtain ⟨b,rfl,Dg⟩:=W8 hrb
   exact G8 iq (G8 iq (H7 iq (P8 iq (vM 9 n is b p q H.length G lG _ Ed.2 Ed.1 Dg hq Cu b7 hrb' λG' hs=>fin (z':=⟨_,_,_,_⟩) (λZ Z h=>h) hs))))
  | para rs =>
   obtain ⟨b,rfl,Dg⟩:=W8 hrb
   rw [show Cq (.para rs)=rs.map Ab from rfl] at b7 hrb'
   rw [E3] at b7
   exact G8 iq (G8 iq (G8 iq (H7 iq (Ba0 (n:=n+10) Cu Dg hq Ed b7 hrb' λx4 G' hs=>fin (z':=⟨_,_,x4,_⟩) (λZ Z h=>h) hs))))
  | quote bs' =>
   obtain ⟨b,rfl,Dg⟩:=W8 hrb
   obtain ⟨d',rfl,Ed⟩:=Ed
   rw [show Cq (.quote bs')=(Ag bs').map λr=>62::32::r from rfl] at b7 hrb'
   rw [E3] at b7
   exact G8 iq (G8 iq (G8 iq (G8 iq (Ak5 (ih d' rfl) Cu Dg hq Ed b7 (λr hr=>hrb' _ (List.mem_map.mpr ⟨r,hr,rfl⟩)) λx5 G' hs=>fin (z':=⟨_,_,_,x5⟩) (λZ Z h=>h) hs))))
 ·have:=Bc.len
  rw [dG] at this
  rw [this,List.take_length] at hI
  obtain ⟨l',h1,h2⟩:=hI.new
  refine hQ G l' ⟨D2 (E2 ea) hI.up.len,λx h0 hx=>?_⟩ h1 (by rw [R6] at h2;exact h2)
  exact (hI.up.eq x (D1 hx) (Nat.lt_trans hx ea)).trans (K3.one.2 x h0 hx)
theorem Ak4:∀ (d n:Nat),RBs d (n+d+39):=by
 intro d
 induction d with
 | zero=>exact λn=>sO λd' q=>xZ q
 | succ d ih=>exact λn=>sO (n:=n+d+1) λd' q=>by cases q;exact ih n
theorem Bs6 {C:Calls}{x y:Nat}{b:List S}{Q:O3}{σ:Type}(env:σ->M6) (I:Nat->σ->Heap->Prop) {a:Nat}{l:List V}(hl:∀ i s H,I i s H->H[a]? = some l)
  (step:∀ i s H v,l[i]? = some v->I i s H->∀ K:M6->Heap->Prop,(∀ s' H',I (i+1) s' H'->K (env s') H')->K1 C b (((env s).set x (some (.int (i:Int)))).set y (some v)) (gS Q K) H)
  (fin:∀ s H,I l.length s H->Q .next (env s) H):∀ (m i:Nat) (s:σ) (H:Heap),l.length<m+i->i<=l.length->I i s H->lM (K1 C b) x y (.lst a) m i (env s) Q H:=by
 intro m
 induction m with
 | zero=>exact λi s H h hi Z=>absurd h (Nat.not_lt_of_le (qz (Nat.zero_add _) hi))
 | succ m ih =>
  exact λi s H h hi hI=>by
   show (match (It.lst a).at H i with | none=>_ | some v=>_)
   refine qz (Ag7 (hl i s H hI) _) ?_
   by_cases hlt:i<l.length
   ·exact qz (A8 hlt) (step i s H _ (A8 hlt) hI (λρ' Hz=>lM (K1 C b) x y (.lst a) m (i+1) ρ' Q Hz) λs' H' hI'=>ih (i+1) s' H' (by rw [B5] at h;exact h) hlt hI')
   ·have e:i=l.length:=Nat.le_antisymm hi (Nat.le_of_not_lt hlt)
    subst e
    exact qz (List.getElem?_eq_none (D3 _)) (fin s H hI)
theorem Ce2 {x y:Nat}(h:L0 C e ρ (λv Hw=>match v with | .ref a=>∃ n,lM (K1 C b) x y (.lst a) n 0 ρ Q Hw | _=>False) H):lE C (.Bf x y e b) ρ Q H:=h
theorem yJ (ho:Ev C ρ H o (.ref a)) (he:Ev C ρ H e (.ref b)) (ha:H[a]? = some l) (hb:H[b]? = some r) (hn:a≠b) (hl:l.length+r.length<=P0) (k:K1 C ss ρ R (H.set a (l++r))):K1 C (.expr (.extend o e)::ss) ρ R H:=ho _ (he _ (by
 show Cy ((H[a]?).bind λl=>(H[b]?).bind λr=>if a≠b/\l.length+r.length<=P0 then some (H.set a (l++r)) else none) _
 refine qz ha (qz hb ?_)
 show Cy (if a≠b/\l.length+r.length<=P0 then some (H.set a (l++r)) else none) _
 exact qz (if_pos ⟨hn,hl⟩) k))
theorem lA {s x:List Nat}:∀ {l:List (List Nat)},l≠[]->Ad s (l++[x])=Ad s l++s++x
 | [w],_=>rfl
 | w::y::l,_=>by
  show w++s++Ad s ((y::l)++[x])=w++s++Ad s (y::l)++s++x
  refine qz (lA (List.cons_ne_nil y l)) ?_
  simp only [D5]
theorem lB:∀ {l:List (List Nat)},(Ad s l).length<=(Ad s (l++r)).length
 | []=>D8 _
 | [w]=>by
  cases r with
  | nil=>exact D3 _
  | cons x r =>
   show w.length<=(w++s++Ad s (x::r)).length
   exact qz D4 (qz D4 (by simp +arith only))
 | w::y::l=>by
  have:=lB (s:=s) (r:=r) (l:=y::l)
  show (w++s++Ad s (y::l)).length<=(w++s++Ad s ((y::l)++r)).length
  exact qz D4 (qz (D4 (bs:=Ad s ((y::l)++r))) (S5 this))
section
variable {n a lo hi:Nat}{bs:List Bk}{H:Heap}
theorem Ba1 (f6:bs≠[]) (hb:aM 0 [] bs) (hf:Q2 W 65 (.lst (O9 bs))) (hr:N8 H (.lst (O9 bs)) lo hi (.ref a)) (hh:hi<=H.length) (Q:F8) (h:∀ G,K3 H G->Q (.bool true) G):Ac P (n+61) "normal" [.ref a] Q H :=
 E9 rfl rfl (rU iq (rK 9 0 n rfl bs a lo hi H _ f6 hb hf hr hh h))
theorem uU (f6:bs≠[]) (hb:aM 0 [] bs) (hf:Q2 W 65 (.lst (O9 bs))) (hr:N8 H (.lst (O9 bs)) lo hi (.ref a)) (hh:hi<=H.length) (h:∀ G,K3 H G->Q .none G):Ac P (n+62) "need_normal" [.ref a] Q H :=
 E9 rfl rfl (T7 (Φ:=K3 H) (gT (t:=true) (bE iq λQ k=>Ba1 f6 hb hf hr hh Q k)) h)
noncomputable abbrev EZ:=Option V×Option V
theorem Az9 (f6:bs≠[]) (hb:aM 0 [] bs) (hf:Q2 W 65 (.lst (O9 bs))) (hr:N8 H (.lst (O9 bs)) lo hi (.ref a)) (hh:hi<=H.length) (hl:(Ag bs).length<=15800000) (k6:∀ r∈Ag bs,r.length<=15800000) (ht:(Ad [10] (Ag bs)).length<=15800000) (h:∀ G b ps,K3 H G->G[b]? = some ps->Pc ps (Ad [10] (Ag bs))->Q (.ref b) G):Ac P (n+63) "pieces" [.ref a] Q H:=by
 have hlim:P0=16777216:=rfl
 refine E9 rfl rfl (P8 iq (uU f6 hb hf hr hh λG0 g0=>P5 (H1:=G0++[[]]) (v:=.ref G0.length) iq (M7 (Ce2 (P7 (K5 (v:=.ref a) (by exact iq) (K8 (Ak4 9 (n+14) bs a lo hi (G0++[[]]) _ (mY rfl hb) (hr.grow (g0.trans .one) hh) (D2 hh (g0.trans .one).len) hl k6 λG1 l g1 hl1 hw=>⟨l.length+1,?_⟩))))))))
 have hm1:G1[G0.length]? = some []:=g1.get K6
 have ea:G0.length<(G0++[[]]).length:=qz R6 (D9 _)
 refine Bs6 (σ:=EZ) (λz=>[some (.ref a),some (.ref G0.length),z.1,z.2]) (λk z G=>Up G0.length G1 G/\∃ ps,G[G0.length]? = some ps/\Pc ps (Ad [10] ((Ag bs).take k))) (l:=l) (λk z G hI=>hI.1.get (Nat.ne_of_gt ea) hl1) (λk z G v hv hI K hK=>?_) (λz G hI=>?_) (l.length+1) 0 ⟨none,none⟩ G1 (D9 _) (D8 _) ⟨.refl,[],hm1,.nil⟩
 ·apply Ah;intro g9 k9
  obtain ⟨hu,ps,hps,hp⟩:=hI
  obtain ⟨c,qs,r,rfl,hc,hqs,hq,hrk⟩:=hw.at hv
  apply k9
  have hqs':=hu.get (Nat.ne_of_gt (D6 (Nat.lt_succ_of_lt ea) hc)) hqs
  have hcm:G0.length≠c:=D1 (D6 (Nat.lt_succ_of_lt ea) hc)
  have Bc:=hq.len
  have hpl:=hp.len
  have hr1:=k6 r (E5 hrk)
  have hp1:(Ad [10] ((Ag bs).take k)).length<=15800000:=by
   refine D2 ?_ ht
   have:=lB (s:=[10]) (l:=(Ag bs).take k) (r:=(Ag bs).drop k)
   rw [List.take_append_drop] at this
   exact this
  have et:(Ag bs).take (k+1)=(Ag bs).take k++[r]:=by refine qz List.take_add_one (qz hrk ?_);rfl
  have hsum0:ps.length+qs.length<=15800000:=by
   have h2:=lB (s:=[10]) (l:=(Ag bs).take (k+1)) (r:=(Ag bs).drop (k+1))
   rw [List.take_append_drop,et] at h2
   refine D2 (B3 hpl Bc) (D2 ?_ (D2 h2 ht))
   cases hk0:(Ag bs).take k with
   | nil=>exact A4 (Nat.zero_add _)
   | cons w l =>
    exact qz hk0.symm (qz (lA (by rw [hk0];exact List.cons_ne_nil _ _)) (qz D4 (qz D4 (C4 (E1 _ _) _))))
  have hsum:ps.length+qs.length<=P0:=D2 hsum0 (by show 15800000<=16777216;decide)
  have hsum1:ps.length+qs.length+1<=P0:=D2 (E0 hsum0) (by show 15800001<=16777216;decide)
  have hGm:=M3 hps
  cases k with
  | zero =>
   refine E8 iq (yJ (by exact iq) (by exact iq) hps hqs' hcm hsum (hK ⟨_,_⟩ _ ⟨hu.trans .set,_,B9 hGm,?_⟩))
   exact qz et (hp.app hq)
  | succ k =>
   refine H7 (Q0 (H9 iq iq Z6) (decide_eq_true (Int.ofNat_lt.mpr (Nat.succ_pos _)))) (N3 (v:=.tup [.str [101,110,100],.str [10]]) (H1:=G) iq iq hps (wC (D2 hpl hp1)) (yJ (by exact iq) (by exact iq) (B9 hGm) (Up.set.get (Ne.symm hcm) hqs') hcm (by refine qz D4 ?_;show ps.length+1+_<=P0;exact qz (B5 _ _ _) hsum1) (hK ⟨_,_⟩ _ ⟨(hu.trans .set).trans .set,_,B9 (qz C7 hGm),?_⟩)))
   have hne':(Ag bs).take (k+1)≠[]:=λq=>by
    have:=D0 List.length q
    rw [List.length_take] at this
    have h2:=(A3 hrk).1
    exact absurd this (Nat.ne_of_gt (Nat.lt_min.mpr ⟨Nat.succ_pos k,D7 (D8 _) h2⟩))
   exact qz et (qz (lA hne') ((hp.app (.one (List.cons_ne_nil _ _))).app hq))
 ·obtain ⟨hu,ps,hps,hp⟩:=hI
  rw [hw.len,List.take_length] at hp
  refine h G G0.length ps (g0.trans ⟨D2 (D2 (E2 ea) g1.len) hu.len,λx h0 hx=>?_⟩) hps hp
  exact (hu.eq x (D1 hx) (D6 (Nat.lt_trans hx ea) g1.len)).trans (((K3.one (x:=[])).trans g1).old x h0 hx)
theorem Bp0 (f6:bs≠[]) (hb:aM 0 [] bs) (hf:Q2 W 65 (.lst (O9 bs))) (hr:N8 H (.lst (O9 bs)) lo hi (.ref a)) (hh:hi<=H.length) (hl:(Ag bs).length<=15800000) (k6:∀ r∈Ag bs,r.length<=15800000) (ht:(Ad [10] (Ag bs)).length<=15800000) (h:∀ G,K3 H G->Q (.str (Ad [10] (Ag bs))) G):Ac P (n+64) "shown" [.ref a] Q H :=
 E9 rfl rfl (aH (Bc7 iq (Bg7 (P7 (K5 (v:=.ref a) iq (K8 (Az9 f6 hb hf hr hh hl k6 ht λG b ps g hps hp=>yW (by show 1<2;decide) hp ht hps λl=>h _ (g.trans .one))))))))
end
noncomputable def mkV:Option Nat->List Nat
 | some c=>[c,40]
 | none=>[91]
noncomputable def ent (mk:List Nat) (a:Nat):V:=.tup [.str mk,.ref a]
noncomputable def Z0 (A0:Nat):List Nat->T2->List V
 | a::as,(kd,_)::b4=>Z0 A0 as b4++[ent (mkV kd) a]
 | _,_=>[ent [] A0]
noncomputable def wE (H:Heap) (b6:List T) (a lo hi:Nat):Prop:=∃ l,H[a]? = some l/\M1 H (M0 b6) lo hi l
noncomputable def BL (H:Heap) (A0:Nat):Nat->List Nat->List T->T2->Prop
 | hi,as,b6,[]=>as=[]/\wE H b6 A0 (A0+2) hi
 | hi,as,b6,(kd,p)::b4=>∃ a as',as=a::as'/\A0+2<=a/\wE H b6 a (a+1) hi/\BL H A0 a as' p b4
theorem wE.le {b6:List T}(h:wE H b6 a lo hi):lo<=hi:=by
 obtain ⟨_,_,h⟩:=h;exact h.le
theorem wE.to {b6:List T}(h:wE H b6 a lo hi) (e:G[a]? = H[a]?) (k:R1 H G lo hi):wE G b6 a lo hi:=by
 obtain ⟨l,h1,h2⟩:=h;exact ⟨l,e.trans h1,h2.to k⟩
theorem wE.up {b6:List T}(h:wE H b6 a lo hi) (k:hi<=d7):wE H b6 a lo d7:=by
 obtain ⟨l,h1,h2⟩:=h;exact ⟨l,h1,h2.wide (D3 _) k⟩
theorem BL.to:∀ {b4:T2}{hi:Nat}{as:List Nat}{b6:List T},BL H A0 hi as b6 b4->G[A0]? = H[A0]?->R1 H G (A0+2) hi->BL G A0 hi as b6 b4
 | []=>λh e k=>⟨h.1,h.2.to e k⟩
 | (kd,p)::b4=>λh e k=>by
  obtain ⟨a,as',h1,h2,h4,h5⟩:=h
  have d6:=h4.le
  exact ⟨a,as',h1,h2,h4.to (k _ h2 d6) (k.sub (C8 h2) (D3 _)),h5.to e (k.sub (D3 _) (E2 d6))⟩
theorem BL.up {b4:T2}{b6:List T}(h:BL H A0 hi as b6 b4) (k:hi<=d7):BL H A0 d7 as b6 b4:=by
 cases b4 with
 | nil=>exact ⟨h.1,h.2.up k⟩
 | cons x b4 =>
  obtain ⟨a,as',h1,h2,h4,h5⟩:=h
  exact ⟨a,as',h1,h2,h4.up k,h5⟩
noncomputable def Ao0 (A0:Nat):List Nat->Nat
 | []=>A0+2
 | a::_=>a+1
theorem BL.head {b4:T2}{b6:List T}(h:BL H A0 hi as b6 b4):wE H b6 (here A0 as) (Ao0 A0 as) hi/\(here A0 as=A0∨A0+2<=here A0 as)/\here A0 as<Ao0 A0 as:=by
 cases b4 with
 | nil=>obtain ⟨rfl,h1⟩:=h;exact ⟨h1,Or.inl rfl,C9 (by decide)⟩
 | cons x b4 =>
  obtain ⟨a,as',rfl,h2,h4,h5⟩:=h
  exact ⟨h4,Or.inr h2,D9 _⟩
theorem BL.lens:∀ {b4:T2}{hi:Nat}{as:List Nat}{b6:List T},BL H A0 hi as b6 b4->as.length=b4.length
 | []=>λh=>by refine qz h.1 ?_;rfl
 | (kd,p)::b4=>λh=>by
  obtain ⟨a,as',rfl,h2,h4,h5⟩:=h
  exact D0 (· + 1) h5.lens
theorem fK:∀ {as:List Nat}{b4:T2},as.length=b4.length->(Z0 A0 as b4).length=b4.length+1
 | [],[],_=>rfl
 | a::as,(kd,p)::b4,h=>by
  show (Z0 A0 as b4++[ent (mkV kd) a]).length=b4.length+1+1
  refine qz D4 (qz (fK (Nat.succ.inj h)) ?_);rfl
structure lI (H0:Heap) (as:List Nat) (b6:List T) (b4:T2) (H:Heap):Prop where
 len:H0.length+2<=H.length
 old:R1 H0 H 0 H0.length
 pile:H[H0.length+1]? = some (Z0 H0.length as b4)
 lv:BL H H0.length H.length as b6 b4
theorem lI.upd {H0 as b6 b4 H}(h:lI H0 as b6 b4 H) (hl:M1 H (M0 cur') (Ao0 H0.length as) H.length l'):lI H0 as cur' b4 (H.set (here H0.length as) l'):=by
 have hh:=h.lv.head
 have d6:=hl.le
 have hA:H0.length<=here H0.length as:=by rcases hh.2.1 with q|q<;>lia
 have hlt:=D6 hh.2.2 d6
 have Cf:wE (H.set (here H0.length as) l') cur' (here H0.length as) (Ao0 H0.length as) H.length:=⟨l',B9 hlt,hl.to (R1.set (Or.inl hh.2.2))⟩
 refine ⟨by refine qz C7 ?_;exact h.len,h.old.trans (R1.set (Or.inr hA)),?_,?_⟩
 ·exact qz (A9 (by rcases hh.2.1 with q|q<;>lia)) h.pile
 ·refine qz C7 ?_
  have Cd:=h.lv
  cases b4 with
  | nil=>obtain ⟨rfl,_⟩:=Cd;exact ⟨rfl,Cf⟩
  | cons x b4 =>
   obtain ⟨a,as',rfl,h2,h4,h5⟩:=Cd
   exact ⟨a,as',rfl,h2,Cf,h5.to (A9 (by show a≠H0.length;lia)) (R1.set (Or.inr (D3 _)))⟩
theorem lI.grow {H0 as b6 b4 H G}(h:lI H0 as b6 b4 H) (g:K3 H G):lI H0 as b6 b4 G :=
 ⟨D2 h.len g.len,h.old.trans (g.old.sub (D3 _) (D2 (E1 _ _) h.len)),g.get h.pile,(h.lv.to (g.old _ (D8 _) (by have:=h.len;exact S5 this)) (g.old.sub (D8 _) (D3 _))).up g.len⟩
theorem lI.push {H0 as b6 b4 H}(h:lI H0 as b6 b4 H):lI H0 (H.length::as) [] ((kd,b6)::b4) ((H++[[]]).set (H0.length+1) (Z0 H0.length as b4++[ent (mkV kd) H.length])):=by
 have b7:=h.len
 have e1:R1 H (H++[[]]) 0 H.length:=R1.one (D3 _)
 refine ⟨by refine qz C7 (qz R6 ?_);exact S5 b7,(h.old.trans (e1.sub (D3 _) (by exact S5 b7))).trans (R1.set (Or.inr (E4 _))),B9 (qz R6 (S5 b7)),?_⟩
 refine qz C7 (qz R6 ?_)
 refine ⟨H.length,as,rfl,b7,⟨[],?_,.nil (D3 _)⟩,h.lv.to ?_ ((e1.sub (D8 _) (D3 _)).trans (R1.set (Or.inl (D9 _))))⟩
 ·exact qz (A9 (by lia)) K6
 ·exact qz (A9 (by lia)) (e1 _ (D8 _) (by exact S5 b7))
theorem lI.pop {H0 a as b6 kd p b4 H}(h:lI H0 (a::as) b6 ((kd,p)::b4) H) :
  lI H0 as p b4 (H.set (H0.length+1) (Z0 H0.length as b4))/\BL (H.set (H0.length+1) (Z0 H0.length as b4)) H0.length a as p b4/\wE (H.set (H0.length+1) (Z0 H0.length as b4)) b6 a (a+1) (H.set (H0.length+1) (Z0 H0.length as b4)).length:=by
 obtain ⟨_,_,e,h2,h4,h5⟩:=h.lv
 cases e
 have d6:=h4.le
 have ev:∀ {hi:Nat},R1 H (H.set (H0.length+1) (Z0 H0.length as b4)) (H0.length+2) hi:=R1.set (Or.inl (D9 _))
 have Cd:=h5.to (A9 (Nat.ne_of_gt (D9 _))) ev
 refine ⟨⟨by refine qz C7 ?_;exact h.len,h.old.trans (R1.set (Or.inr (E4 _))),B9 h.len,qz C7 (Cd.up (E2 d6))⟩,Cd,?_⟩
 exact qz C7 (h4.to (A9 (by lia)) (ev.sub (by exact S5 h2) (D3 _)))
theorem lI.Dj {H0 a as b6 kd p b4 H}(h:lI H0 (a::as) b6 ((kd,p)::b4) H)
  (ht:∀ G,wE G b6 a (a+1) G.length->N8 G (i0 t) a G.length v):∃ l,(H.set (H0.length+1) (Z0 H0.length as b4))[here H0.length as]? = some l/\l.length=p.length/\lI H0 as (p++[t]) b4 ((H.set (H0.length+1) (Z0 H0.length as b4)).set (here H0.length as) (l++[v])):=by
 apply Ah;intro g9 k9
 obtain ⟨h1,h2,h3⟩:=h.pop
 obtain ⟨l,g1,g2⟩:=h2.head.1
 apply k9
 exact ⟨l,g1,qz g2.len (qz (V9 _) rfl),h1.upd (g2.Fc (E2 h3.le) (ht _ h3))⟩
noncomputable def nW:List Nat:=[32,33,34,35,36,38,39,40,41,42,43,44,45,46,47,48,49,50,51,52,53,54,55,56,57,58,59,60,61,62,63,64,65,66,67,68,69,70,71,72,73,74,75,76,77,78,79,80,81,82,83,84,85,86,87,88,89,90,91,92,93,94,95,96,97,98,99,100,101,102,103,104,105,106,107,108,109,110,111,112,113,114,115,116,117,118,119,120,121,122,123,124,125,126]
theorem Bo9:∀ c∈nW,qU c=true:=by decide
theorem yH {n:Nat}(Q:F8) (h:Q (.str nW) H):Ac P (n+1) "_law_signs" [] Q H:=E9 rfl rfl (F9 iq (O0 (K0 iq iq (bC (by decide))) h))
noncomputable def sg (i:Int):Nat:=(nW[i.toNat]?).getD 32
theorem Bd5 (i:Int):qU (sg i)=true:=by
 unfold sg
 cases h:nW[i.toNat]? with
 | none=>rfl
 | some c=>exact Bo9 c (E5 h)
theorem Cu0 (x:Int):0<=x % 94/\x % 94<94:=⟨Int.emod_nonneg _ (by decide),Int.emod_lt_of_pos _ (by decide)⟩
theorem Cu1 (h:0<=i/\i<94):cL (.str nW) (.int i) H=some (.str [sg i]):=by
 have e:i=(i.toNat:Int):=(Int.toNat_of_nonneg h.1).symm
 have hl:i.toNat<nW.length:=(Int.toNat_lt h.1).mpr h.2
 have hg:nW[i.toNat]? = some (sg i):=by unfold sg;refine qz (A8 hl) ?_;rfl
 have:=wQ (H:=H) hg
 rw [<- e] at this
 exact this
noncomputable def U5 (n:Int):Int:=if n % 3=1 then n / 3 % 49 else n / 3 % 7
theorem tY (h:1<=y):y=(y.toNat:Int)/\1<=y.toNat:=by
 obtain ⟨n,rfl⟩:=Int.eq_ofNat_of_zero_le (Int.le_trans (by decide) h)
 exact ⟨rfl,Int.ofNat_le.mp h⟩
theorem V0 (n:Int):0<=U5 n/\U5 n<49:=by
 unfold U5;split
 ·exact ⟨Int.emod_nonneg _ (by decide),Int.emod_lt_of_pos _ (by decide)⟩
 ·exact ⟨Int.emod_nonneg _ (by decide),Int.lt_trans (Int.emod_lt_of_pos _ (by decide)) (by decide)⟩
theorem mU {n:Nat}(Q:F8) (h:Q (.int (U5 k)) H):Ac P (n+1) "_law_size" [.int k] Q H:=by
 refine E9 rfl rfl ?_
 unfold U5 at h
 by_cases hk:k % 3=1
 ·rw [if_pos hk] at h
  exact H7 (Q0 (H9 (K0 iq iq (Q8 (by decide))) iq rfl) (by refine qz hk ?_;rfl)) (O0 (K0 (K0 iq iq (R4 (by decide))) iq (Q8 (by decide))) h)
 ·rw [if_neg hk] at h
  exact E8 (Q0 (H9 (K0 iq iq (Q8 (by decide))) iq rfl) (beq_eq_false_iff_ne.mpr hk)) (O0 (K0 (K0 iq iq (R4 (by decide))) iq (Q8 (by decide))) h)
theorem As2 {n:Nat}{o x:E}(hm:0<m) (hi:0<=i/\i<1000) (ho:Ev (Ac P (n+1)) ρ H o (.int z)) (hx:Ev (Ac P (n+1)) ρ H x (.int i)) :
  Ev (Ac P (n+1)) ρ H (.idx (.call "_law_signs" []) (.bin .mod (.bin .add o (.bin .mul x (.bin .add (.int 1) (.bin .mod (.bin .fdiv o (.int 94)) (.int m))))) (.int 94))) (.str [sg ((z+i * (1+z / 94 % m)) % 94)]) :=
 L6 (K4 iq yH) (K0 (K0 ho (K0 hx (K0 G9 (K0 (K0 ho G9 (R4 (by decide))) G9 (Q8 hm)) U3) (hU (Or.inl (by lia)))) U3) G9 (Q8 (by decide))) (Cu1 (Cu0 _))
noncomputable abbrev WZ:=List Nat×Option V
theorem Sg.app (h:Sg a) (k:Sg b):Sg (a++b):=λc hc=>by
 rcases C0 hc with q|q
 ·exact h c q
 ·exact k c q
theorem Sg.one (h:qU c=true):Sg [c]:=λd hd=>qz (B1 hd) h
noncomputable def Ai (k m:Int) (x:Nat):List Nat:=Y5 ((List.range m.toNat).map λi:Nat=>sg ((k+(i:Int) * (1+k / 94 % 5)) % 94)) x 120
theorem aX {x:Nat}(hx:x≠120) (hm:0<=m/\m<49):Sg (Ai k m x)/\(∀ c∈Ai k m x,c≠x)/\(Ai k m x).length<=50:=by
 unfold Ai Y5
 refine ⟨λc q=>?_,λc q=>?_,qz (E3 _) (qz (E3 _) (qz List.length_range (D2 (Int.toNat_le.mpr (Int.le_of_lt hm.2)) (by decide))))⟩
 ·obtain ⟨y,hy,rfl⟩:=List.mem_map.mp q
  by_cases hyx:y=x
  ·refine qz (if_pos hyx) ?_;rfl
  ·refine qz (if_neg hyx) ?_
   obtain ⟨i,_,rfl⟩:=List.mem_map.mp hy
   exact Bd5 _
 ·obtain ⟨y,hy,rfl⟩:=List.mem_map.mp q
  by_cases hyx:y=x
  ·exact qz (if_pos hyx) (Ne.symm hx)
  ·exact qz (if_neg hyx) hyx
theorem cX {n x:Nat}(hx:x≠120) (hm:0<=m/\m<49) (Q:F8) (h:Q (.str (Ai k m x)) H):Ac P (n+2) "_law_words" [.int k,.int m,.str [x]] Q H:=by
 have hlim:P0=16777216:=rfl
 obtain ⟨sz,rfl⟩:=Int.eq_ofNat_of_zero_le hm.1
 have j8:sz<=49:=E2 (Int.ofNat_lt.mp hm.2)
 refine E9 rfl rfl (F9 iq (M7 (tK (σ:=WZ) (λz=>[some (.int k),some (.int (sz:Int)),some (.str [x]),some (.str z.1),z.2]) (λi z G=>G=H/\z.1=(List.range i).map λi:Nat=>sg ((k+(i:Int) * (1+k / 94 % 5)) % 94)) (n:=sz) (D7 j8 (by decide)) (λi z G hi hI K hK=>?_) (λz G hI=>?_) ⟨[],none⟩ iq ⟨rfl,rfl⟩)))
 ·obtain ⟨rfl,hw⟩:=hI
  have hwl:z.1.length=i:=qz hw (qz (E3 _) (qz List.length_range rfl))
  refine F9 (K0 iq (As2 (i:=(i:Int)) (by decide) ⟨C6 _,Int.ofNat_lt.mpr (D6 hi (D2 j8 (by decide)))⟩ (by exact iq) (by exact iq)) (bC ?_)) (hK ⟨_,_⟩ _ ⟨rfl,?_⟩)
  ·exact qz hwl (D2 hi (D2 j8 (by show 49<=16777216;decide)))
  ·refine qz List.range_succ (qz C3 (qz hw ?_));rfl
 ·obtain ⟨rfl,hw⟩:=hI
  have hwl:z.1.length=sz:=qz hw (qz (E3 _) (qz List.length_range rfl))
  refine aH (Ay9 (s:=z.1) iq (eY rfl (Cv8 ⟨hx,by refine qz hwl ?_;exact D2 j8 (by decide),?_⟩)))
  refine qz hw ?_
  exact h
noncomputable def dD (row:List Nat):Bool:=match row.getLast? with
 | some c=>[42,95,126].contains c
 | none=>false
theorem Ak3 (row:List Nat):slice row (some (-1)) none=row.drop (row.length - 1):=by
 unfold slice wI Ad4 nU
 simp only
 refine qz (if_pos (by decide)) (qz List.take_length ?_)
 congr 1;exact qz (Int.add_comm _ _) (Int.toNat_sub row.length 1)
theorem Br4 (hs:Sg s):W5 .isin (.str s) (.tup [.str [42],.str [95],.str [126]]) H=some ([[42],[95],[126]].contains s):=by
 have e1:rd H S2 (.str s)=some (.str s):=if_pos (List.all_eq_true.mpr λc hc=>decide_eq_true (rW hs c hc))
 show Fq _ _ H=_
 unfold Fq
 rw [e1]
 show some ([D.str [42],D.str [95],D.str [126]].any λy=>vZ y (.str s))=_
 have q:∀ a:List Nat,vZ (.str a) (.str s)=(s==a):=λa=>by
  show (a==s)=(s==a)
  rw [Bool.eq_iff_iff,beq_iff_eq,beq_iff_eq]
  exact ⟨Eq.symm,Eq.symm⟩
 simp only [List.any_cons,List.any_nil,q,List.contains_cons,List.contains_nil]
theorem Cy1 (row:List Nat):[[42],[95],[126]].contains (row.drop (row.length - 1))=dD row:=by
 unfold dD
 rcases List.eq_nil_or_concat row with rfl|⟨r,c,rfl⟩
 ·rfl
 ·have:(r++[c]).drop ((r++[c]).length - 1)=[c]:=by simp
  refine qz List.concat_eq_append (qz this ?_)
  simp
structure PB (deep:Nat) (mk:List Nat) (bar:Bool) (s:List Nat):Prop where
 sg:Sg s
 all:∀ c∈s,c≠92/\c≠96/\(mk.length=2->c≠41)/\(mk=[91]->c≠93)/\(deep<12->c≠91)
 pair:deep<12->∀ a b c,s=a++c::40::b->[42,95,126].contains c=false
 bar:bar=true->s.take 1≠[40]
theorem PB.nil {deep mk bar}:PB deep mk bar []:=⟨λc h=>(xL h),λc h=>(xL h),λZ a b c h=>absurd h (by simp),λZ=>by simp⟩
theorem PB.add {deep mk bar}(h:PB deep mk bar s) (h0:qU c=true) (h1:c≠92/\c≠96/\(mk.length=2->c≠41)/\(mk=[91]->c≠93)/\(deep<12->c≠91)) (h2:deep<12->c=40->dD s=false) (h3:bar=true->s=[]->c≠40):PB deep mk bar (s++[c]):=by
 refine ⟨h.sg.app (.one h0),λx hx=>?_,λhd a b x e=>?_,λhb=>?_⟩
 ·rcases C0 hx with q|q
  ·exact h.all x q
  ·exact qz (B1 q) h1
 ·rcases List.eq_nil_or_concat b with rfl|⟨b',y,rfl⟩
  ·have e':s++[c]=(a++[x])++[40]:=by refine qz e ?_;simp
   obtain ⟨e1,e2⟩:=List.append_inj' e' rfl
   have:=h2 hd (List.cons.inj e2).1
   subst e1
   unfold dD at this
   simpa using this
  ·have e':s++[c]=(a++x::40::b')++[y]:=by refine qz e ?_;simp
   obtain ⟨e1,_⟩:=List.append_inj' e' rfl
   exact h.pair hd a b' x e1
 ·cases s with
  | nil=>simpa using h3 hb rfl
  | cons y s=>exact h.bar hb
theorem Af3 {x c d:Nat}(he:Ev C ρ H e (.bool b)) (hx:ρ.set x (some (.str [c]))=ρ) (k:K1 C ss (ρ.set x (some (.str [bif b then d else c]))) R H):K1 C (.ite e [.assign x (.str [d])] []::ss) ρ R H:=by
 cases b with
 | true=>exact H7 he (F9 iq k)
 | false=>rw [show (bif false then d else c)=c from rfl,hx] at k;exact E8 he k
noncomputable abbrev QZ:=List Nat×Option V×Option V
noncomputable def mG (mk:List Nat) (c:Nat):Bool:=[92,96].contains c||((mk==[91]&&[c]==[93])||((mk.length:Int)==2&&[c]==[41]))
noncomputable def wN (deep:Nat) (w:List Nat) (c:Nat):Bool:=decide ((deep:Int)<12)&&([c]==[91]||([c]==[40]&&dD w))
noncomputable def Bv4 (bar:Bool) (i c:Nat):Bool:=bar&&((i:Int)==0&&[c]==[40])
noncomputable def turn (deep:Nat) (mk:List Nat) (bar:Bool) (w:List Nat) (i c:Nat):Nat :=
 let c1:=bif mG mk c then 109 else c
 let c2:=bif wN deep w c1 then 110 else c1
 bif Bv4 bar i c2 then 111 else c2
theorem Cb0 {deep:Nat}{mk:List Nat}(h:PB deep mk bar w) (hc:qU c=true):PB deep mk bar (w++[turn deep mk bar w w.length c]):=by
 have a1:∀ c1:Nat,c1=(bif mG mk c then 109 else c)->qU c1=true/\c1≠92/\c1≠96/\(mk.length=2->c1≠41)/\(mk=[91]->c1≠93):=λc1 e=>by
  cases hb:mG mk c with
  | true=>rw [hb] at e;replace e:c1=109:=e;subst e;exact ⟨rfl,by decide,by decide,λZ=>by decide,λZ=>by decide⟩
  | false =>
   rw [hb] at e;subst e
   unfold mG at hb
   simp only [Bool.or_eq_false_iff] at hb
   refine ⟨hc,?_,?_,λhm q=>?_,λhm q=>?_⟩
   ·intro q;subst q;simp at hb
   ·intro q;subst q;simp at hb
   ·subst q
    have:=hb.2.2
    rw [hm] at this
    simp at this
   ·subst q
    have:=hb.2.1
    rw [hm] at this
    simp at this
 have a2:∀ c1 c2:Nat,(qU c1=true/\c1≠92/\c1≠96/\(mk.length=2->c1≠41)/\(mk=[91]->c1≠93))->c2=(bif wN deep w c1 then 110 else c1)->(qU c2=true/\c2≠92/\c2≠96/\(mk.length=2->c2≠41)/\(mk=[91]->c2≠93)/\(deep<12->c2≠91))/\(deep<12->c2=40->dD w=false):=λc1 c2 h1 e=>by
  cases hb:wN deep w c1 with
  | true=>rw [hb] at e;replace e:c2=110:=e;subst e;exact ⟨⟨rfl,by decide,by decide,λZ=>by decide,λZ=>by decide,λZ=>by decide⟩,λZ q=>by cases q⟩
  | false =>
   rw [hb] at e;subst e
   unfold wN at hb
   refine ⟨⟨h1.1,h1.2.1,h1.2.2.1,h1.2.2.2.1,h1.2.2.2.2,λhd q=>?_⟩,λhd q=>?_⟩
   ·subst q
    rw [decide_eq_true (show (deep:Int)<12 from Int.ofNat_lt.mpr hd)] at hb
    simp at hb
   ·subst q
    rw [decide_eq_true (show (deep:Int)<12 from Int.ofNat_lt.mpr hd)] at hb
    simpa using hb
 unfold turn
 generalize e1:(bif mG mk c then 109 else c)=c1
 dsimp only
 generalize e2:(bif wN deep w c1 then 110 else c1)=c2
 obtain ⟨h2,h3⟩:=a2 c1 c2 (a1 c1 e1.symm) e2.symm
 cases hb:Bv4 bar w.length c2 with
 | true=>show PB deep mk bar (w++[111]);exact h.add rfl ⟨by decide,by decide,λZ=>by decide,λZ=>by decide,λZ=>by decide⟩ (λZ q=>by cases q) λZ Z=>by decide
 | false =>
  refine h.add h2.1 h2.2 h3 λhbar hw q=>?_
  unfold Bv4 at hb
  subst q
  subst hw
  rw [hbar] at hb
  simp at hb
noncomputable def kI (k:Int) (deep:Nat) (mk:List Nat) (bar:Bool):Nat->List Nat
 | 0=>[]
 | i+1=>kI k deep mk bar i++[turn deep mk bar (kI k deep mk bar i) i (sg ((k+(i:Int) * (1+k / 94 % 7)) % 94))]
noncomputable def tW (k:Int) (sz deep:Nat) (mk:List Nat) (bar:Bool):List Nat:=bif (deep:Int)==12&&k % 2==0 then kI k deep mk bar sz++[42,40,91,95,40,126,40] else kI k deep mk bar sz
theorem Ak6 {n:Nat}{sz deep:Nat}{mk:List Nat}(j8:1<=sz/\sz<=50) (hd:deep<=12) (Q:F8) (h:∀ t,t=tW k sz deep mk bar->PB deep mk bar t->t≠[]->t.length<=60->Q (.str t) H) :
  Ac P (n+2) "_law_plain" [.int k,.int (sz:Int),.str mk,.int (deep:Nat),.bool bar] Q H:=by
 have hlim:P0=16777216:=rfl
 refine E9 rfl rfl (F9 iq (M7 (tK (σ:=QZ) (λz=>[some (.int k),some (.int (sz:Int)),some (.str mk),some (.int (deep:Nat)),some (.bool bar),some (.str z.1),z.2.1,z.2.2]) (λi z G=>G=H/\z.1.length=i/\PB deep mk bar z.1/\z.1=kI k deep mk bar i) (n:=sz) (D7 j8.2 (by decide)) (λi z G hi hI K hK=>?_) (λz G hI=>?_) ⟨[],none,none⟩ iq ⟨rfl,rfl,.nil,rfl⟩)))
 ·obtain ⟨rfl,hw,Gi,hz⟩:=hI
  refine F9 (As2 (i:=(i:Int)) (by decide) ⟨C6 _,Int.ofNat_lt.mpr (D6 hi (D2 j8.2 (by decide)))⟩ (by exact iq) (by exact iq)) ?_
  have hc:=Bd5 ((k+(i:Int) * (1+k / 94 % 7)) % 94)
  have hpp:kI k deep mk bar (i+1)=z.1++[turn deep mk bar z.1 i (sg ((k+(i:Int) * (1+k / 94 % 7)) % 94))]:=by refine qz hz ?_;rfl
  generalize sg ((k+(i:Int) * (1+k / 94 % 7)) % 94)=c at hc hpp
  have hwl:Sg (z.1.drop (z.1.length - 1)):=Gi.sg.drop
  have ht:=Cb0 Gi hc
  rw [hw] at ht
  refine Af3 (c:=c) (b:=mG mk c) (R5 (H9 iq iq An1) λZ=>R5 (K7 (H9 iq iq aA) λZ=>M9 (H9 iq iq aA)) λZ=>Z8 (K7 (H9 iq iq Y2) λZ=>M9 (H9 iq iq aA))) rfl ?_
  refine Af3 (c:=bif mG mk c then 109 else c) (b:=wN deep z.1 (bif mG mk c then 109 else c)) (K7 (H9 iq iq aZ) λZ=>M9 (R5 (H9 iq iq aA) λZ=>Z8 (K7 (H9 iq iq aA) λZ=>M9 (Q0 (H9 (jX iq (D0 V.str (Ak3 z.1))) iq (Br4 hwl)) (Cy1 z.1))))) rfl ?_
  refine Af3 (c:=bif wN deep z.1 (bif mG mk c then 109 else c) then 110 else (bif mG mk c then 109 else c)) (b:=Bv4 bar i (bif wN deep z.1 (bif mG mk c then 109 else c) then 110 else (bif mG mk c then 109 else c))) (K7 iq λZ=>K7 (H9 iq iq Y2) λZ=>M9 (H9 iq iq aA)) rfl ?_
  refine F9 (K0 iq iq (bC ?_)) (hK ⟨_,_,_⟩ _ ⟨rfl,?_,ht,hpp.symm⟩)
  ·exact qz hw (D2 hi (D2 j8.2 (by show 50<=16777216;decide)))
  ·refine qz D4 (qz hw ?_);rfl
 ·obtain ⟨rfl,hw,Gi,hz⟩:=hI
  have f6:z.1≠[]:=λq=>by rw [q] at hw;exact absurd hw (D1 j8.1)
  have ev:∀ {C:Calls},Ev C [some (.int k),some (.int (sz:Int)),some (.str mk),some (.int (deep:Nat)),some (.bool bar),some (.str z.1),z.2.1,z.2.2] G (.and [.cmp .eq J3 (.int 12),.cmp .eq (.bin .mod J0 (.int 2)) (.int 0)]) (.bool ((deep:Int)==12&&k % 2==0)):=K7 (H9 iq iq Y2) λZ=>M9 (H9 (K0 iq iq (Q8 (by decide))) iq Y2)
  cases hb:((deep:Int)==12&&k % 2==0) with
  | false=>rw [hb] at ev;exact E8 ev (O0 iq (h _ (by unfold tW;refine qz hb (qz hz ?_);rfl) Gi f6 (qz hw (D2 j8.2 (by decide)))))
  | true =>
   rw [hb] at ev
   have h12:¬ deep<12:=λq=>by
    have:=Int.ofNat.inj (beq_iff_eq.mp (B6 hb).1)
    exact Nat.lt_irrefl _ (this▸q)
   refine H7 ev (F9 (K0 iq iq (bC (qz hw (D2 (C4 j8.2 7) (by show 50+7<=16777216;decide))))) (O0 (ss:=[]) iq (h _ (by unfold tW;refine qz hb (qz hz ?_);rfl) ⟨Gi.sg.app (by unfold Sg;decide),λc q=>?_,λhd=>absurd hd h12,λq=>?_⟩ (λq=>?_) (qz D4 (qz hw (D2 (C4 j8.2 7) (by decide)))))))
   ·rcases C0 q with q|q
    ·exact Gi.all c q
    ·have:∀ c∈[42,40,91,95,40,126,40],c≠92/\c≠96/\c≠41/\c≠93:=by decide
     have:=this c q
     exact ⟨this.1,this.2.1,λZ=>this.2.2.1,λZ=>this.2.2.2,λhd=>absurd hd h12⟩
   ·have:=Gi.bar q
    cases hy:z.1 with
    | nil=>exact absurd hy f6
    | cons y r=>rw [hy] at this;exact this
   ·exact f6 (List.append_eq_nil_iff.mp q).1
noncomputable def kdO:Option Nat->Kd
 | some _=>.sp
 | none=>.lb
noncomputable def GX:List T->T2->Prop
 | b6,[]=>R7 0 .top b6
 | b6,(kd,p)::b4=>(R7 (b4.length+1) (kdO kd) b6/\b4.length<12/\∀ c,kd=some c->[42,95,126].contains c=true)/\GX p b4
theorem GX.good {b6:List T}:∀ {b4:T2},GX b6 b4->R7 b4.length (eT b4) b6
 | []=>λh=>h
 | (some _,p)::b4=>λh=>h.1.1
 | (none,p)::b4=>λh=>h.1.1
theorem GX.set {b6 cur':List T}:∀ {b4:T2},GX b6 b4->R7 b4.length (eT b4) cur'->GX cur' b4
 | []=>λZ h=>h
 | (some _,p)::b4=>λh k=>⟨⟨k,h.1.2⟩,h.2⟩
 | (none,p)::b4=>λh k=>⟨⟨k,h.1.2⟩,h.2⟩
theorem GX.deep {b6:List T}:∀ {b4:T2},GX b6 b4->b4.length<=12:=by
 intro b4
 induction b4 with
 | nil=>exact λZ=>D8 _
 | cons x b4 ih=>exact λh=>h.1.2.1
theorem R7.len {deep:Nat}(h:R7 deep kd ts):ts.length<=(Ab ts).length:=by
 have add:∀ {ts:List T}{t:T},ts.length<=(Ab ts).length->1<=(Aj t).length->(ts++[t]).length<=(Ab (ts++[t])).length:=λ{ts t} h1 h2=>by
  exact qz (N7 _ _) (qz (M8 _) (qz D4 (qz D4 (B3 h1 h2))))
 induction h with
 | nil=>exact D3 _
 | Al _ _ hp _ ih=>exact add ih (List.length_pos_iff.mpr hp.ne)
 | kept _ ih=>exact add ih (E0 (D8 _))
 | code _ _ ih=>exact add ih (E0 (D8 _))
 | span _ _ _ _ ih _=>exact add ih (E0 (D8 _))
 | @link _ _ _ _ g _ _ _ _ ih _=>exact add ih (by cases g<;>exact E0 (D8 _))
noncomputable def Ad5 (kd:Option Nat) (ts:List T) (k:Int) (b:Bool):T:=match kd with
 | some c=>.span c ts b
 | none=>bif b&&decide (0<k % 3) then .link ts (some (Ai (k / 3) (U5 (k / 300)) 41)) true else .link ts none b
structure Av1 (kd:Option Nat) (ts:List T) (k:Int) (b:Bool) (t:T) (tail:List Nat):Prop where
 eq:t=Ad5 kd ts k b
 row:Aj t=cR kd++Ab ts++tail
 sg:Sg tail
 len:tail.length<=54
 Dt:(∃ c,kd=some c/\t=.span c ts b)∨(kd=none/\(t=.link ts none b∨(b=true/\∃ g,(∀ c∈g,c≠41)/\t=.link ts (some g) true)))
noncomputable def mkC:T2->List Nat
 | []=>[]
 | (kd,_)::_=>mkV kd
theorem gJ:∀ {as:List Nat}{b4:T2},as.length=b4.length->∃ r,Z0 A0 as b4=r++[ent (mkC b4) (here A0 as)]
 | [],[],_=>⟨[],rfl⟩
 | a::as,(kd,p)::b4,h=>⟨Z0 A0 as b4,rfl⟩
theorem Bt4 {b6:List T}(h:wE G b6 a (a+1) G.length):N8 G (i0 (.span c b6 b)) a G.length (lN c a b):=by
 have d6:=h.le
 obtain ⟨l,h1,h2⟩:=h
 exact yO ⟨D3 _,d6,E4 _,D3 _⟩ h1 h2
theorem zI {b6:List T}(h:wE G b6 a (a+1) G.length):N8 G (i0 (.link b6 g b)) a G.length (X5 a g b):=by
 have d6:=h.le
 obtain ⟨l,h1,h2⟩:=h
 exact pF ⟨D3 _,d6,E4 _,D3 _⟩ h1 h2
theorem T8 (ho:Ev C ρ H o (.ref a)) (k:L0 C e ρ (λv Hw=>Cy (W2 (.ref a) v Hw) (λZ Hz=>K1 C ss ρ R Hz)) H):K1 C (.expr (.append o e)::ss) ρ R H:=ho _ k
theorem Bi2 {n a:Nat}{b6 p:List T}{b4:T2}(h:lI H0 (a::as) b6 ((kd,p)::b4) H) (hl:p.length<=1000000)
  (hQ:∀ t tail G,Av1 kd b6 k b t tail->lI H0 as (p++[t]) b4 G->Q .none G):Ac P (n+3) "_law_end" [.ref (H0.length+1),.int k,.bool b] Q H:=by
 have hlim:P0=16777216:=rfl
 obtain ⟨h1,h2,h3⟩:=h.pop
 obtain ⟨r,hr⟩:=gJ (A0:=H0.length) h1.lv.lens
 have hp1:=h1.pile.trans (D0 some hr)
 refine E9 rfl rfl (Bc4 iq h.pile (F9 (L6 (L6 iq iq (Q6 hp1)) iq (c:=.ref (here H0.length as)) rfl) ?_))
 have fin:∀ {t:T}{v:V}{tail:List Nat}{R:O3}{ρ:M6},(∀ G,Q .none G->R .next ρ G)->Av1 kd b6 k b t tail->(∀ G,wE G b6 a (a+1) G.length->N8 G (i0 t) a G.length v)->∃ l,(H.set (H0.length+1) (Z0 H0.length as b4))[here H0.length as]? = some l/\l.length<P0/\R .next ρ ((H.set (H0.length+1) (Z0 H0.length as b4)).set (here H0.length as) (l++[v])):=λ{t v tail R ρ} hR ht hv=>by
  obtain ⟨l,g1,g2,g3⟩:=h.Dj hv
  exact ⟨l,g1,by exact S5 (U1 (A4 g2) (U1 hl (A4 hlim.symm))),hR _ (hQ t tail _ ht g3)⟩
 cases kd with
 | some c =>
  apply Ah;intro g9 k9
  obtain ⟨l,g1,g2,g3⟩:=fin (tail:=if b then [41] else []) (R:=R8 (Ac P (n+2)) [] (S1 Q)) (ρ:=[some (.ref (H0.length+1)),some (.int k),some (.bool b),some (ent [c,40] a),some (.ref (here H0.length as))]) (λG q=>q) (t:=.span c b6 b) (v:=lN c a b) ⟨rfl,rfl,by cases b<;>(unfold Sg;decide),by cases b<;>decide,Or.inl ⟨c,rfl,rfl⟩⟩ λG h=>Bt4 h
  apply k9
  exact H7 (Q0 (H9 iq iq nK) (by show (![c,40]==[91])=true;simp)) (N3 iq iq g1 g2 g3)
 | none =>
  refine G8 iq ?_
  have ev:∀ {C:Calls}{x4:Option V}{G:Heap},Ev C [some (.ref (H0.length+1)),some (.int k),some (.bool b),some (ent [91] a),x4] G (.and [J2,.cmp .gt (.bin .mod J1 (.int 3)) (.int 0)]) (.bool (b&&decide (0<k % 3))):=K7 iq λZ=>M9 (H9 (K0 iq iq (Q8 (by decide))) iq Z6)
  cases hb:(b&&decide (0<k % 3)) with
  | true =>
   rw [hb] at ev
   have hbt:b=true:=(B6 hb).1
   subst hbt
   refine H7 ev (T8 (a:=here H0.length as) iq (T5 (K5 (v:=.str [108,105,110,107]) (by exact iq) (K5 (v:=.ref a) (by exact iq) (R0 (I8 (K0 iq iq (R4 (by decide))) (I8 (K4 (I8 (K0 iq iq (R4 (by decide))) Q7) mU) (I8 (by exact iq) Q7))) (cX (n:=n) (by decide) (V0 _) _ (K5 (v:=.bool true) (by exact iq) (K8 ?_))))))))
   obtain ⟨Ek,Ew,Gn⟩:=aX (k:=k / 3) (m:=U5 (k / 300)) (x:=41) (by decide) (V0 _)
   have heq:T.link b6 (some (Ai (k / 3) (U5 (k / 300)) 41)) true=Ad5 none b6 k true:=by unfold Ad5;dsimp only;refine qz hb ?_;rfl
   generalize Ai (k / 3) (U5 (k / 300)) 41=g at Ek Ew Gn heq
   obtain ⟨l,g1,g2,g3⟩:=fin (tail:=[93,40]++g++[41]) (R:=R8 (Ac P (n+2)) [] (R8 (Ac P (n+2)) [] (S1 Q))) (ρ:=[some (.ref (H0.length+1)),some (.int k),some (.bool true),some (ent [91] a),some (.ref (here H0.length as))]) (λG q=>q) (t:=.link b6 (some g) true) (v:=X5 a (some g) true) ⟨heq,by show [91]++Ab b6++[93,40]++g++[41]=[91]++Ab b6++([93,40]++g++[41]);simp only [D5],(Sg.app (Sg.app (by unfold Sg;decide) Ek) (by unfold Sg;decide)),by refine qz D4 (qz D4 ?_);show 2+g.length+1<=54;exact S5 Gn,Or.inr ⟨rfl,Or.inr ⟨rfl,g,Ew,rfl⟩⟩⟩ λG h=>zI h
   exact Q4 g1 g2 g3
  | false =>
   rw [hb] at ev
   obtain ⟨l,g1,g2,g3⟩:=fin (tail:=if b then [93] else []) (R:=R8 (Ac P (n+2)) [] (R8 (Ac P (n+2)) [] (S1 Q))) (ρ:=[some (.ref (H0.length+1)),some (.int k),some (.bool b),some (ent [91] a),some (.ref (here H0.length as))]) (λG q=>q) (t:=.link b6 none b) (v:=X5 a none b) ⟨by unfold Ad5;dsimp only;refine qz hb ?_;rfl,rfl,by cases b<;>(unfold Sg;decide),by cases b<;>decide,Or.inr ⟨rfl,Or.inl rfl⟩⟩ λG h=>zI h
   exact G8 ev (N3 iq iq g1 g2 g3)
noncomputable def Cu8:T->Bool
 | .link _ g _=>g.isNone
 | _=>false
noncomputable def Ad6 (ts:List T):Bool:=match ts.getLast? with
 | some t=>Cu8 t
 | none=>false
theorem tA:Ad6 (us++[t])=Cu8 t:=by
 unfold Ad6;refine qz List.getLast?_append ?_;rfl
theorem At8 (h:bF ts):Ad6 ts=true:=by
 obtain ⟨us,vs,rfl⟩:=h;exact tA
noncomputable def txT:T->Bool
 | .Al _=>true
 | _=>false
noncomputable def Dx (ts:List T):Bool:=match ts.getLast? with
 | some t=>txT t
 | none=>false
theorem sU:Dx (us++[t])=txT t:=by
 unfold Dx;refine qz List.getLast?_append ?_;rfl
theorem Ct9 (h:Dx ts=false):eO ts:=by
 rintro us s rfl
 rw [sU] at h
 cases h
theorem V4 {α:Type}(l:List α):l=[]∨∃ r x,l=r++[x]:=by
 rcases List.eq_nil_or_concat l with h|⟨r,x,h⟩
 ·exact Or.inl h
 ·exact Or.inr ⟨r,x,qz h (qz List.concat_eq_append rfl)⟩
theorem yU (h:M1 H (M0 (us++[t])) lo hi l):∃ r v p,l=r++[v]/\M1 H (M0 us) lo p r/\p<=hi/\N8 H (i0 t) p hi v:=by
 rw [pL] at h
 apply Ah;intro g9 k9
 obtain ⟨r,b,m,rfl,h1,h2⟩:=h.cut
 obtain ⟨v,b',m',rfl,h3,h4,h5,rfl⟩:=h2
 apply k9
 exact ⟨r,v,m,rfl,h1,D2 h3 h5,h4.wide (D3 _) h5⟩
theorem gt0 (he:Ev C ρ H e (.ref a)) (ha:H[a]? = some (r++[v])):Ev C ρ H (.cmp .gt (.len e) (.int 0)) (.bool true) :=
 Q0 (H9 (Q1 he (P6 ha)) G9 Z6) (decide_eq_true (by refine qz D4 ?_;show (0:Int)<((r.length+1:Nat):Int);exact Int.ofNat_lt.mpr ((by simp +arith only))))
theorem Cu2 (he:Ev C ρ H e (.ref a)) (ha:H[a]? = some []):Ev C ρ H (.cmp .gt (.len e) (.int 0)) (.bool false) :=
 H9 (Q1 he (P6 ha)) G9 Z6
theorem fD (h1:Ev C ρ H e (.bool false)):Ev C ρ H (.and (e::f::es)) (.bool false):=K7 (b2:=true) h1 λq=>xF q
theorem kG (h1:Ev C ρ H e (.bool true)) (h2:Ev C ρ H (.and (f::es)) (.bool b)):Ev C ρ H (.and (e::f::es)) (.bool b):=K7 h1 λZ=>h2
theorem Bb6 {n a lo hi:Nat}(ha:H[a]? = some l) (hr:M1 H (M0 ts) lo hi l) (hn:eO ts) (Q:F8) (h:Q (.bool (Ad6 ts)) H):Ac P (n+1) "_law_barred" [.ref a] Q H:=by
 refine E9 rfl rfl ?_
 rcases V4 ts with rfl|⟨us,t,rfl⟩
 ·obtain ⟨_,rfl⟩:=hr
  exact O0 (fD (Cu2 iq ha)) h
 ·apply Ah;intro g9 k9
  obtain ⟨r,v,p,rfl,h1,h2,h3⟩:=yU hr
  apply k9
  rw [tA] at h
  have hl:∀ {C:Calls},Ev C [some (.ref a)] H (.idx J0 (.neg 1)) v:=L6 iq iq (Q6 ha)
  have no:∀ {s:List Nat}{w:List V},v=.tup (.str s::w)->(s==[108,105,110,107])=false->Ev (Ac P n) [some (.ref a)] H (.and [.cmp .gt (.len J0) (.int 0),.cmp .eq (.idx (.idx J0 (.neg 1)) (.int 0)) (.str [108,105,110,107]),.is (.idx (.idx J0 (.neg 1)) (.int 2)) .none]) (.bool false):=λhv hs =>
   kG (gt0 iq ha) (fD (Q0 (H9 (L6 (jX hl hv) G9 cH) S7 aA) hs))
  cases t with
  | Al s=>exact absurd rfl (hn us s)
  | kept s=>exact O0 (no (cA h3) rfl) h
  | code s b=>exact O0 (no (cB h3) rfl) h
  | span c vs b=>obtain ⟨b',e,_⟩:=bY h3;exact O0 (no e rfl) h
  | link vs g b =>
   obtain ⟨b',e,_⟩:=bZ h3
   subst e
   have h2':cL (X5 b' g b) (.int 2) H=some (aV (gA g)):=by rfl
   refine O0 (kG (gt0 iq ha) (kG (H9 (L6 hl G9 cH) S7 aA) (M9 (Q0 (Dd1 (L6 hl G9 h2')) ?_)))) h
   cases g<;>rfl
theorem Cw1 (he:Ev C ρ H e (.ref a)) (ha:H[a]? = some l) (hr:M1 H (M0 ts) lo hi l) :
  Ev C ρ H (.and [.cmp .gt (.len e) (.int 0),.Ae (.idx e (.neg 1)) .str]) (.bool (Dx ts)):=by
 rcases V4 ts with rfl|⟨us,t,rfl⟩
 ·obtain ⟨_,rfl⟩:=hr
  exact fD (Cu2 he ha)
 ·obtain ⟨r,v,p,rfl,h1,h2,h3⟩:=yU hr
  refine qz sU ?_
  refine kG (gt0 he ha) (M9 (Q0 (kF (L6 he bB (Q6 ha))) ?_))
  cases t with
  | Al s=>obtain rfl:v=.str s:=h3;rfl
  | kept s=>refine qz (cA h3) ?_;rfl
  | code s b=>refine qz (cB h3) ?_;rfl
  | span c vs b=>obtain ⟨b',e,_⟩:=bY h3;refine qz e ?_;rfl
  | link vs g b=>obtain ⟨b',e,_⟩:=bZ h3;refine qz e ?_;rfl
structure BG (H0:Heap) (as:List Nat) (b6:List T) (b4:T2) (H:Heap) (N:Nat):Prop where
 st:lI H0 as b6 b4 H
 gx:GX b6 b4
 sg:Sg (Bg b4 b6)
 len:(Bg b4 b6).length<=N
theorem uR:∀ (b4:T2) (b6:List T),(Ab b6).length<=(Bg b4 b6).length
 | []=>λb6=>D3 _
 | (kd,p)::b4=>λb6=>by
  show _<=(Bg b4 p++cR kd++Ab b6).length
  exact qz D4 (A7 _ _)
theorem BG.many {H0 as b6 b4 H N}(h:BG H0 as b6 b4 H N):b6.length<=N:=D2 h.gx.good.len (D2 (uR _ _) h.len)
theorem BG.add {H0 as b6 b4 H N}(h:BG H0 as b6 b4 H N) (hs:lI H0 as (b6++[t]) b4 G) (hg:R7 b4.length (eT b4) (b6++[t])) (h1:Sg (Aj t)) (h2:(Aj t).length<=70):BG H0 as (b6++[t]) b4 G (N+80):=by
 refine ⟨hs,h.gx.set hg,?_,?_⟩
 ·exact qz (cY _ _ _) (qz (M8 _) (h.sg.app h1))
 ·exact qz (cY _ _ _) (qz (M8 _) (qz D4 (B3 h.len (D2 h2 (by decide)))))
theorem Bp9 (h:∀ c,kd=some c->[42,95,126].contains c=true):Sg (cR kd)/\(cR kd).length<=2:=by
 cases kd with
 | none=>exact ⟨by unfold Sg;decide,by decide⟩
 | some c =>
  have hc:=h c rfl
  refine ⟨λd hd=>?_,D3 _⟩
  have q:∀ c:Nat,[42,95,126].contains c=true->qU c=true:=λc hc=>by
   have:∀ c∈[42,95,126],qU c=true:=by decide
   exact this c (List.contains_iff_mem.mp hc)
  rcases B0 hd with rfl|hd
  ·exact q _ hc
  ·refine qz (B1 hd) ?_;rfl
theorem BG.open {H0 as b6 b4 H N}(h:BG H0 as b6 b4 H N) (hs:lI H0 (H.length::as) [] ((kd,b6)::b4) G) (hd:b4.length<12) (hk:∀ c,kd=some c->[42,95,126].contains c=true):BG H0 (H.length::as) [] ((kd,b6)::b4) G (N+80):=by
 have ho:=Bp9 hk
 refine ⟨hs,⟨⟨.nil,hd,hk⟩,h.gx⟩,?_,?_⟩
 ·show Sg (Bg b4 b6++cR kd++[])
  exact qz (List.append_nil _) (h.sg.app ho.1)
 ·show (Bg b4 b6++cR kd++[]).length<=_
  refine qz (List.append_nil _) (qz D4 ?_);have:=h.len;exact S5 (U1 ho.2 this)
theorem zA {deep:Nat}{tail:List Nat}(h:Av1 kd us z true t tail) (hd:deep<12) (hk:∀ c,kd=some c->[42,95,126].contains c=true) (hg:R7 deep k ts) (hu:R7 (deep+1) (kdO kd) us):R7 deep k (ts++[t]):=by
 rcases h.Dt with ⟨c,rfl,rfl⟩|⟨rfl,rfl|⟨_,g,hg',rfl⟩⟩
 ·exact .span hg hd (hk c rfl) hu
 ·exact .link hg hd (λs q=>xN q) hu
 ·exact .link hg hd (λs q=>by cases q;exact hg') hu
theorem BG.Dj {H0 a as b6 kd p b4 H N}{tail:List Nat}(h:BG H0 (a::as) b6 ((kd,p)::b4) H N) (he:Av1 kd b6 z true t tail) (hs:lI H0 as (p++[t]) b4 G):BG H0 as (p++[t]) b4 G (N+80):=by
 obtain ⟨h1,h2⟩:=h.gx
 have e:Bg b4 (p++[t])=Bg ((kd,p)::b4) b6++tail:=by
  refine qz (cY _ _ _) (qz (M8 _) (qz he.row ?_))
  show _=Bg b4 p++cR kd++Ab b6++tail
  simp only [D5]
 refine ⟨hs,h2.set (zA he h1.2.1 h1.2.2 h2.good h1.1),?_,?_⟩
 ·exact qz e (h.sg.app he.sg)
 ·refine qz e (qz D4 ?_);have:=h.len;have:=he.len;lia
theorem Bp8 {b4:T2}(h:PB b4.length (mkC b4) b t) (f6:t≠[]):W3 b4.length (eT b4) t:=by
 have k1:(eT b4=.sp->(mkC b4).length=2)/\(eT b4=.lb->mkC b4=[91]):=by
  cases b4 with
  | nil=>exact ⟨λq=>(nomatch q),λq=>(nomatch q)⟩
  | cons x b4 =>
   obtain ⟨kd,p⟩:=x
   cases kd with
   | none=>exact ⟨λq=>(nomatch q),λZ=>rfl⟩
   | some c=>exact ⟨λZ=>rfl,λq=>(nomatch q)⟩
 exact ⟨f6,λc hc=>⟨(h.all c hc).1,(h.all c hc).2.1,λq=>(h.all c hc).2.2.1 (k1.1 q),λq=>(h.all c hc).2.2.2.1 (k1.2 q),(h.all c hc).2.2.2.2⟩,h.pair⟩
theorem Cp4 (z:Int):∃ c,slice (slice [42,40,95,40,126,40] (some (z % 3 * 2)) none) none (some 2)=[c,40]/\[42,95,126].contains c=true:=by
 have h:z % 3=0∨z % 3=1∨z % 3=2:=by lia
 rcases h with h|h|h<;>refine qz h ?_
 ·exact ⟨42,by decide,rfl⟩
 ·exact ⟨95,by decide,rfl⟩
 ·exact ⟨126,by decide,rfl⟩
noncomputable def Be1 (k:Int):Nat:=((slice (slice [42,40,95,40,126,40] (some (k % 3 * 2)) none) none (some 2)).head?).getD 42
noncomputable def wK (b6:List T) (b4:T2) (m9 k:Int):List T×T2 :=
 bif decide (m9<3)&&!Dx b6 then (b6++[.Al (tW k (1+U5 (k / 700)).toNat b4.length (mkC b4) (Ad6 b6))],b4)
 else bif m9==4 then (b6++[.code (Ai k (U5 (k / 500)) 96) true],b4)
 else bif m9==5&&decide ((b4.length:Int)<12) then ([],(some (Be1 k),b6)::b4)
 else bif (m9==6||m9==7)&&decide ((b4.length:Int)<12) then ([],(none,b6)::b4)
 else bif m9==8&&decide (0<(b4.length:Int)) then (match b4 with
  | (kd,p)::b8=>(p++[Ad5 kd b6 k true],b8)
  | []=>(b6,[]))
 else (b6++[.kept [sg (k % 94)]],b4)
noncomputable def wL (s:List T×T2) (c:Int):List T×T2:=wK s.1 s.2 (c * 48271 % 2147483647 % 9) (c * 48271 % 2147483647 / 9)
theorem Cd9 {n N:Nat}{b6:List T}{b4:T2}(h:BG H0 as b6 b4 H N) (hN:N<=100000)
  (hQ:∀ as' cur' b8 G,wL (b6,b4) c=(cur',b8)->BG H0 as' cur' b8 G (N+80)->Q .none G):Ac P (n+4) "_law_put" [.ref (H0.length+1),.int c] Q H:=by
 have h1l:(100000:Nat)<P0:=by show 100000<16777216;decide
 apply Ah;intro g9 k9
 obtain ⟨r,hr⟩:=gJ (A0:=H0.length) h.st.lv.lens
 have hp:=h.st.pile.trans (D0 some hr)
 have hel:(r++[ent (mkC b4) (here H0.length as)]).length=b4.length+1:=hr▸fK h.st.lv.lens
 obtain ⟨⟨l,g1,g2⟩,_,_⟩:=h.st.lv.head
 apply k9
 have Ck:l.length<P0:=qz g2.len (qz (V9 _) (D7 (D2 h.many hN) h1l))
 have hd12:=h.gx.deep
 have hpf:wL (b6,b4) c=wK b6 b4 (c * 48271 % 2147483647 % 9) (c * 48271 % 2147483647 / 9):=rfl
 have cat:∀ {t:T}{v:V},wL (b6,b4) c=(b6++[t],b4)->N8 H (i0 t) H.length H.length v->R7 b4.length (eT b4) (b6++[t])->Sg (Aj t)->(Aj t).length<=70->Q .none (H.set (here H0.length as) (l++[v])):=λhe hv hg h1 h2 =>
  hQ _ _ _ _ he (h.add (h.st.upd (g2.Fc (D3 _) hv)) hg h1 h2)
 have hgd:=h.gx.good
 refine E9 rfl rfl (F9 (K0 (K0 iq G9 (hU (Or.inr (by decide)))) G9 (Q8 (by decide))) ?_)
 generalize c * 48271 % 2147483647=m at hpf
 refine F9 (K0 iq G9 (Q8 (by decide))) (F9 (K0 iq G9 (R4 (by decide))) (F9 (jX (K0 (Q1 iq (P6 hp)) G9 oL) (v':=.int (b4.length:Nat)) (D0 V.int (qz hel (Int.add_sub_cancel (b4.length:Int) 1)))) (F9 (L6 (L6 iq iq (Q6 hp)) iq (c:=.ref (here H0.length as)) rfl) ?_)))
 generalize m % 9=m9 at hpf
 generalize m / 9=k at hpf
 refine Z9 (b:=decide (m9<3)&&!Dx b6) (K7 (H9 iq G9 aZ) λZ=>M9 (bR (Cw1 iq g1 g2))) (λht=>?_) (λf1=>?_)
 ·have hn:eO b6:=Ct9 (by have:=(B6 ht).2;revert this;cases Dx b6<;>decide)
  obtain ⟨sz,j8,hsz3⟩:∃ sz:Nat,(1+U5 (k / 700)=(sz:Int)/\1<=sz/\sz<=50)/\(1+U5 (k / 700)).toNat=sz:=⟨_,⟨(tY (Int.le_add_of_nonneg_right (V0 _).1)).1,(tY (Int.le_add_of_nonneg_right (V0 _).1)).2,Int.toNat_le.mpr (Int.add_le_add_left (Int.le_of_lt_add_one (b:=49) (Int.lt_trans (V0 _).2 (by decide))) 1)⟩,rfl⟩
  refine F9 (jX (K0 G9 (K4 (I8 (K0 iq G9 (R4 (by decide))) Q7) mU) U3) (D0 V.int j8.1)) (fJ (a:=here H0.length as) (by exact iq) (I8 (by exact iq) (I8 (by exact iq) (I8 (v:=.str (mkC b4)) (L6 (L6 (by exact iq) (by exact iq) (Q6 hp)) G9 cH) (I8 (by exact iq) (I8 (K4 (I8 (by exact iq) Q7) (Bb6 g1 g2 hn)) Q7))))) (Ak6 (n:=n+1) j8.2 hd12 _ λt het Gi f6 b7=>Q4 g1 Ck (cat (t:=.Al t) (by refine qz hpf ?_;unfold wK;refine qz ht (qz hsz3 (qz het.symm ?_));rfl) rfl (.Al hgd hn (Bp8 Gi f6) λhb=>Gi.bar (At8 hb)) Gi.sg (D2 b7 (by decide)))))
 refine Z9 (b:=m9==4) (H9 iq G9 Y2) (λt2=>?_) (λf2=>?_)
 ·refine T8 (a:=here H0.length as) (by exact iq) (T5 (K5 (v:=.str [99,111,100,101]) (by exact iq) (R0 (I8 (by exact iq) (I8 (K4 (I8 (K0 iq G9 (R4 (by decide))) Q7) mU) (I8 (by exact iq) Q7))) (cX (n:=n+1) (by decide) (V0 _) _ (K5 (v:=.bool true) (by exact iq) (K8 ?_))))))
  apply Ah;intro g9 k9
  obtain ⟨Ek,Ew,Gn⟩:=aX (k:=k) (m:=U5 (k / 500)) (x:=96) (by decide) (V0 _)
  apply k9
  have heq:wL (b6,b4) c=(b6++[.code (Ai k (U5 (k / 500)) 96) true],b4):=by refine qz hpf ?_;unfold wK;rw [f1];refine qz t2 ?_;rfl
  generalize Ai k (U5 (k / 500)) 96=g at Ek Ew Gn heq
  refine Q4 g1 Ck (cat (t:=.code g true) heq (jQ (D3 _)) (.code hgd Ew) (Sg.app (Sg.app (a:=[96]) (by unfold Sg;decide) Ek) (by unfold Sg;decide)) ?_)
  show ([96]++g++[96]).length<=70
  exact qz D4 (qz D4 (D2 (E0 (A6 Gn 1)) (by decide)))
 have deep:∀ {b:Bool},(b&&decide ((b4.length:Int)<12))=true->b4.length<12:=λq=>by
  exact Int.ofNat_lt.mp (of_decide_eq_true (B6 q).2)
 have hp2:∀ x,(H++[x])[H0.length+1]? = some (Z0 H0.length as b4):=λx=>by
  exact qz (List.getElem?_append_left h.st.len) h.st.pile
 have hpl:(Z0 H0.length as b4).length<P0:=qz (fK h.st.lv.lens) (D7 (D2 (E0 hd12) (by decide)) h1l)
 refine Z9 (b:=m9==5&&decide ((b4.length:Int)<12)) (K7 (H9 iq G9 Y2) λZ=>M9 (H9 iq G9 aZ)) (λht=>?_) (λf3=>?_)
 ·obtain ⟨c',hc1,hc2⟩:=Cp4 k
  have hmk:Be1 k=c':=by unfold Be1;refine qz hc1 ?_;rfl
  exact T8 (a:=H0.length+1) (by exact iq) (T5 (K5 (v:=.str [c',40]) (Ae0 (Ad9 S7 (K0 (K0 (by exact iq) G9 (Q8 (by decide))) G9 (hU (Or.inr (by decide)))) tI) G9 (D0 (λx=>some (V.str x,H)) hc1)) (cW (Q4 (hp2 _) hpl (hQ _ _ _ _ (by refine qz hpf ?_;unfold wK;rw [f1,f2,ht];refine qz hmk ?_;rfl) (h.open (kd:=some c') h.st.push (deep ht) λc q=>Option.some.inj q▸hc2))))))
 refine Z9 (b:=(m9==6||m9==7)&&decide ((b4.length:Int)<12)) (K7 (R5 (H9 iq G9 Y2) λZ=>Z8 (H9 iq G9 Y2)) λZ=>M9 (H9 iq G9 aZ)) (λht=>?_) (λf4=>?_)
 ·exact T8 (a:=H0.length+1) (by exact iq) (T5 (K5 (v:=.str [91]) S7 (cW (Q4 (hp2 _) hpl (hQ _ _ _ _ (by refine qz hpf ?_;unfold wK;rw [f1,f2,f3];refine qz ht ?_;rfl) (h.open (kd:=none) h.st.push (deep ht) λc q=>xN q))))))
 refine Z9 (b:=m9==8&&decide (0<(b4.length:Int))) (K7 (H9 iq G9 Y2) λZ=>M9 (H9 iq G9 Z6)) (λht=>?_) (λf5=>?_)
 ·have h0:0<b4.length:=by
   exact Int.ofNat_lt.mp (of_decide_eq_true (B6 ht).2)
  clear deep hp2 hpl cat
  obtain ⟨⟨kd,p⟩,b8,rfl⟩:∃ x b8,b4=x::b8:=by
   cases b4 with
   | nil=>exact absurd h0 (Nat.lt_irrefl _)
   | cons x b8=>exact ⟨x,b8,rfl⟩
  obtain ⟨a,as',rfl,_⟩:=h.st.lv
  have hpl:p.length<=1000000:=by
   have h1:=h.gx.2.good.len
   have h2:=uR b8 p
   have h3:=h.len
   replace h3:(Bg b8 p++cR kd++Ab b6).length<=N:=h3
   rw [D4,D4] at h3
   exact D2 (D2 h1 (D2 h2 (D2 (E1 _ _) (D2 (E1 _ _) h3)))) (D2 hN (by decide))
  exact P8 (I8 (by exact iq) (I8 (by exact iq) (I8 (by exact iq) Q7))) (Bi2 (n:=n) h.st hpl λt tail G he hs=>hQ _ _ _ _ (by refine qz hpf (qz he.eq ?_);unfold wK;rw [f1,f2,f3,f4];refine qz ht ?_;rfl) (h.Dj he hs))
 ·exact N3 (v:=wY [sg (k % 94)]) (by exact iq) (iM (I8 (by exact iq) (I8 (L6 (K4 iq yH) (K0 iq G9 (Q8 (by decide))) (Cu1 (Cu0 _))) Q7))) g1 Ck (cat (t:=.kept [sg (k % 94)]) (by refine qz hpf ?_;unfold wK;rw [f1,f2,f3,f4];refine qz f5 ?_;rfl) (pG (D3 _)) (.kept hgd) (Sg.app (a:=[92]) (by unfold Sg;decide) (.one (Bd5 _))) (by show 2<=70;decide))
noncomputable def exA:A->E
 | .n=>.none
 | .b t=>.bool t
 | .i z=>.int z
 | .s w=>.str w
mutual
noncomputable def exX:X->E
 | .at a=>exA a
 | .tup xs=>.tup (Bc1 xs)
 | .lst xs=>.list (Bc1 xs)
noncomputable def Bc1:List X->List E
 | []=>[]
 | x::xs=>exX x::Bc1 xs
end
theorem Cr4:Ev C ρ H (exA a) (aV a):=by cases a<;>exact λZ h=>h
mutual
theorem oS:∀ (x:X) (Q:F8) (H:Heap),(∀ v G,K3 H G->N8 G x H.length G.length v->Q v G)->L0 C (exX x) ρ Q H
 | .at a=>λQ H h=>Cr4 _ (h _ _ .refl .atom)
 | .tup xs=>λQ H h=>T5 (nA xs _ _ λl G g r=>h _ _ g ⟨l,rfl,r⟩)
 | .lst xs=>λQ H h=>aJ (nA xs _ _ λl G g r=>h _ _ (g.trans .one) (U7 ⟨g.len,by refine qz R6 ?_;exact D9 _,D3 _,qz R6 (E4 _)⟩ K6 (r.to (R1.one (D3 _)))))
theorem nA:∀ (xs:List X) (Q:List V->Heap->Prop) (H:Heap),(∀ l G,K3 H G->M1 G xs H.length G.length l->Q l G)->V2 C (Bc1 xs) ρ Q H
 | []=>λQ H h=>K8 (h _ _ .refl (.nil (D3 _)))
 | x::xs=>λQ H h=>Q9 (oS x _ _ λv G g r=>nA xs _ _ λl G' g' r'=>h _ _ (g.trans g') (.cons g.len (r.to (g'.old.sub (D8 _) (D3 _))) r'))
end
theorem pI (ys:List X) (he:Ev C ρ H e (.ref a)) (ha:H[a]? = some l) (hr:M1 H xs lo H.length l) (hn:xs.length+ys.length<=100)
  (k:∀ a' l' G,K3 H G->G[a']? = some l'->M1 G (xs++ys) lo G.length l'->Q (.ref a') G):L0 C (.bin .add e (.list (Bc1 ys))) ρ Q H:=by
 have hlim:P0=16777216:=rfl
 refine cQ (he _ (aJ (nA ys _ _ λm G g r=>?_)))
 refine hO (P9 ((g.old a (D8 _) (A3 ha).1).trans ha)) K6 (qz hr.len (qz r.len (D2 hn (by show 100<=16777216;decide)))) ?_
 refine k _ _ _ (g.trans eN) K6 ?_
 have e2:=wX (H:=G) (l:=m) (l':=l++m)
 have ge:R1 G (G++[m]++[l++m]) 0 G.length:=eN.2
 exact M1.app ((r.to (ge.sub (D8 _) (D3 _))).wide (D3 _) (by exact qz e2 (E1 _ _))) (hr.to ((g.old.sub (D8 _) (D3 _)).trans (ge.sub (D8 _) g.len)))
noncomputable def tX:List Nat->Bool
 | c::d::r=>!([42,95,126].contains c&&d==40)&&tX (d::r)
 | _=>true
theorem sR:∀ {s:List Nat},tX s=true->∀ a b c,s=a++c::40::b->[42,95,126].contains c=false
 | []=>λZ a b c e=>absurd e (by simp)
 | [x]=>λZ a b c e=>absurd e (by intro q;have:=D0 List.length q;simp at this;exact absurd (S5 (L:=1) (R:=0) (A4 this.symm)) (by decide))
 | x::y::r=>λh a b c e=>by
  replace h:(!([42,95,126].contains x&&y==40)&&tX (y::r))=true:=h
  obtain ⟨h1,h2⟩:=B6 h
  cases a with
  | nil =>
   have e1:x=c:=(List.cons.inj e).1
   have e2:y=40:=(List.cons.inj (List.cons.inj e).2).1
   subst e1;subst e2
   simpa using h1
  | cons z a=>exact sR h2 a b c (List.cons.inj e).2
noncomputable def pc (s:List Nat):Bool:=s != []&&s.all (λc=>c != 92&&c != 96&&c != 41&&c != 93&&c != 91)&&tX s
theorem Bx {deep:Nat}(h:pc s=true):W3 deep kd s:=by
 obtain ⟨h,h3⟩:=B6 h
 obtain ⟨h1,h2⟩:=B6 h
 refine ⟨by simpa using h1,λc hc=>?_,λZ=>sR h3⟩
 have:=List.all_eq_true.mp h2 c hc
 simp at this
 exact ⟨this.1.1.1.1,this.1.1.1.2,λZ=>this.1.1.2,λZ=>this.1.2,λZ=>this.2⟩
theorem Bh5 (h:Ad6 ts=false):¬ bF ts:=λq=>by rw [At8 q] at h;cases h
theorem wZ {deep:Nat}(hg:R7 deep kd ts) (h:pc s=true) (h1:Dx ts=false) (h2:Ad6 ts=false):R7 deep kd (ts++[.Al s]) :=
 .Al hg (Ct9 h1) (Bx h) λq=>absurd q (Bh5 h2)
theorem iS {deep:Nat}(h:pc s=true):R7 deep kd [.Al s]:=wZ (ts:=[]) .nil h rfl rfl
noncomputable def kK:List (List T):=[[.Al [108,97,98,101,108]],[],[.Al [97],.kept [93],.Al [98,42]],[.span 95 [.Al [99],.code [93] true] true],
 [.Al [115,101,101,32],.link [.Al [100]] (some [101]) true,.Al [40,102]],[.link [.span 42 [.Al [103]] true] none true],
 [.kept [120],.span 126 [.link [.Al [104]] (some [105]) true] true,.Al [106]],[.link [.link [.Al [107]] (some [108]) true,.Al [109]] (some [110]) true]]
noncomputable def lbX (us:List T):X:=.lst (M0 us)
theorem Aa6 (hd:d<=8):∀ us∈kK,R7 d .lb us:=by
 have no:∀ x y:Nat,y≠x->∀ s,some [y]=some s->∀ c∈s,c≠x:=λx y h s q c hc=>by cases q;exact qz (B1 hc) h
 have l1:d<12:=D7 hd (by decide)
 have l2:d+1<12:=D7 (E0 hd) (by decide)
 intro us hu
 simp only [kK,List.mem_cons,List.not_mem_nil,_root_.or_false] at hu
 rcases hu with rfl|rfl|rfl|rfl|rfl|rfl|rfl|rfl
 ·exact iS rfl
 ·exact .nil
 ·exact wZ (ts:=[.Al [97],.kept [93]]) (.kept (ts:=[.Al [97]]) (iS rfl)) rfl rfl rfl
 ·exact .span (ts:=[]) .nil l1 rfl (.code (ts:=[.Al [99]]) (iS rfl) (by decide))
 ·exact wZ (ts:=[.Al [115,101,101,32],.link [.Al [100]] (some [101]) true]) (.link (ts:=[.Al [115,101,101,32]]) (iS rfl) l1 (no 41 101 (by decide)) (iS rfl)) rfl rfl rfl
 ·exact .link (ts:=[]) .nil l1 (λs q=>xN q) (.span (ts:=[]) .nil l2 rfl (iS rfl))
 ·exact wZ (ts:=[.kept [120],.span 126 [.link [.Al [104]] (some [105]) true] true]) (.span (ts:=[.kept [120]]) (.kept (ts:=[]) .nil) l1 rfl (.link (ts:=[]) .nil l2 (no 41 105 (by decide)) (iS rfl))) rfl rfl rfl
 ·exact .link (ts:=[]) .nil l1 (no 41 110 (by decide)) (wZ (ts:=[.link [.Al [107]] (some [108]) true]) (.link (ts:=[]) .nil l2 (no 41 108 (by decide)) (iS rfl)) rfl rfl rfl)
noncomputable def Ci1 (s:List Nat):Bool:=s.all qU&&decide (s.length<=60)
theorem jP (h:Ci1 s=true):Sg s/\s.length<=60:=⟨λc hc=>List.all_eq_true.mp (B6 h).1 c hc,of_decide_eq_true (B6 h).2⟩
theorem qJ:(kK.all λus=>Ci1 (Ab us))=true:=by rfl
structure LbT (d:Nat) (us:List T):Prop where
 good:R7 d .lb us
 sg:Sg (Ab us)
 len:(Ab us).length<=60
theorem Ba3 (hd:d<=8) (h:us∈kK):LbT d us :=
 ⟨Aa6 hd us h,(jP (List.all_eq_true.mp qJ us h)).1,(jP (List.all_eq_true.mp qJ us h)).2⟩
noncomputable def uB (k:Int) (d:Nat):List T:=bif decide (8<(d:Int)) then [.Al [108,97,98,101,108]] else (kK[(k % 8).toNat]?).getD []
theorem Br0 {n:Nat}(h:∀ us v G,us=uB k d->LbT d us->K3 H G->N8 G (.lst (M0 us)) H.length G.length v->Q v G):Ac P (n+1) "_law_label" [.int k,.int (d:Nat)] Q H:=by
 refine E9 rfl rfl (Z9 (H9 (by exact iq) G9 Z6) (λhd=>?_) (λhd=>?_))
 ·exact aH (oS (lbX [.Al [108,97,98,101,108]]) _ _ λv G g r=>h _ v G (by unfold uB;refine qz hd ?_;rfl) ⟨iS rfl,(jP rfl).1,(jP rfl).2⟩ g r)
 have hd8:d<=8:=by
  have:=of_decide_eq_false hd
  exact Int.ofNat_le.mp (Int.not_lt.mp this)
 refine oD (iZ (P1 (oS (.lst [lbX [.Al [108,97,98,101,108]],lbX [],lbX [.Al [97],.kept [93],.Al [98,42]],lbX [.span 95 [.Al [99],.code [93] true] true]]) _ _ λv G g r=>?_)))
 apply Ah;intro g9 k9
 obtain ⟨a,l,p,q,rfl,hb,ha,hr⟩:=r
 apply k9
 refine P1 (pI [lbX [.Al [115,101,101,32],.link [.Al [100]] (some [101]) true,.Al [40,102]],lbX [.link [.span 42 [.Al [103]] true] none true]] (by exact iq) ha (hr.wide hb.lp hb.qh) (by decide) λa1 l1 G1 g1 ha1 hr1=>?_)
 refine P1 (pI [lbX [.kept [120],.span 126 [.link [.Al [104]] (some [105]) true] true,.Al [106]]] (by exact iq) ha1 hr1 (by decide) λa2 l2 G2 g2 ha2 hr2=>?_)
 refine aH (rT (pI [lbX [.link [.link [.Al [107]] (some [108]) true,.Al [109]] (some [110]) true]] (by exact iq) ha2 hr2 (by decide) λa3 l3 G3 g3 ha3 hr3=>?_))
 have hl3:l3.length=8:=hr3.len
 obtain ⟨j,hj⟩:=Int.eq_ofNat_of_zero_le (Int.emod_nonneg k (by decide:(8:Int)≠0))
 have hj8:j<l3.length:=qz hl3 (Int.ofNat_lt.mp (hj▸Int.emod_lt_of_pos _ (by decide)))
 have hv:l3[j]? = some l3[j]:=A8 hj8
 refine jX (K0 (by exact iq) G9 (Q8 (by decide))) (D0 V.int hj) _ ?_
 obtain ⟨x,hx,Cj⟩:=tE hr3 hv
 have hx':(kK.map lbX)[j]? = some x:=hx
 rw [E6] at hx'
 obtain ⟨us,hu,rfl⟩:=C1 hx'
 refine Ae1 ha3 hv ?_
 exact h us _ G3 (by unfold uB;refine qz hd (qz hj (qz (Int.toNat_natCast _) (qz hu ?_)));rfl) (Ba3 hd8 (E5 hu)) (((g.trans g1).trans g2).trans g3) Cj
noncomputable def UX:T2->Prop
 | []=>True
 | (kd,p)::b4=>b4.length<12/\(∀ c,kd=some c->[42,95,126].contains c=true)/\GX p b4
theorem GX.ux {b6:List T}:∀ {b4:T2},GX b6 b4->UX b4
 | []=>λZ=>trivial
 | (kd,p)::b4=>λh=>⟨h.1.2.1,h.1.2.2,h.2⟩
theorem At0 {b4:T2}:eT ((kd,p)::b4)=kdO kd:=by cases kd<;>rfl
structure BO (H0:Heap) (as:List Nat) (b6:List T) (b4:T2) (Ce:Bool) (N:Nat) (H:Heap):Prop where
 st:lI H0 as b6 b4 H
 op:jY b4.length (eT b4) b6
 gd:Ce=true->R7 b4.length (eT b4) b6
 up:UX b4
 sg:Sg (Bg b4 b6)
 len:(Bg b4 b6).length<=N
theorem BG.last {H0 as b6 b4 H N}(h:BG H0 as b6 b4 H N) (hs:lI H0 as (b6++[t]) b4 G) (hg:jY b4.length (eT b4) (b6++[t])) (h1:Sg (Aj t)) (h2:(Aj t).length<=130):BO H0 as (b6++[t]) b4 false (N+130) G:=by
 refine ⟨hs,hg,(λq=>xF q),h.gx.ux,?_,?_⟩
 ·exact qz (cY _ _ _) (qz (M8 _) (h.sg.app h1))
 ·exact qz (cY _ _ _) (qz (M8 _) (qz D4 (B3 h.len h2)))
theorem Bs8 {deep:Nat}{tail:List Nat}(h:Av1 kd us z false t tail) (hd:deep<12) (hk:∀ c,kd=some c->[42,95,126].contains c=true) (hg:R7 deep k ts) (hu:jY (deep+1) (kdO kd) us):jY deep k (ts++[t]):=by
 rcases h.Dt with ⟨c,rfl,rfl⟩|⟨rfl,rfl|⟨q,_⟩⟩
 ·exact .span hg hd (hk c rfl) hu
 ·exact .bare hg hd hu
 ·cases q
theorem BO.Dj {H0 a as b6 kd p b4 Ce clo' N H}{tail:List Nat}(h:BO H0 (a::as) b6 ((kd,p)::b4) Ce N H) (hc:clo'=true->Ce=true) (he:Av1 kd b6 z clo' t tail) (hs:lI H0 as (p++[t]) b4 G):BO H0 as (p++[t]) b4 clo' (N+54) G:=by
 obtain ⟨h1,h2,h3⟩:=h.up
 have e:Bg b4 (p++[t])=Bg ((kd,p)::b4) b6++tail:=by
  refine qz (cY _ _ _) (qz (M8 _) (qz he.row ?_))
  show _=Bg b4 p++cR kd++Ab b6++tail
  simp only [D5]
 have hop:=h.op
 rw [At0] at hop
 have hgd:=h.gd
 rw [At0] at hgd
 have gd:clo'=true->R7 b4.length (eT b4) (p++[t]):=λq=>by
  subst q
  exact zA he h1 h2 h3.good (hgd (hc rfl))
 refine ⟨hs,?_,gd,h3.ux,?_,?_⟩
 ·cases clo' with
  | true=>exact .good (gd rfl)
  | false=>exact Bs8 he h1 h2 h3.good hop
 ·exact qz e (h.sg.app he.sg)
 ·refine qz e (qz D4 ?_);have:=h.len;have:=he.len;lia
structure PD (H0:Heap) (ts:List T) (G:Heap):Prop where
 op:jY 0 .top ts
 sg:Sg (Ab ts)
 len:(Ab ts).length<=6000
 gr:K3 H0 G
 rep:N8 G (.lst (M0 ts)) H0.length G.length (.ref H0.length)
theorem BO.done {H0 as b6 Ce N H}(h:BO H0 as b6 [] Ce N H) (hN:N<=6000):PD H0 b6 H:=by
 obtain ⟨l,h1,h2⟩:=h.st.lv.2
 have d6:=h2.le
 exact ⟨h.op,h.sg,D2 h.len hN,⟨D2 (E1 _ _) d6,h.st.old⟩,U7 ⟨D3 _,D6 (C9 (by decide)) d6,E1 _ _,D3 _⟩ h1 h2⟩
noncomputable def Bh (k:Int) (Ce:Bool) (b6:List T):T2->List T
 | []=>b6
 | (kd,p)::b4=>Bh (k / 4) (bif k % 4==0 then false else Ce) (p++[Ad5 kd b6 (k / 4) (bif k % 4==0 then false else Ce)]) b4
noncomputable def eM (last:Int) (b6:List T) (b4:T2):List T :=
 bif last % 7==0 then b6++[.kept []]
 else bif last % 7==1 then b6++[.code (Ai (last / 7) (U5 (last / 7)) 96) false]
 else bif last % 7==2&&decide (((b4.length+1:Nat):Int)<13) then b6++[.link (uB (last / 21) (b4.length+1)) (some (Ai (last / 7) (U5 (last / 7)) 41)) false]
 else b6
noncomputable def Af4 (cells:List Int) (last:Int):List T :=
 Bh (last / 7) (decide (2<last % 7)) (eM last (cells.foldl wL ([],[])).1 (cells.foldl wL ([],[])).2) (cells.foldl wL ([],[])).2
noncomputable abbrev CZ:=Int×Bool×List Nat×List T×T2
theorem Am5 {n N:Nat}{Ce:Bool}{b6:List T}{b4:T2}(h:BO H0 as b6 b4 Ce N H) (hN:N+54 * b4.length<=6000) (hQ:∀ G,PD H0 (Bh k Ce b6 b4) G->Q (.ref H0.length) G) :
  K1 (Ac P (n+4)) (X8.body.drop 9) [x0,some (.int k),some (.ref (H0.length+1)),x3,some (.bool Ce),x5,x6,x7] (S1 Q) H:=by
 refine M7 (nM (σ:=CZ) (λz=>[x0,some (.int z.1),some (.ref (H0.length+1)),x3,some (.bool z.2.1),x5,x6,x7]) (λz G=>∃ N,BO H0 z.2.2.1 z.2.2.2.1 z.2.2.2.2 z.2.1 N G/\N+54 * z.2.2.2.2.length<=6000/\Bh z.1 z.2.1 z.2.2.2.1 z.2.2.2.2=Bh k Ce b6 b4) (λz=>z.2.2.2.2.length) (λz G hI K hK=>?_) ⟨k,Ce,as,b6,b4⟩ ⟨N,h,hN,rfl⟩)
 clear h hN
 generalize Bh k Ce b6 b4=R at hQ hI hK
 clear k Ce as b6 b4
 obtain ⟨k,Ce,as,b6,b4⟩:=z
 obtain ⟨N,h,hN,hR⟩:=hI
 replace hR:Bh k Ce b6 b4=R:=hR
 obtain ⟨r,hr⟩:=gJ (A0:=H0.length) h.st.lv.lens
 have hpl:=fK (A0:=H0.length) h.st.lv.lens
 have ev:∀ {C:Calls}{x:Option V}{k':Option V},Ev C [x0,k',some (.ref (H0.length+1)),x3,x,x5,x6,x7] G (.cmp .gt (.len J2) (.int 1)) (.bool (decide ((1:Int)<((b4.length+1:Nat):Int)))):=Q0 (H9 (Q1 iq (P6 h.st.pile)) G9 Z6) (qz hpl rfl)
 cases b4 with
 | nil =>
  refine .stop (ev) ?_
  exact O0 (L6 (L6 iq G9 (X3 (i:=0) (c:=ent [] H0.length) (h.st.pile.trans (by obtain ⟨e,_⟩:=h.st.lv;exact qz (show as=[] from e) rfl)) rfl)) G9 (c:=.ref H0.length) rfl) (hQ _ (hR▸h.done (by exact S5 hN)))
 | cons x b4 =>
  obtain ⟨kd,p⟩:=x
  refine .go (Q0 ev (decide_eq_true (Int.ofNat_lt.mpr (Nat.succ_lt_succ (Nat.succ_pos _))))) ?_
  obtain ⟨a,as',e,_⟩:=h.st.lv
  replace e:as=a::as':=e
  subst e
  have hpp:p.length<=1000000:=by
   have h1:=h.up.2.2.good.len
   have h2:=uR b4 p
   have h3:=h.len
   replace h3:(Bg b4 p++cR kd++Ab b6).length<=N:=h3
   rw [D4,D4] at h3
   exact D2 (D2 h1 (D2 h2 (D2 (E1 _ _) (D2 (E1 _ _) h3)))) (D2 (D2 (E1 _ _) hN) (by decide))
  have fin:∀ clo',(bif k % 4==0 then false else Ce)=clo'->(clo'=true->Ce=true)->K1 (Ac P (n+4)) [.expr (.call "_law_end" [J2,.bin .fdiv J1 (.int 4),J4]),.assign 1 (.bin .fdiv J1 (.int 4))] [x0,some (.int k),some (.ref (H0.length+1)),x3,some (.bool clo'),x5,x6,x7] (gS (R8 (Ac P (n+4)) [.ret (.idx (.idx J2 (.int 0)) (.int 1))] (S1 Q)) K) G:=λclo' g8 hc=>by
   refine P8 (I8 (by exact iq) (I8 (K0 (by exact iq) G9 (R4 (by decide))) (I8 (by exact iq) Q7))) (Bi2 (n:=n+1) h.st hpp λt tail G' he hs=>F9 (K0 (by exact iq) G9 (R4 (by decide))) (hK ⟨k / 4,clo',as',p++[t],b4⟩ G' (D9 _) ⟨N+54,h.Dj hc he hs,?_,?_⟩))
   rotate_left
   ·refine qz hR.symm ?_
    show Bh (k / 4) clo' (p++[t]) b4=Bh (k / 4) (bif k % 4==0 then false else Ce) (p++[Ad5 kd b6 (k / 4) (bif k % 4==0 then false else Ce)]) b4
    exact qz g8 (qz he.eq rfl)
   replace hN:N+54 * (b4.length+1)<=6000:=hN
   show N+54+54 * b4.length<=6000
   exact qz (C2 _ _ _) (qz (Nat.add_comm 54 _) hN)
  refine Z9 (H9 (K0 (by exact iq) G9 (Q8 (by decide))) G9 Y2) (λhq=>?_) (λhq=>?_)
  ·exact F9 (by exact iq) (fin false (by refine qz hq ?_;rfl) λq=>xF q)
  ·exact fin Ce (by refine qz hq ?_;rfl) id
theorem Ak8 {n N:Nat}{last:Int}{b6:List T}{b4:T2}(h:BG H0 as b6 b4 H N) (hN:N<=5060) (hQ:∀ G,PD H0 (Bh (last / 7) (decide (2<last % 7)) (eM last b6 b4) b4) G->Q (.ref H0.length) G) :
  K1 (Ac P (n+4)) (X8.body.drop 2) [x0,some (.int last),some (.ref (H0.length+1)),x3,none,none,none,none] (S1 Q) H:=by
 apply Ah;intro g9 k9
 obtain ⟨r,hr⟩:=gJ (A0:=H0.length) h.st.lv.lens
 have hp:=h.st.pile.trans (D0 some hr)
 have hpl:=fK (A0:=H0.length) h.st.lv.lens
 obtain ⟨⟨l,g1,g2⟩,_,_⟩:=h.st.lv.head
 apply k9
 have Ck:l.length<P0:=qz g2.len (qz (V9 _) (D7 (D2 h.many hN) (by show 5060<16777216;decide)))
 have h12:=h.gx.deep
 have rest:∀ {cur' Ce G x5 x6 x7},eM last b6 b4=cur'->decide (2<last % 7)=Ce->BO H0 as cur' b4 Ce (N+130) G->K1 (Ac P (n+4)) (X8.body.drop 8) [x0,some (.int last),some (.ref (H0.length+1)),x3,some (.bool Ce),x5,x6,x7] (S1 Q) G:=λe1 e2 h1 =>
  F9 (K0 (by exact iq) G9 (R4 (by decide))) (Am5 (n:=n) h1 (D2 (B3 (C4 hN 130) (Nat.mul_le_mul_left 54 h12)) (by decide)) λG' hG=>hQ G' (qz e1 (qz e2 hG)))
 have rest0:∀ {Ce x5 x6 x7},eM last b6 b4=b6->decide (2<last % 7)=Ce->K1 (Ac P (n+4)) (X8.body.drop 8) [x0,some (.int last),some (.ref (H0.length+1)),x3,some (.bool Ce),x5,x6,x7] (S1 Q) H:=λe1 e2=>rest e1 e2 ⟨h.st,.good h.gx.good,λZ=>h.gx.good,h.gx.ux,h.sg,D2 h.len (E1 _ _)⟩
 have cat:∀ {t:T}{v:V}{G:Heap}{x5 x6 x7},eM last b6 b4=b6++[t]->decide (2<last % 7)=false->K3 H G->N8 G (i0 t) H.length G.length v->jY b4.length (eT b4) (b6++[t])->Sg (Aj t)->(Aj t).length<=130->K1 (Ac P (n+4)) (X8.body.drop 8) [x0,some (.int last),some (.ref (H0.length+1)),x3,some (.bool false),x5,x6,x7] (S1 Q) (G.set (here H0.length as) (l++[v])):=λ{t v G x5 x6 x7} e1 e2 g hv ho k1 k2 =>
  rest e1 e2 (h.last ((h.st.grow g).upd ((g2.to (g.old.sub (D8 _) (D3 _))).Fc g.len hv)) ho k1 k2)
 refine F9 (H9 (K0 (by exact iq) G9 (Q8 (by decide))) G9 Z6) (F9 (L6 (L6 iq iq (Q6 hp)) iq (c:=.ref (here H0.length as)) rfl) (F9 (K4 (I8 (K0 (by exact iq) G9 (R4 (by decide))) Q7) mU) ?_))
 have ev:∀ {C:Calls}{x4 x5 x6 x7:Option V}{z:Int}{G:Heap},Ev C [x0,some (.int last),some (.ref (H0.length+1)),x3,x4,x5,x6,x7] G (.cmp .eq (.bin .mod J1 (.int 7)) (.int z)) (.bool (last % 7==z)):=H9 (K0 (by exact iq) G9 (Q8 (by decide))) G9 Y2
 have cs:last % 7=0∨last % 7=1∨last % 7=2∨2<last % 7:=by lia
 rcases cs with e|e|e|e
 ·rw [e] at ev ⊢
  refine H7 ev (N3 (v:=wY []) (by exact iq) (by exact iq) g1 Ck ?_)
  exact E8 ev (E8 (fD ev) (cat (by unfold eM;refine qz e ?_;rfl) (by refine qz e ?_;rfl) .refl (pG (D3 _)) (.kept h.gx.good) (by unfold Sg;decide) (by decide)))
 ·rw [e] at ev ⊢
  refine E8 ev (H7 ev (T8 (a:=here H0.length as) (by exact iq) (T5 (K5 (v:=.str [99,111,100,101]) (by exact iq) (R0 (I8 (K0 (by exact iq) G9 (R4 (by decide))) (I8 (by exact iq) (I8 (by exact iq) Q7))) (cX (n:=n+2) (by decide) (V0 _) _ (K5 (v:=.bool false) (by exact iq) (K8 ?_))))))))
  obtain ⟨Ek,Ew,Gn⟩:=aX (k:=last / 7) (m:=U5 (last / 7)) (x:=96) (by decide) (V0 _)
  have heq:eM last b6 b4=b6++[.code (Ai (last / 7) (U5 (last / 7)) 96) false]:=by unfold eM;refine qz e ?_;rfl
  generalize Ai (last / 7) (U5 (last / 7)) 96=g at Ek Ew Gn heq
  refine Q4 g1 Ck (E8 (fD ev) (cat (t:=.code g false) heq (by refine qz e ?_;rfl) .refl (jQ (D3 _)) (.code h.gx.good Ew) (Sg.app (Sg.app (a:=[96]) (by unfold Sg;decide) Ek) (b:=[]) λc q=>xL q) ?_))
  show ([96]++g++[]).length<=130
  exact qz (List.append_nil _) (qz D4 (D2 (A6 Gn 1) (by decide)))
 ·rw [e] at ev ⊢
  have ev2:∀ {C:Calls}{x4 x5 x6 x7:Option V},Ev C [x0,some (.int last),some (.ref (H0.length+1)),x3,x4,x5,x6,x7] H (.len J2) (.int ((b4.length+1:Nat):Int)):=jX (Q1 (by exact iq) (P6 h.st.pile)) (D0 (λx:Nat=>V.int x) hpl)
  refine E8 ev (E8 ev (Z9 (kG ev (M9 (H9 ev2 G9 aZ))) (λhq=>?_) (λhq=>rest0 (by unfold eM;refine qz e (qz hq ?_);rfl) (D0 (λx:Int=>decide (2<x)) e))))
  have hd:b4.length<12:=by
   exact Nat.lt_of_succ_lt_succ (Int.ofNat_lt.mp (of_decide_eq_true hq))
  refine aB (I8 (K0 (by exact iq) G9 (R4 (by decide))) (I8 ev2 Q7)) (Br0 (n:=n+3) λus v G hus hl g hv=>?_)
  apply Ah;intro g9 k9
  obtain ⟨b,lb,p,q,rfl,hb,n6,hrb⟩:=hv
  apply k9
  refine T8 (a:=here H0.length as) (by exact iq) (T5 (K5 (v:=.str [108,105,110,107]) (by exact iq) (K5 (v:=.ref b) (by exact iq) (R0 (I8 (K0 (by exact iq) G9 (R4 (by decide))) (I8 (by exact iq) (I8 (by exact iq) Q7))) (cX (n:=n+2) (by decide) (V0 _) _ (K5 (v:=.bool false) (by exact iq) (K8 ?_)))))))
  obtain ⟨Ek,Ew,Gn⟩:=aX (k:=last / 7) (m:=U5 (last / 7)) (x:=41) (by decide) (V0 _)
  have heq:eM last b6 b4=b6++[.link us (some (Ai (last / 7) (U5 (last / 7)) 41)) false]:=by unfold eM;refine qz e (qz hq (qz hus ?_));rfl
  generalize Ai (last / 7) (U5 (last / 7)) 41=w at Ek Ew Gn heq
  refine Q4 (g.get g1) Ck (cat (t:=.link us (some w) false) heq (by refine qz e ?_;rfl) g (pF hb n6 hrb) (.link h.gx.good hd Ew hl.good) ?_ ?_)
  ·show Sg ([91]++Ab us++[93,40]++w++[])
   exact (((Sg.app (a:=[91]) (by unfold Sg;decide) hl.sg).app (by unfold Sg;decide)).app Ek).app λc q=>xL q
  ·show ([91]++Ab us++[93,40]++w++[]).length<=130
   exact qz (List.append_nil _) (qz D4 (qz D4 (qz D4 (D2 (B3 (C4 (A6 hl.len 1) 2) Gn) (by decide)))))
 ·have f0:(last % 7==0)=false:=beq_eq_false_iff_ne.mpr λq=>by rw [q] at e;exact absurd e (by decide)
  have f1:(last % 7==1)=false:=beq_eq_false_iff_ne.mpr λq=>by rw [q] at e;exact absurd e (by decide)
  have f2:(last % 7==2)=false:=beq_eq_false_iff_ne.mpr λq=>by rw [q] at e;exact absurd e (by decide)
  exact E8 (Q0 ev f0) (E8 (Q0 ev f1) (E8 (fD (Q0 ev f2)) (rest0 (by unfold eM;rw [f0,f1];refine qz f2 ?_;rfl) rfl)))
noncomputable abbrev PQ1:=List Nat×List T×T2×Option V
theorem lI.start:lI H [] [] [] (H++[[]]++[[ent [] H.length]]):=by
 have e2:=wX (H:=H) (l:=[]) (l':=[ent [] H.length])
 refine ⟨A4 e2.symm,eN.2,?_,rfl,[],P9 K6,.nil (A4 e2.symm)⟩
 have:(H++[[]]).length=H.length+1:=R6
 exact qz this.symm K6
theorem Aa5 {n c:Nat}{last:Int}(hc:H[c]? = some l) (hl:l.length<=63) (hi:l=cells.map V.int) (hQ:∀ G,PD H (Af4 cells last) G->Q (.ref H.length) G):Ac P (n+5) "_law_parts" [.ref c,.int last] Q H:=by
 have g8:c<H.length:=(A3 hc).1
 refine E9 rfl rfl (P5 (v:=.ref (H.length+1)) (H1:=H++[[]]++[[ent [] H.length]]) (λQ q=>?_) (M7 (Y9 (σ:=PQ1) (λz=>[some (.ref c),some (.int last),some (.ref (H.length+1)),z.2.2.2,none,none,none,none]) (λi z G=>BG H z.1 z.2.1 z.2.2.1 G (80 * i)/\(z.2.1,z.2.2.1)=(cells.take i).foldl wL ([],[])) (a:=c) (l:=l) (λi z G h=>(h.1.st.old c (D8 _) g8).trans hc) (λi z G v hv hI K hK=>?_) (λz G hI=>?_) ⟨[],[],[],none⟩ (by exact iq) ?_)))
 ·have e1:(H++[[]]).length=H.length+1:=R6
  rw [<- e1] at q
  exact q
 ·obtain ⟨hI,hE⟩:=hI
  have hv0:=hv
  rw [hi,E6] at hv0
  obtain ⟨z',hz',rfl⟩:=C1 hv0
  have hi40:i<l.length:=(A3 hv).1
  exact P8 (I8 (by exact iq) (I8 (by exact iq) Q7)) (Cd9 (n:=n) hI (by lia) λas' cur' b8 G' he h'=>hK ⟨as',cur',b8,_⟩ G' ⟨⟨h'.st,h'.gx,h'.sg,D2 h'.len (by exact (by simp +arith only))⟩,qz List.take_add_one (qz hz' (qz List.foldl_append (qz hE.symm he.symm)))⟩)
 ·obtain ⟨hI,hE⟩:=hI
  have hl2:l.length=cells.length:=qz hi (qz (E3 _) rfl)
  rw [hl2,List.take_length] at hE
  refine Ak8 (n:=n) hI (by lia) λG' hG=>hQ G' ?_
  unfold Af4
  exact qz hE.symm hG
 ·exact ⟨⟨.start,.nil,(λc q=>xL q),D8 _⟩,rfl⟩
set_option genCtorIdx false in
inductive En where
 | leaf (x:X) (v:V) (p q:Nat)
 | sub (xs:List X) (vs:List V) (p q a:Nat) (es:List En)
mutual
noncomputable def enX:En->X
 | .leaf x _ _ _=>x
 | .sub xs _ _ _ _ es=>.tup (xs++[.lst (gP es)])
noncomputable def gP:List En->List X
 | []=>[]
 | e::es=>enX e::gP es
end
noncomputable def lF:En->V
 | .leaf _ v _ _=>v
 | .sub _ vs _ _ a _=>.tup (vs++[.ref a])
mutual
noncomputable def Gu:En->Nat->Prop
 | .leaf _ _ p q,i=>p<=i/\i<q
 | .sub _ _ p q a es,i=>(p<=i/\i<q)∨i=a∨cO es i
noncomputable def cO:List En->Nat->Prop
 | [],_=>False
 | e::es,i=>Gu e i∨cO es i
end
mutual
noncomputable def Ok (H:Heap):En->Nat->Nat->Prop
 | .leaf x v p q,lo,hi=>(lo<=p/\p<=q/\q<=hi)/\N8 H x p q v
 | .sub xs vs p q a es,lo,hi=>(lo<=p/\M1 H xs p q vs)/\(q<=a/\a<hi/\¬ cO es a/\H[a]? = some (es.map lF))/\fR H es q hi
noncomputable def fR (H:Heap):List En->Nat->Nat->Prop
 | [],lo,hi=>lo<=hi
 | e::es,lo,hi=>∃ m,Ok H e lo m/\fR H es m hi
end
noncomputable def Nd (H:Heap) (q hi a:Nat) (es:List En):Prop:=(q<=a/\a<hi/\¬ cO es a/\H[a]? = some (es.map lF))/\fR H es q hi
mutual
theorem Ok.le:∀ {e:En}{lo hi:Nat},Ok H e lo hi->lo<=hi
 | .leaf _ _ _ _=>λh=>D2 h.1.1 (D2 h.1.2.1 h.1.2.2)
 | .sub _ _ _ _ _ _=>λh=>D2 h.1.1 (D2 h.1.2.le (D2 h.2.1.1 (E2 h.2.1.2.1)))
theorem fR.le:∀ {es:List En}{lo hi:Nat},fR H es lo hi->lo<=hi
 | []=>λh=>h
 | e::es=>λh=>by
  obtain ⟨m,h1,h2⟩:=h
  exact D2 (Ok.le h1) (fR.le (es:=es) h2)
end
mutual
theorem Ok.mono:∀ {e:En}{lo hi lo' d7:Nat},Ok H e lo hi->(∀ i,Gu e i->G[i]? = H[i]?)->lo'<=lo->hi<=d7->Ok G e lo' d7
 | .leaf _ _ _ _=>λh k h1 h2=>⟨⟨D2 h1 h.1.1,h.1.2.1,D2 h.1.2.2 h2⟩,h.2.to λx a b=>k x ⟨a,b⟩⟩
 | .sub _ _ _ _ a es=>λh k h1 h2=>⟨⟨D2 h1 h.1.1,h.1.2.to λx a b=>k x (Or.inl ⟨a,b⟩)⟩,⟨h.2.1.1,D6 h.2.1.2.1 h2,h.2.1.2.2.1,(k a (Or.inr (Or.inl rfl))).trans h.2.1.2.2.2⟩,fR.mono (es:=es) h.2.2 (λi q=>k i (Or.inr (Or.inr q))) (D3 _) h2⟩
theorem fR.mono:∀ {es:List En}{lo hi lo' d7:Nat},fR H es lo hi->(∀ i,cO es i->G[i]? = H[i]?)->lo'<=lo->hi<=d7->fR G es lo' d7
 | []=>λh Z h1 h2=>D2 h1 (D2 h h2)
 | e::es=>λh k h1 h2=>by
  obtain ⟨m,q1,q2⟩:=h
  exact ⟨m,Ok.mono q1 (λi q=>k i (Or.inl q)) h1 (D3 _),fR.mono (es:=es) q2 (λi q=>k i (Or.inr q)) (D3 _) h2⟩
end
mutual
theorem Ok.foot:∀ {e:En}{lo hi i:Nat},Ok H e lo hi->Gu e i->lo<=i/\i<hi
 | .leaf _ _ _ _,_,_,_,h,k=>⟨D2 h.1.1 k.1,D6 k.2 h.1.2.2⟩
 | .sub _ _ p q a es,lo,hi,i,h,k=>by
  have h1:lo<=q:=D2 h.1.1 h.1.2.le
  have h3:=h.2.1.2.1
  rcases k with k|k|k
  ·exact ⟨D2 h.1.1 k.1,Nat.lt_trans (D6 k.2 h.2.1.1) h3⟩
  ·exact qz k ⟨D2 h1 h.2.1.1,h3⟩
  ·have:=fR.foot (es:=es) h.2.2 k
   exact ⟨D2 h1 this.1,this.2⟩
theorem fR.foot:∀ {es:List En}{lo hi i:Nat},fR H es lo hi->cO es i->lo<=i/\i<hi
 | []=>λZ k=>k.elim
 | e::es=>λh k=>by
  obtain ⟨m,q1,q2⟩:=h
  rcases k with k|k
  ·have:=Ok.foot q1 k
   exact ⟨this.1,D6 this.2 (fR.le q2)⟩
  ·have:=fR.foot (es:=es) q2 k
   exact ⟨D2 (Ok.le q1) this.1,this.2⟩
end
theorem fR.app (k:fR H fs m hi):∀ {es:List En}{lo:Nat},fR H es lo m->fR H (es++fs) lo hi:=by
 intro es
 induction es with
 | nil=>exact λh=>k.mono (λZ Z=>rfl) h (D3 _)
 | cons e es ih =>
  exact λh=>by
   obtain ⟨m',q1,q2⟩:=h
   exact ⟨m',q1,ih q2⟩
theorem fR.one (h:Ok H e lo hi):fR H [e] lo hi:=⟨hi,h,D3 _⟩
theorem fR.cut:∀ {es:List En}{lo:Nat},fR H (es++[e]) lo hi->∃ m,fR H es lo m/\Ok H e m hi
 | [],lo,h=>by
  obtain ⟨m,q1,q2⟩:=h
  exact ⟨lo,D3 _,q1.mono (λZ Z=>rfl) (D3 _) q2⟩
 | x::es,lo,h=>by
  obtain ⟨m,q1,q2⟩:=h
  obtain ⟨m',q3,q4⟩:=fR.cut (es:=es) q2
  exact ⟨m',⟨m,q1,q3⟩,q4⟩
theorem V8:∀ {es:List En},cO (es++fs) i↔cO es i∨cO fs i:=by
 intro es
 induction es with
 | nil=>exact ⟨Or.inr,λh=>h.elim (λq=>q.elim) id⟩
 | cons e es ih =>
  show Gu e i∨cO (es++fs) i↔(Gu e i∨cO es i)∨cO fs i
  rw [ih ,or_assoc]
theorem V7:cO [e] i↔Gu e i:=⟨λh=>h.elim id λq=>q.elim,Or.inl⟩
inductive Fd:Nat->List En->Nat->Nat->List En->Prop
 | here {a:Nat}{es:List En}:Fd a es 0 a es
 | down {a d b p q a':Nat}{es fs b9:List En}{xs:List X}{vs:List V}:Fd a' b9 d b fs->Fd a (es++[.sub xs vs p q a' b9]) (d+1) b fs
noncomputable def Z1:Nat->List En->En->List En
 | 0,es,e=>es++[e]
 | d+1,es,e=>match es.getLast? with
  | some (.sub xs vs p q a b9)=>es.dropLast++[.sub xs vs p q a (Z1 d b9 e)]
  | _=>es
theorem Ba4 (h:es.getLast? = some (.sub xs vs p q a b9)):Z1 (d+1) es e=es.dropLast++[.sub xs vs p q a (Z1 d b9 e)]:=by
 show (match es.getLast? with | some (.sub xs vs p q a b9)=>es.dropLast++[En.sub xs vs p q a (Z1 d b9 e)] | _=>es)=_
 exact qz h rfl
theorem aY:Z1 (d+1) (es++[.sub xs vs p q a b9]) e=es++[.sub xs vs p q a (Z1 d b9 e)]:=qz (Ba4 (by rw [List.getLast?_append];rfl)) (qz List.dropLast_concat rfl)
structure De7 (H:Heap) (q hi d7 a d b:Nat) (es fs:List En) (e:En):Prop where
 here:H[b]? = some (fs.map lF)
 mem:b=a∨cO es b
 nd:Nd (H.set b (fs.map lF++[lF e])) q d7 a (Z1 d es e)
 ft:∀ i,cO (Z1 d es e) i->cO es i∨Gu e i
theorem Cp0 (he:Ok H e hi d7):∀ {a d b:Nat}{es fs:List En},Fd a es d b fs->∀ {q:Nat},Nd H q hi a es->De7 H q hi d7 a d b es fs e:=by
 intro a d b es fs h
 have d6:=he.le
 induction h with
 | @here a es =>
  intro q h
  obtain ⟨⟨h1,h2,h3,h4⟩,h5⟩:=h
  refine ⟨h4,Or.inl rfl,⟨⟨h1,D6 h2 d6,λk=>?_,?_⟩,?_⟩,λi k=>?_⟩
  ·rcases V8.mp k with k|k
   ·exact h3 k
   ·exact absurd (he.foot (V7.mp k)).1 (Nat.not_le_of_lt h2)
  ·show _=some ((es++[e]).map lF)
   exact qz C3 (B9 (A3 h4).1)
  ·refine fR.app (fR.one (he.mono (λi k=>A9 ?_) (D3 _) (D3 _))) (h5.mono (λi k=>A9 ?_) (D3 _) (D3 _))
   ·exact D1 (D6 h2 (he.foot k).1)
   ·intro q;subst q;exact h3 k
  ·rcases V8.mp k with k|k
   ·exact Or.inl k
   ·exact Or.inr (V7.mp k)
 | @down a d b p r a' es fs b9 xs vs _ ih =>
  intro q h
  apply Ah;intro g9 k9
  obtain ⟨⟨h1,h2,h3,h4⟩,h5⟩:=h
  obtain ⟨m,k1,k2⟩:=h5.cut
  have k3:=k2
  obtain ⟨j1,j2⟩:=k2
  apply k9
  have hI:=ih (q:=r) j2
  have hb:Gu (.sub xs vs p r a' b9) b:=Or.inr (hI.mem.imp id id)
  have hbm:=k3.foot hb
  have hpr:=j1.2.le
  have hbr:r<=b:=by
   rcases hI.mem with k|k
   ·exact qz k j2.1.1
   ·exact (j2.2.foot k).1
  have hba:b≠a:=λk=>h3 (k▸V8.mpr (Or.inr (V7.mpr hb)))
  have hft:∀ i,Gu (.sub xs vs p r a' (Z1 d b9 e)) i->Gu (.sub xs vs p r a' b9) i∨Gu e i:=λi k=>by
   rcases k with k|k|k
   ·exact Or.inl (Or.inl k)
   ·exact Or.inl (Or.inr (Or.inl k))
   ·exact (hI.ft i k).imp (λk=>Or.inr (Or.inr k)) id
  refine ⟨hI.here,Or.inr (V8.mpr (Or.inr (V7.mpr hb))),?_,?_⟩
  ·refine qz aY ?_
   refine ⟨⟨h1,D6 h2 d6,λk=>?_,?_⟩,?_⟩
   ·rcases V8.mp k with k|k
    ·exact h3 (V8.mpr (Or.inl k))
    ·rcases hft a (V7.mp k) with k|k
     ·exact h3 (V8.mpr (Or.inr (V7.mpr k)))
     ·exact absurd (he.foot k).1 (Nat.not_le_of_lt h2)
   ·refine qz (A9 hba) (qz h4 (qz C3 (qz C3 ?_)));rfl
   ·have ok1:Ok (H.set b (fs.map lF++[lF e])) (.sub xs vs p r a' (Z1 d b9 e)) m d7:=⟨⟨j1.1,j1.2.to (R1.set (Or.inr hbr))⟩,hI.nd⟩
    refine fR.app (fR.one ok1) (k1.mono (λi k=>A9 ?_) (D3 _) (D3 _))
    exact Nat.ne_of_gt (D6 (k1.foot k).2 hbm.1)
  ·intro i k
   rw [aY] at k
   rcases V8.mp k with k|k
   ·exact Or.inl (V8.mpr (Or.inl k))
   ·exact (hft i (V7.mp k)).imp (λk=>V8.mpr (Or.inr (V7.mpr k))) id
theorem Fd.more (h:Fd a es d b fs):∀ {d' c:Nat}{gs:List En},Fd b fs d' c gs->Fd a es (d+d') c gs:=by
 induction h with
 | here=>intro d' c gs k;exact qz (Nat.zero_add _) k
 | down _ ih=>intro d' c gs k;exact qz (B5 _ _ _) (.down (ih k))
mutual
theorem Ok.rep:∀ {e:En}{lo hi:Nat},Ok H e lo hi->N8 H (enX e) lo hi (lF e)
 | .leaf _ _ _ _=>λh=>h.2.wide h.1.1 h.1.2.2
 | .sub xs vs p q a es=>λh=>⟨_,rfl,M1.app (.one (D2 h.2.1.1 (E2 h.2.1.2.1)) (U7 ⟨h.2.1.1,h.2.1.2.1,D3 _,D3 _⟩ h.2.1.2.2.2 (fR.reps (es:=es) h.2.2))) (h.1.2.wide h.1.1 (D3 _))⟩
theorem fR.reps:∀ {es:List En}{lo hi:Nat},fR H es lo hi->M1 H (gP es) lo hi (es.map lF)
 | []=>λh=>.nil h
 | e::es=>λh=>by
  obtain ⟨m,q1,q2⟩:=h
  exact .cons q1.le (Ok.rep q1) (fR.reps (es:=es) q2)
end
theorem Nd.rep (h:Nd H q hi a es):N8 H (.lst (gP es)) q hi (.ref a):=U7 ⟨h.1.1,h.1.2.1,D3 _,D3 _⟩ h.1.2.2.2 h.2.reps
theorem Nd.mono (h:Nd H q hi a es) (k:∀ i,i=a∨cO es i->G[i]? = H[i]?) (h2:hi<=d7):Nd G q d7 a es :=
 ⟨⟨h.1.1,D6 h.1.2.1 h2,h.1.2.2.1,(k a (Or.inl rfl)).trans h.1.2.2.2⟩,h.2.mono (λi q=>k i (Or.inr q)) (D3 _) h2⟩
noncomputable def wD (n:Nat) (ts:List T) (v:V) (p q a:Nat) (es:List En):En:=.sub [.at (.i (n:Nat)),.lst (M0 ts)] [.int (n:Nat),v] p q a es
noncomputable def two (w:List Nat) (p a:Nat) (es:List En):En:=.sub [.at (.s w)] [.str w] p p a es
noncomputable def nQ:List Nat:=[113,117,111,116,101]
noncomputable def nL:List Nat:=[108,105,115,116]
noncomputable def nP:List Nat:=[112,97,114,97]
mutual
noncomputable def RIt:It->En->Prop
 | .it n ts sub,e=>∃ v p q a es,e=wD n ts v p q a es/\dL sub es
noncomputable def dL:List It->List En->Prop
 | [],es=>es=[]
 | i::is,es=>∃ e fs,es=e::fs/\RIt i e/\dL is fs
end
noncomputable def tF:List (List T)->List En->Prop
 | [],es=>es=[]
 | ts::rs,es=>∃ v p q fs,es=.leaf (.lst (M0 ts)) v p q::fs/\tF rs fs
mutual
noncomputable def Gx:Bk->En->Prop
 | .gap n,e=>∃ v p q,e=.leaf (Di (.gap n)) v p q
 | .head n ts,e=>∃ v p q,e=.leaf (Di (.head n ts)) v p q
 | .list is,e=>∃ p a es,e=two nL p a es/\dL is es
 | .para rs,e=>∃ p a es,e=two nP p a es/\tF rs es
 | .quote bs,e=>∃ p a es,e=two nQ p a es/\cD bs es
noncomputable def cD:List Bk->List En->Prop
 | [],es=>es=[]
 | b::bs,es=>∃ e fs,es=e::fs/\Gx b e/\cD bs fs
end
mutual
theorem RIt.x:∀ {i:It}{e:En},RIt i e->enX e=Fy i
 | .it n ts sub=>λh=>by
  obtain ⟨v,p,q,a,es,rfl,h⟩:=h
  show X.tup [.at (.i (n:Nat)),.lst (M0 ts),.lst (gP es)]=.tup [.at (.i (n:Nat)),.lst (M0 ts),.lst (X9 sub)]
  exact qz (dL.x (is:=sub) h) rfl
theorem dL.x:∀ {is:List It}{es:List En},dL is es->gP es=X9 is
 | [],es,h=>by refine qz (show es=[] from h) ?_;rfl
 | i::is,es,h=>by
  obtain ⟨e,fs,rfl,h1,h2⟩:=h
  show enX e::gP fs=Fy i::X9 is
  exact qz (RIt.x (i:=i) h1) (qz (dL.x (is:=is) h2) rfl)
end
theorem tF.x:∀ {rs:List (List T)}{es:List En},tF rs es->gP es=qW rs
 | [],es,h=>by refine qz (show es=[] from h) ?_;rfl
 | ts::rs,es,h=>by
  obtain ⟨v,p,q,fs,rfl,h⟩:=h
  show X.lst (M0 ts)::gP fs=X.lst (M0 ts)::qW rs
  exact qz (tF.x (rs:=rs) h) rfl
mutual
theorem Gx.x:∀ {b:Bk}{e:En},Gx b e->enX e=Di b
 | .gap n=>λh=>by obtain ⟨v,p,q,rfl⟩:=h;rfl
 | .head n ts=>λh=>by obtain ⟨v,p,q,rfl⟩:=h;rfl
 | .list is=>λh=>by
  obtain ⟨p,a,es,rfl,h⟩:=h
  show X.tup [.at (.s nL),.lst (gP es)]=_
  refine qz h.x ?_;rfl
 | .para rs=>λh=>by
  obtain ⟨p,a,es,rfl,h⟩:=h
  show X.tup [.at (.s nP),.lst (gP es)]=_
  refine qz h.x ?_;rfl
 | .quote bs=>λh=>by
  obtain ⟨p,a,es,rfl,h⟩:=h
  show X.tup [.at (.s nQ),.lst (gP es)]=_
  refine qz (cD.x (bs:=bs) h) ?_;rfl
theorem cD.x:∀ {bs:List Bk}{es:List En},cD bs es->gP es=O9 bs
 | [],es,h=>by refine qz (show es=[] from h) ?_;rfl
 | b::bs,es,h=>by
  obtain ⟨e,fs,rfl,h1,h2⟩:=h
  show enX e::gP fs=Di b::O9 bs
  exact qz (Gx.x (b:=b) h1) (qz (cD.x (bs:=bs) h2) rfl)
end
theorem dL.add (k:RIt i e):∀ {is:List It}{es:List En},dL is es->dL (is++[i]) (es++[e])
 | [],es,h=>qz (show es=[] from h) ⟨e,[],rfl,k,rfl⟩
 | j::is,es,h=>by
  obtain ⟨e',fs,rfl,h1,h2⟩:=h
  exact ⟨e',_,rfl,h1,dL.add k h2⟩
theorem dL.cut:∀ {is:List It}{es:List En},dL (is++[i]) es->∃ fs e,es=fs++[e]/\dL is fs/\RIt i e:=by
 intro is
 induction is with
 | nil =>
  exact λh=>by
   obtain ⟨e,fs,rfl,h1,h2⟩:=h
   exact qz (show fs=[] from h2) ⟨[],e,rfl,rfl,h1⟩
 | cons j is ih =>
  exact λh=>by
   obtain ⟨e',fs,rfl,h1,h2⟩:=h
   obtain ⟨gs,e,rfl,h3,h4⟩:=ih h2
   exact ⟨e'::gs,e,rfl,⟨e',gs,rfl,h1,h3⟩,h4⟩
theorem tF.add:∀ {rs:List (List T)}{es:List En},tF rs es->tF (rs++[ts]) (es++[.leaf (.lst (M0 ts)) v p q])
 | [],es,h=>qz (show es=[] from h) ⟨v,p,q,[],rfl,rfl⟩
 | j::is,es,h=>by
  obtain ⟨v',p',q',fs,rfl,h2⟩:=h
  exact ⟨v',p',q',_,rfl,tF.add h2⟩
theorem cD.add (k:Gx i e):∀ {is:List Bk}{es:List En},cD is es->cD (is++[i]) (es++[e])
 | [],es,h=>qz (show es=[] from h) ⟨e,[],rfl,k,rfl⟩
 | j::is,es,h=>by
  obtain ⟨e',fs,rfl,h1,h2⟩:=h
  exact ⟨e',_,rfl,h1,cD.add k h2⟩
theorem cD.cut:∀ {is:List Bk}{es:List En},cD (is++[i]) es->∃ fs e,es=fs++[e]/\cD is fs/\Gx i e:=by
 intro is
 induction is with
 | nil =>
  exact λh=>by
   obtain ⟨e,fs,rfl,h1,h2⟩:=h
   exact qz (show fs=[] from h2) ⟨[],e,rfl,rfl,h1⟩
 | cons j is ih =>
  exact λh=>by
   obtain ⟨e',fs,rfl,h1,h2⟩:=h
   obtain ⟨gs,e,rfl,h3,h4⟩:=ih h2
   exact ⟨e'::gs,e,rfl,⟨e',gs,rfl,h1,h3⟩,h4⟩
inductive rM (N:Nat):Nat->List It->List En->Nat->Nat->List It->List En->Prop
 | here {a:Nat}{is:List It}{es:List En}:dL is es->rM N a is es 0 a is es
 | down {a d b n p q a':Nat}{is sub js:List It}{es fs b9:List En}{ts:List T}{v:V}:n<N->dL is es->rM N a' sub b9 d b js fs->rM N a (is++[.it n ts sub]) (es++[wD n ts v p q a' b9]) (d+1) b js fs
theorem rM.pth (h:rM N a is es d b js fs):Fd a es d b fs:=by
 induction h with
 | here=>exact .here
 | down _ _ _ ih=>exact .down ih
theorem rM.b6 (h:rM N a is es d b js fs):dL js fs:=by
 induction h with
 | here h=>exact h
 | down _ _ _ ih=>exact ih
theorem rM.ext (h:rM N a is es d b js fs):∀ {js':List It}{n:Nat}{ts:List T}{sub:List It},js=js'++[.it n ts sub]->n<N->∃ gs v p q a' b9,fs=gs++[wD n ts v p q a' b9]/\rM N a is es (d+1) a' sub b9:=by
 induction h with
 | here h =>
  intro js' n ts sub e hn
  apply Ah;intro g9 k9
  subst e
  obtain ⟨gs,e,rfl,h1,v,p,q,a',b9,rfl,h2⟩:=h.cut
  apply k9
  exact ⟨gs,v,p,q,a',b9,rfl,.down hn h1 (.here h2)⟩
 | down h1 h2 _ ih =>
  intro js' n ts sub e hn
  apply Ah;intro g9 k9
  obtain ⟨gs,v,p,q,a',b9,e',k⟩:=ih e hn
  apply k9
  exact ⟨gs,v,p,q,a',b9,e',.down h1 h2 k⟩
theorem rM.ins {x:It}(h:rM N a is es d b js fs) (k:RIt x e):dL (Ao d is x) (Z1 d es e):=by
 induction h with
 | here h=>exact h.add k
 | @down a d b n p q a' is sub js es fs b9 ts v h1 h2 _ ih =>
  have k1:RIt (.it n ts (Ao d sub x)) (wD n ts v p q a' (Z1 d b9 e)):=⟨_,_,_,_,_,rfl,ih⟩
  have k2:Z1 (d+1) (es++[wD n ts v p q a' b9]) e=es++[wD n ts v p q a' (Z1 d b9 e)]:=aY
  exact qz X2 (qz k2 (h2.add k1))
theorem cJ.Du:∀ {is:List It},cJ above most (is++[i])↔cJ above most is/\El above (match is.getLast? with | some j=>dsh j | none=>most) i
 | []=>⟨λh=>⟨trivial,h.1⟩,λh=>⟨h.2,trivial⟩⟩
 | j::is=>by
  show El above most j/\cJ above (dsh j) (is++[i])↔(El above most j/\cJ above (dsh j) is)/\_
  rw [cJ.Du (is:=is),and_assoc]
  cases is with
  | nil=>exact Iff.rfl
  | cons k is=>exact Iff.rfl
theorem rM.order (h:rM N a is es d b js fs) (hN:1<=N/\N<=9) (hc:Ct ts) (hl:∀ i,js.getLast? = some i->N<=dsh i):∀ {above:Nat},above<N->cJ above 9 is->cJ above 9 (Ao d is (.it N ts [])):=by
 induction h with
 | @here a is es _ =>
  intro above ha ho
  refine cJ.Du.mpr ⟨ho,⟨hN.1,?_,ha⟩,hc,trivial⟩
  cases hq:is.getLast? with
  | none=>exact hN.2
  | some j=>exact hl j hq
 | down h1 h2 _ ih =>
  intro above ha ho
  refine qz X2 ?_
  obtain ⟨k1,k2,k3,k4⟩:=cJ.Du.mp ho
  exact cJ.Du.mpr ⟨k1,k2,k3,ih hl h1 k4⟩
mutual
theorem El.deep:∀ {above most:Nat}{i:It},El above most i->most<=9->dI i+above<=9
 | above,most,.it n ts sub=>λh hm=>by
  have h1:=h.1
  have h2:=cJ.deep (is:=sub) h.2.2 (D3 9)
  show Br sub+1+above<=9
  refine qz (B5 _ _ _) ?_
  show Br sub+(above+1)<=9
  exact D2 (B3 h2 h1.2.2) (A4 (Nat.sub_add_cancel (D2 h1.2.1 hm)))
theorem cJ.deep:∀ {above most:Nat}{is:List It},cJ above most is->most<=9->Br is<=9 - above
 | _,_,[]=>λZ Z=>D8 _
 | above,most,i::is=>λh hm=>by
  have h1:=El.deep (i:=i) h.1 hm
  have hd:dsh i<=9:=by
   cases i with
   | it n ts sub=>exact D2 h.1.1.2.1 hm
  have h2:=cJ.deep (is:=is) h.2 hd
  show max (dI i) (Br is)<=9 - above
  exact Nat.max_le.mpr ⟨Nat.le_sub_of_add_le h1,h2⟩
end
noncomputable def nE:List (List Bk)->List Bk->List Bk
 | [],b6=>b6
 | p::b4,b6=>p++[.quote (nE b4 b6)]
inductive Zp:Nat->List Bk->List En->List (List Bk)->List Nat->Nat->List Bk->List En->Prop
 | here {a:Nat}{bs:List Bk}{es:List En}:cD bs es->Zp a bs es [] [a] a bs es
 | down {a a' b pp:Nat}{p bs b6:List Bk}{pe es fs:List En}{b4:List (List Bk)}{as:List Nat}:cD p pe->Zp a' bs es b4 as b b6 fs->Zp a (p++[.quote bs]) (pe++[two nQ pp a' es]) (p::b4) (a::as) b b6 fs
theorem pH (h:cD bs es):Gx (.quote bs) (two nQ p a es):=⟨p,a,es,rfl,h⟩
section
variable {a b:Nat}{bs b6:List Bk}{es fs:List En}{b4:List (List Bk)}{as:List Nat}
theorem Zp.root (h:Zp a bs es b4 as b b6 fs):cD bs es:=by
 induction h with
 | here h=>exact h
 | down h1 _ ih=>exact h1.add (pH ih)
theorem Zp.pth (h:Zp a bs es b4 as b b6 fs):Fd a es b4.length b fs:=by
 induction h with
 | here h=>exact .here
 | down h1 _ ih=>exact .down ih
theorem Zp.typ (h:Zp a bs es b4 as b b6 fs):cD b6 fs:=by
 induction h with
 | here h=>exact h
 | down h1 _ ih=>exact ih
theorem Zp.whole (h:Zp a bs es b4 as b b6 fs):bs=nE b4 b6:=by
 induction h with
 | here h=>rfl
 | down h1 _ ih=>refine qz ih ?_;rfl
theorem Zp.lens (h:Zp a bs es b4 as b b6 fs):as.length=b4.length+1:=by
 induction h with
 | here h=>rfl
 | down h1 _ ih=>exact D0 (· + 1) ih
theorem Zp.last (h:Zp a bs es b4 as b b6 fs):∃ r,as=r++[b]:=by
 induction h with
 | here h=>exact ⟨[],rfl⟩
 | down h1 _ ih=>obtain ⟨r,rfl⟩:=ih;exact ⟨_::r,rfl⟩
theorem Zp.first (h:Zp a bs es b4 as b b6 fs):∃ r,as=a::r:=by
 cases h with
 | here h=>exact ⟨[],rfl⟩
 | down h1 _=>exact ⟨_,rfl⟩
theorem Zp.ins (h:Zp a bs es b4 as b b6 fs) (k:cD cur' (Z1 d fs e)):∃ bs',Zp a bs' (Z1 (b4.length+d) es e) b4 as b cur' (Z1 d fs e):=by
 induction h with
 | here h=>exact ⟨cur',by show Zp _ _ (Z1 (0+d) _ e) _ _ _ _ _;exact qz (Nat.zero_add _) (.here k)⟩
 | @down a a' b pp p bs b6 pe es fs b4 as h1 _ ih =>
  obtain ⟨bs',z⟩:=ih k
  have k2:Z1 (b4.length+d+1) (pe++[two nQ pp a' es]) e=pe++[two nQ pp a' (Z1 (b4.length+d) es e)]:=aY
  refine ⟨p++[.quote bs'],?_⟩
  show Zp a _ (Z1 (b4.length+1+d) _ e) _ _ _ _ _
  exact qz (B5 _ _ _) (qz k2 (.down h1 z))
theorem Zp.push (h:Zp a bs es b4 as b b6 fs) (e:b6=p++[.quote c]):∃ gs pp a' b9,fs=gs++[two nQ pp a' b9]/\Zp a bs es (b4++[p]) (as++[a']) a' c b9:=by
 induction h with
 | here h =>
  apply Ah;intro g9 k9
  subst e
  obtain ⟨gs,e,rfl,h1,pp,a',b9,rfl,h2⟩:=h.cut
  apply k9
  exact ⟨gs,pp,a',b9,rfl,.down h1 (.here h2)⟩
 | down h1 _ ih =>
  apply Ah;intro g9 k9
  obtain ⟨gs,pp,a',b9,e',z⟩:=ih e
  apply k9
  exact ⟨gs,pp,a',b9,e',.down h1 z⟩
theorem Zp.pop (h:Zp a bs es b4 as b b6 fs):∀ {b8:List (List Bk)},b4=b8++[p]->∃ as' b' fs',as=as'++[b]/\Zp a bs es b8 as' b' (p++[.quote b6]) fs':=by
 induction h with
 | here h=>intro b8 e;exact absurd e (by simp)
 | @down a a' b pp p' bs b6 pe es fs b4 as h1 h2 ih =>
  intro b8 e
  cases b8 with
  | nil =>
   obtain ⟨e1,e2⟩:=List.cons.inj e
   subst e1;subst e2
   cases h2 with
   | here h=>exact ⟨[a],a,_,rfl,.here (h1.add (pH h))⟩
  | cons x b8 =>
   obtain ⟨e1,e2⟩:=List.cons.inj e
   subst e1
   obtain ⟨as',b',fs',e3,z⟩:=ih e2
   exact ⟨a::as',b',fs',by refine qz e3 ?_;rfl,.down h1 z⟩
end
structure TS (H0:Heap) (b4:List (List Bk)) (b6:List Bk) (as:List Nat) (b:Nat) (bs:List Bk) (rt fs:List En) (H:Heap):Prop where
 len:H0.length+2<=H.length
 old:R1 H0 H 0 H0.length
 pile:H[H0.length+1]? = some (as.map V.ref)
 zp:Zp H0.length bs rt b4 as b b6 fs
 nd:Nd H H0.length H.length H0.length rt
 ft:∀ i,cO rt i->H0.length+2<=i
section
variable {H0 H G:Heap}{b4:List (List Bk)}{b6:List Bk}{as:List Nat}{b:Nat}{bs:List Bk}{rt fs:List En}
theorem TS.up (h:TS H0 b4 b6 as b bs rt fs H) (g:K3 H G):Nd G H0.length H.length H0.length rt :=
 h.nd.mono (λi k=>g.old i (D8 _) (by
  rcases k with k|k
  ·have:=h.len;exact S5 (U1 (A4 k) this)
  ·exact (h.nd.2.foot k).2)) (D3 _)
theorem TS.grow (h:TS H0 b4 b6 as b bs rt fs H) (g:K3 H G):TS H0 b4 b6 as b bs rt fs G :=
 ⟨D2 h.len g.len,h.old.trans (g.old.sub (D3 _) (D2 (E1 _ _) h.len)),g.get h.pile,h.zp,(h.up g).mono (λZ Z=>rfl) g.len,h.ft⟩
theorem TS.put (h:TS H0 b4 b6 as b bs rt fs H) (g:K3 H G) (he:Ok G e H.length G.length) (hp:Fd b fs d c gs) (k:cD cur' (Z1 d fs e)) :
  G[c]? = some (gs.map lF)/\∃ bs' rt',TS H0 b4 cur' as b bs' rt' (Z1 d fs e) (G.set c (gs.map lF++[lF e])):=by
 have hI:=Cp0 he (h.zp.pth.more hp) (h.up g)
 obtain ⟨bs',z⟩:=h.zp.ins k
 have hc:c=H0.length∨H0.length+2<=c:=hI.mem.imp id (h.ft c)
 have hg:=h.grow g
 refine ⟨hI.here,bs',_,by refine qz C7 ?_;exact hg.len,hg.old.trans (R1.set (Or.inr (by lia))),?_,z,by refine qz C7 ?_;exact hI.nd,λi k=>?_⟩
 ·exact qz (A9 (by lia)) hg.pile
 ·rcases hI.ft i k with k|k
  ·exact h.ft i k
  ·exact D2 h.len (he.foot k).1
theorem TS.Ga (h:TS H0 b4 b6 as b bs rt fs H) (z:Zp H0.length bs rt b8 as' b' cur' fs'):TS H0 b8 cur' as' b' bs rt fs' (H.set (H0.length+1) (as'.map V.ref)):=by
 refine ⟨by refine qz C7 ?_;exact h.len,h.old.trans (R1.set (Or.inr (E4 _))),B9 h.len,z,?_,h.ft⟩
 refine qz C7 ?_
 refine h.nd.mono (λi k=>A9 ?_) (D3 _)
 rcases k with k|k
 ·exact qz k (Nat.ne_of_gt (D9 _))
 ·exact D1 (h.ft i k)
theorem TS.here (h:TS H0 b4 b6 as b bs rt fs H):H[b]? = some (fs.map lF)/\N8 H (.lst (O9 b6)) H0.length H.length (.ref b):=by
 have key:∀ {a d b:Nat}{es fs:List En},Fd a es d b fs->∀ {q:Nat},H0.length<=q->Nd H q H.length a es->∃ r,H0.length<=r/\Nd H r H.length b fs:=by
  intro a d b es fs h
  induction h with
  | here=>intro q hq h;exact ⟨q,hq,h⟩
  | @down a d b p r a' es fs b9 xs vs _ ih =>
   intro q hq h
   obtain ⟨m,k1,k2⟩:=h.2.cut
   have:=k2.1.2.le
   exact ih (q:=r) (D2 hq (D2 k1.le (D2 k2.1.1 this))) k2.2
 obtain ⟨r,hr,hn⟩:=key h.zp.pth (D3 _) h.nd
 refine ⟨hn.1.2.2.2,?_⟩
 have:=hn.rep
 rw [h.zp.typ.x] at this
 exact this.wide hr (D3 _)
end
noncomputable def T0 (last:List Nat) (bs:List Bk):List Nat:=match bs.getLast? with
 | some b=>eQ b
 | none=>last
theorem eD {last:List Nat}:T0 last (bs++[b])=eQ b:=by
 unfold T0;refine qz List.getLast?_append ?_;rfl
theorem aM.snoc {deep:Nat}:∀ {bs:List Bk}{last:List Nat},aM deep last (bs++[b])↔aM deep last bs/\wB deep b/\(eQ b≠T0 last bs∨T0 last bs=[104,101,97,100,105,110,103])
 | [],last=>⟨λh=>⟨trivial,h.1,h.2.1⟩,λh=>⟨h.2.1,h.2.2,trivial⟩⟩
 | c::bs,last=>by
  show wB deep c/\_/\aM deep (eQ c) (bs++[b])↔(wB deep c/\_/\aM deep (eQ c) bs)/\_
  rw [aM.snoc (bs:=bs),and_assoc,and_assoc]
  have:T0 last (c::bs)=T0 (eQ c) bs:=by
   cases bs with
   | nil=>rfl
   | cons d bs=>rfl
  rw [this]
mutual
noncomputable def Dr:It->Nat
 | .it _ ts sub=>(Ab ts).length+30+An sub
noncomputable def An:List It->Nat
 | []=>0
 | i::is=>Dr i+An is
end
theorem pB:∀ is js:List It,An (is++js)=An is+An js:=by
 intro is
 induction is with
 | nil=>exact λjs=>(Nat.zero_add _).symm
 | cons i is ih=>exact λjs=>by show Dr i+An (is++js)=Dr i+An is+An js;exact qz (ih js) (qz (C2 _ _ _) rfl)
theorem Bo8:∀ (j:Nat) (is:List It) (x:It),An (Ao j is x)=An is+Dr x:=by
 intro j
 induction j with
 | zero=>exact λis x=>by show An (is++[x])=_;refine qz (pB _ _) ?_;rfl
 | succ j ih =>
  exact λis x=>by
   rcases V4 is with rfl|⟨is',i,rfl⟩
   ·show Dr x+0=0+Dr x;refine qz (Nat.zero_add _) ?_;rfl
   ·obtain ⟨m,ts,sub⟩:=i
    refine qz X2 (qz (pB _ _) (qz (pB _ _) ?_))
    show An is'+((Ab ts).length+30+An (Ao j sub x)+0)=An is'+((Ab ts).length+30+An sub+0)+Dr x
    refine qz (ih sub x) ?_
    lia
mutual
theorem Cr6:∀ i:It,cnt i<=Dr i
 | .it n ts sub=>by
  have:=nD sub
  show Aq sub+1<=(Ab ts).length+30+An sub
  exact qz (Nat.add_comm _ _) (B3 (D2 (by decide:1<=30) (A7 _ _)) this)
theorem nD:∀ is:List It,Aq is<=An is
 | []=>D3 _
 | i::is=>B3 (Cr6 i) (nD is)
end
noncomputable def Dd:List (List T)->Nat
 | []=>0
 | ts::rs=>(Ab ts).length+30+Dd rs
theorem Cb5:∀ rs qs:List (List T),Dd (rs++qs)=Dd rs+Dd qs:=by
 intro rs
 induction rs with
 | nil=>exact λqs=>(Nat.zero_add _).symm
 | cons ts rs ih=>exact λqs=>by show (Ab ts).length+30+Dd (rs++qs)=(Ab ts).length+30+Dd rs+Dd qs;exact qz (ih qs) (qz (C2 ((Ab ts).length+30) _ _) rfl)
theorem As6:∀ rs:List (List T),rs.length<=Dd rs:=by
 intro rs
 induction rs with
 | nil=>exact D3 _
 | cons ts rs ih =>
  have:=ih
  show rs.length+1<=(Ab ts).length+30+Dd rs
  exact qz (Nat.add_comm _ _) (B3 (D2 (by decide:1<=30) (A7 _ _)) this)
mutual
noncomputable def Co:Bk->Nat
 | .gap n=>19 * n+1
 | .head _ ts=>(Ab ts).length+30
 | .list is=>An is+1
 | .para rs=>Dd rs+1
 | .quote bs=>Am bs+1
noncomputable def Am:List Bk->Nat
 | []=>0
 | b::bs=>Co b+Am bs
end
theorem bK:∀ as bs:List Bk,Am (as++bs)=Am as+Am bs:=by
 intro as
 induction as with
 | nil=>exact λbs=>(Nat.zero_add _).symm
 | cons a as ih=>exact λbs=>by show Co a+Am (as++bs)=Co a+Am as+Am bs;exact qz (ih bs) (qz (C2 _ _ _) rfl)
theorem bJ (b:Bk):Am [b]=Co b:=rfl
theorem Af7:∀ bs:List Bk,bs.length<=Am bs:=by
 intro bs
 induction bs with
 | nil=>exact D3 _
 | cons b bs ih =>
  have h1:1<=Co b:=by cases b<;>exact E0 (D8 _)
  show bs.length+1<=Co b+Am bs
  exact qz (Nat.add_comm _ _) (B3 h1 (ih))
mutual
theorem Cz5:∀ {above most:Nat}{i:It},El above most i->PI i
 | _,_,.it n ts sub=>λh=>⟨h.2.1.fit,uD h.2.2⟩
theorem uD:∀ {above most:Nat}{is:List It},cJ above most is->PIs is
 | _,_,[]=>λZ=>trivial
 | _,_,i::is=>λh=>⟨Cz5 h.1,uD h.2⟩
end
mutual
theorem Cz0:∀ {deep:Nat}{b:Bk},deep<=9->wB deep b->Co b<=W->Q2 W (2 * (9 - deep)+46) (Di b)
 | deep,.gap n=>λZ h Z=>(Bv3 (m:=1) (Q2.at (a:=.i (n:Nat)))).up (D3 _) (D2 (by decide) (A7 46 _))
 | deep,.head n ts=>λZ h Z=>by
  refine (Q2.tup (m:=26) (xs:=[.at (.s [104,101,97,100,105,110,103]),.at (.i (n:Nat)),.lst (M0 ts)]) (D2 (by decide:(3:Nat)<=4) W4) λy hy=>?_).up (D3 _) (D2 (by decide) (A7 46 _))
  rcases B0 hy with rfl|hy
  ·exact Q2.at
  ·rcases B0 hy with rfl|hy
   ·exact Q2.at
   ·exact qz (B1 hy) h.2.fit
 | deep,.list is=>λZ h hs=>by
  have hc:Aq is<=W:=D2 (nD is) (Nat.le_of_succ_le hs)
  exact (Bv3 (Q2.lst (m:=2 * 9+26) (qz (dF _) (D2 (dC is) hc)) (mZ h.2.2 hc (uD h.2.1)))).up (D3 _) (A7 46 _)
 | deep,.para rs=>λZ h hs=>by
  refine (Bv3 (Q2.lst (m:=26) (qz (jF _) (D2 (As6 rs) (Nat.le_of_succ_le hs))) λy hy=>?_)).up (D3 _) (D2 (by decide) (A7 46 _))
  obtain ⟨ts,ht,rfl⟩:=Cd7 hy
  exact (h.2 ts ht).1.fit
 | deep,.quote bs=>λhd h hs=>by
  have hc:Am bs<=W:=Nat.le_of_succ_le hs
  refine (Bv3 (Q2.lst (m:=2 * (9 - (deep+1))+46) (qz (dG _) (D2 (Af7 bs) hc)) (Ag2 (bs:=bs) h.1 h.2.2 hc))).up (D3 _) (qz (show 9 - deep=9 - (deep+1)+1 from (Nat.sub_add_cancel (Nat.sub_pos_of_lt h.1)).symm) (D3 _))
theorem Ag2:∀ {deep:Nat}{last:List Nat}{bs:List Bk},deep<=9->aM deep last bs->Am bs<=W->∀ y∈O9 bs,Q2 W (2 * (9 - deep)+46) y
 | _,_,[]=>λZ Z Z=>λy hy=>xL hy
 | deep,last,b::bs=>λhd h hs=>λy hy=>by
  have hs':Co b+Am bs<=W:=hs
  rcases B0 hy with rfl|hy
  ·exact Cz0 hd h.1 (D2 (E1 _ _) hs')
  ·exact Ag2 hd h.2.2 (D2 (A7 _ _) hs') y hy
end
theorem Ag1 {deep:Nat}{last:List Nat}(hd:deep<=9) (h:aM deep last bs) (hs:Am bs<=W):Q2 W (2 * (9 - deep)+47) (.lst (O9 bs)) :=
 Q2.lst (qz (dG _) (D2 (Af7 bs) hs)) (Ag2 hd h hs)
noncomputable def BC:Nat->List (List Bk)->Prop
 | _,[]=>True
 | i,p::b4=>(aM i [] p/\T0 [] p≠nQ/\i<9)/\BC (i+1) b4
theorem BC.snoc:∀ {b4:List (List Bk)}{i:Nat},BC i (b4++[p])↔BC i b4/\aM (i+b4.length) [] p/\T0 [] p≠nQ/\i+b4.length<9
 | [],i=>⟨λh=>⟨trivial,h.1⟩,λh=>⟨h.2,trivial⟩⟩
 | q::b4,i=>by
  show (_/\_/\_)/\BC (i+1) (b4++[p])↔((_/\_/\_)/\BC (i+1) b4)/\aM (i+(b4.length+1)) [] p/\_/\i+(b4.length+1)<9
  rw [BC.snoc (b4:=b4),and_assoc,and_assoc,and_assoc];refine qz (show i+(b4.length+1)=i+1+b4.length from B5 i b4.length 1) ?_
  simp only [and_assoc]
noncomputable def szC:List (List Bk)->Nat
 | []=>0
 | p::b4=>Am p+1+szC b4
theorem pC:∀ {b4:List (List Bk)},szC (b4++[p])=szC b4+(Am p+1):=by
 intro b4
 induction b4 with
 | nil=>exact Nat.add_comm _ _
 | cons q b4 ih =>
  show Am q+1+szC (b4++[p])=Am q+1+szC b4+(Am p+1)
  exact qz ih (qz (Eq.symm (C2 (Am q+1) _ _)) rfl)
structure BI (b4:List (List Bk)) (b6:List Bk) (N:Nat):Prop where
 up:BC 0 b4
 ok:aM b4.length [] b6
 sz:szC b4+Am b6<=N
theorem As1 {b6:List Bk}(f6:b6≠[]):∀ {b4:List (List Bk)}{i:Nat},BC i b4->aM (i+b4.length) [] b6->aM i [] (nE b4 b6)/\nE b4 b6≠[]
 | [],i,_,h=>⟨h,f6⟩
 | p::b4,i,hc,h=>by
  obtain ⟨h1,h2⟩:=As1 f6 (b4:=b4) (i:=i+1) hc.2 (qz (show i+1+b4.length=i+(b4.length+1) from B5 i 1 b4.length) h)
  exact ⟨aM.snoc.mpr ⟨hc.1.1,⟨hc.1.2.2,h2,h1⟩,Or.inl λq=>hc.1.2.1 q.symm⟩,λq=>nomatch (List.append_eq_nil_iff.mp q).2⟩
theorem As0 {b6:List Bk}:∀ {b4:List (List Bk)},Am (nE b4 b6)=szC b4+Am b6:=by
 intro b4
 induction b4 with
 | nil=>exact (Nat.zero_add _).symm
 | cons p b4 ih =>
  show Am (p++[.quote (nE b4 b6)])=Am p+1+szC b4+Am b6
  refine qz (bK _ _) (qz (bJ _) ?_)
  show Am p+(Am (nE b4 b6)+1)=_
  exact qz ih (qz (B5 (Am p) 1 _) (qz (B5 _ 1 _) (qz (Eq.symm (C2 _ _ _)) (qz (Eq.symm (C2 _ _ _)) rfl))))
theorem BC.deep {b4:List (List Bk)}(h:BC 0 b4):b4.length<=9:=by
 rcases V4 b4 with rfl|⟨c,p,rfl⟩
 ·exact D8 _
 ·have:=(BC.snoc.mp h).2.2.2
  refine qz D4 ?_
  show c.length+1<=9
  rw [Nat.zero_add] at this;exact this
noncomputable abbrev FZ:=List Nat×Option V
theorem sY {g:T->List Nat}{ts:List T}(h:ts[i]? = some t):(ts.take (i+1)).flatMap g=(ts.take i).flatMap g++g t:=qz List.take_add_one (qz h (qz List.flatMap_append (D0 _ (List.append_nil _))))
theorem Cf0 {C:Calls}{B:List S}(g:T->List Nat) {ts:List T}{Q:F8}{H:Heap}(hr:N8 H (.lst (M0 ts)) lo hi (.ref a)) (hl:(ts.flatMap g).length<=15800000)
  (step:∀ (i:Nat) (t:T) (v:V) (w:List Nat) (p q:Nat) (R:O3),ts[i]? = some t->N8 H (i0 t) p q v->w.length+(g t).length<=15800000->R .next [some (.ref a),some (.str (w++g t)),some v] H->K1 C B [some (.ref a),some (.str w),some v] R H)
  (h:Q (.str (ts.flatMap g)) H):K1 C [.assign 1 (.str []),.forIn 2 J0 B,.ret J1] [some (.ref a),none,none] (S1 Q) H:=by
 obtain ⟨a',l,p,q,e,hb,ha,Bc⟩:=hr
 cases e
 refine F9 iq (M7 (Y9 (σ:=FZ) (λz=>[some (.ref a),some (.str z.1),z.2]) (λi z G=>G=H/\z.1=(ts.take i).flatMap g) (l:=l) (λi z G hI=>hI.1▸ha) (λi z G v hv hI K hK=>?_) (λz G hI=>?_) ⟨[],none⟩ iq ⟨rfl,rfl⟩))
 ·obtain ⟨rfl,hw⟩:=hI
  obtain ⟨t,p',q',ht,_,_,Dn⟩:=Cl2 Bc hv
  have e2:ts.flatMap g=(ts.take (i+1)).flatMap g++(ts.drop (i+1)).flatMap g:=qz List.flatMap_append.symm (qz (List.take_append_drop _ _) rfl)
  rw [e2,sY ht,D4,D4] at hl
  refine step i t v z.1 p' q' _ ht Dn (qz hw (S5 hl)) (hK ⟨_,_⟩ _ ⟨rfl,?_⟩)
  exact qz (sY ht) (qz hw rfl)
 ·obtain ⟨rfl,hw⟩:=hI
  refine O0 iq ?_
  show Q (.str z.1) _
  exact qz hw (qz Bc.len (qz (V9 _) (qz List.take_length h)))
theorem Bp3:∀ ts:List T,Ab ts=ts.flatMap Aj:=by
 intro ts
 induction ts with
 | nil=>exact rfl
 | cons t ts ih =>
  show Aj t++Ab ts=_;refine qz ih ?_;rfl
theorem Bv0 {c:Nat}{b:Bool}{H:Heap}:eR .mul (.str [c]) (.int (if b then 1 else 0)) H=some (.str (if b then [c] else []),H):=by
 cases b with
 | true=>exact Ae5 (n:=1) ⟨by show 1<=P0;decide,by decide,by decide⟩
 | false=>exact Ae5 (n:=0) ⟨D8 _,by decide,by decide⟩
theorem X4 (hl:Ev C ρ H l (.str a)) (hr:Ev C ρ H r (.str b)) (h:(a++b).length<=15800000):Ev C ρ H (.bin .add l r) (.str (a++b)):=K0 hl hr (bC (qz List.length_append.symm (D2 h wM)))
noncomputable def LRs (d n:Nat):Prop:=∀ (ts:List T) (a lo hi:Nat) (H:Heap) (Q:F8),eV d ts->N8 H (.lst (M0 ts)) lo hi (.ref a)->(Ab ts).length<=15800000->Q (.str (Ab ts)) H->Ac P n "_law_row" [.ref a] Q H
theorem sS {n d:Nat}(ih:d<12->LRs (d+1) n):LRs d (n+1):=by
 intro ts a lo hi H Q hg hr hl h
 rw [Bp3] at h hl
 refine E9 rfl rfl (Cf0 Aj hr hl (λi t v w p q R ht Dn b7 hR=>?_) h)
 have hgt:=hg.get ht
 have hT:(w++Aj t).length<=15800000:=qz D4 b7
 clear b7
 have n9:∀ {us:List T}{a2:Nat}{u:List Nat}{ρ:M6}{e:E},d<12->eV (d+1) us->N8 H (.lst (M0 us)) p q (.ref a2)->(u++Ab us).length<=15800000->Ev (Ac P n) ρ H e (.ref a2)->Ev (Ac P n) ρ H (.call "_law_row" [e]) (.str (Ab us)):=λh1 h2 h3 h4 h5=>K4 (I8 h5 Q7) λQ q=>ih h1 _ _ _ _ H Q h2 h3 (suf h4) q
 cases t with
 | Al s =>
  rw [show v=.str s from Dn] at hR ⊢
  exact H7 iq (F9 (X4 iq iq hT) hR)
 | kept s =>
  rw [cA Dn] at hR ⊢
  replace hT:(w++([92]++s)).length<=15800000:=hT
  replace hR:R .next [some (.ref a),some (.str (w++([92]++s))),some (wY s)] H:=hR
  rw [<- D5] at hR hT
  exact G8 iq (H7 iq (F9 (X4 (X4 iq S7 (pre hT)) iq hT) hR))
 | code s b =>
  rw [cB Dn] at hR ⊢
  replace hT:(w++([96]++s++(if b then [96] else []))).length<=15800000:=hT
  replace hR:R .next [some (.ref a),some (.str (w++([96]++s++(if b then [96] else [])))),some (Bc2 s b)] H:=hR
  rw [<- D5,<- D5] at hR hT
  exact G8 iq (G8 iq (H7 iq (F9 (X4 (X4 (X4 iq S7 (pre (pre hT))) iq (pre hT)) (K0 S7 (fT iq) Bv0) hT) hR)))
 | span c us b =>
  obtain ⟨a2,rfl,Ay⟩:=bY Dn
  replace hT:(w++([c]++([40]++Ab us)++(if b then [41] else []))).length<=15800000:=hT
  replace hR:R .next [some (.ref a),some (.str (w++([c]++([40]++Ab us)++(if b then [41] else [])))),some (lN c a2 b)] H:=hR
  rw [<- D5,<- D5,<- D5] at hR hT
  exact G8 iq (G8 iq (G8 iq (H7 iq (F9 (X4 (X4 (X4 iq iq (pre (pre (pre hT)))) S7 (pre (pre hT))) (n9 hgt.1 hgt.2.2 Ay (pre hT) iq) (pre hT)) (F9 (X4 iq (K0 S7 (fT iq) Bv0) hT) hR)))))
 | link us g b =>
  obtain ⟨a2,rfl,Ay⟩:=bZ Dn
  cases g with
  | none =>
   replace hT:(w++([91]++Ab us++(if b then [93] else []))).length<=15800000:=hT
   replace hR:R .next [some (.ref a),some (.str (w++([91]++Ab us++(if b then [93] else [])))),some (X5 a2 none b)] H:=hR
   rw [<- D5,<- D5] at hR hT
   exact G8 iq (G8 iq (G8 iq (G8 iq (H7 iq (F9 (X4 (X4 (X4 iq S7 (pre (pre hT))) (n9 hgt.1 hgt.2.2 Ay (pre hT) iq) (pre hT)) (K0 S7 (fT iq) Bv0) hT) hR)))))
  | some g =>
   replace hT:(w++([91]++Ab us++[93,40]++g++(if b then [41] else []))).length<=15800000:=hT
   replace hR:R .next [some (.ref a),some (.str (w++([91]++Ab us++[93,40]++g++(if b then [41] else [])))),some (X5 a2 (some g) b)] H:=hR
   rw [<- D5,<- D5,<- D5,<- D5] at hR hT
   exact G8 iq (G8 iq (G8 iq (G8 iq (G8 iq (F9 (X4 (X4 (X4 iq S7 (pre (pre (pre (pre hT))))) (n9 hgt.1 hgt.2.2 Ay (pre (pre (pre hT))) iq) (pre (pre (pre hT)))) S7 (pre (pre hT))) (F9 (X4 (X4 iq iq (pre hT)) (K0 S7 (fT iq) Bv0) hT) hR))))))
theorem uV:∀ (m d n:Nat),d+m=12->LRs d (n+m+1):=by
 intro m
 induction m with
 | zero=>exact λd n h=>sS λq=>absurd h (D1 q)
 | succ m ih=>exact λd n h=>sS λZ=>ih (d+1) n ((B5 d 1 m).trans h)
theorem yC (ho:Ev C ρ H o (.str s)) (ha:Ev C ρ H a (.str [c])):Ev C ρ H (.lstrip o a) (.str (s.dropWhile (· == c))):=λZ k=>ho _ (ha _ k)
theorem sN (c:Nat):∀ row:List Nat,(row.length:Int) - ((row.dropWhile (· == c)).length:Int)=(Ak c row:Int):=by
 intro row
 induction row with
 | nil=>exact rfl
 | cons x r ih =>
  have ih:=ih
  by_cases h:x=c
  ·refine qz (List.dropWhile_cons_of_pos (by simpa using h)) ?_
   have e:Ak c (x::r)=Ak c r+1:=if_pos h
   exact qz e (qz List.length_cons (qz (Int.natCast_succ _) (qz (Int.natCast_succ _) (qz ih.symm (qz Int.sub_eq_add_neg (qz Int.sub_eq_add_neg (qz (Int.add_right_comm _ _ _) rfl)))))))
  ·refine qz (List.dropWhile_cons_of_neg (by simpa using h)) ?_
   have e:Ak c (x::r)=0:=if_neg h
   exact qz e (Int.sub_self _)
theorem Cq5:W5 .isin (.int (k:Nat)) (.tup [.int 1,.int 2,.int 3,.int 4,.int 5,.int 6]) H=some (decide (1<=k)&&decide (k<=6)):=by
 match k with
 | 0=>rfl
 | 1=>rfl
 | 2=>rfl
 | 3=>rfl
 | 4=>rfl
 | 5=>rfl
 | 6=>rfl
 | k+7=>rfl
theorem Cl0 {deep:Nat}{row:List Nat}(h0:(row==[])=false) (h1:isQ deep row=false) (h2:Av 35 6 row=false) (h3:Av 45 9 row=false):(Au deep row).1=4:=by
 cases row with
 | nil=>cases h0
 | cons x r =>
  show (Cg deep (x::r)).1=4
  unfold Cg
  refine qz h1 (qz h2 (qz h3 ?_));rfl
theorem Dd7 {deep:Nat}:(Au deep (122::r)).1=4:=Cl0 rfl (by unfold isQ;cases r<;>simp) rfl rfl
noncomputable def kJ (deep:Nat) (row:List Nat):Bool :=
 bif decide (1<=Ak 35 row)&&decide (Ak 35 row<=6)&&((row.drop (Ak 35 row)).take 1==[32]) then false
 else bif decide ((0:Int)<(Ak 45 row:Int))&&decide ((Ak 45 row:Int)<10)&&((row.drop (Ak 45 row)).take 1==[32]) then false
 else (!(row==[])&&(!(slice row none (some 2)==[62,32])||(deep:Int)==9))
theorem vO {n deep:Nat}{row:List Nat}(hd:deep<=9) (Q:F8) (h:∀ b,b=kJ deep row->(b=true->(Au deep row).1=4)->Q (.bool b) H):Ac P (n+1) "_law_plain_row" [.str row,.int (deep:Nat)] Q H:=by
 have sp:∀ {x k:Nat}{ρ:M6}{C:Calls},ρ[0]? = some (some (.str row))->ρ[x]? = some (some (.int (k:Nat)))->Ev C ρ H (.cmp .eq (.slc J0 (.var x) (.bin .add (.var x) (.int 1))) (.str [32])) (.bool ((row.drop k).take 1==[32])):=λh0 hx=>Cl6 h0 hx
 refine E9 rfl rfl (F9 (jX (K0 (Q1 iq oM) (Q1 (yC iq S7) oM) oL) (D0 V.int (sN 35 row))) (F9 (jX (K0 (Q1 iq oM) (Q1 (yC iq S7) oM) oL) (D0 V.int (sN 45 row))) ?_))
 refine Z9 (K7 (H9 iq iq Cq5) λZ=>M9 (sp rfl rfl)) (λh2=>O0 iq (h false (by unfold kJ;refine qz h2 ?_;rfl) λq=>xF q)) (λh2=>?_)
 refine Z9 (K7 (Cm5 G9 iq G9 aZ aZ) λZ=>M9 (sp rfl rfl)) (λh3=>O0 iq (h false (by unfold kJ;refine qz h2 (qz h3 ?_);rfl) λq=>xF q)) (λh3=>?_)
 refine O0 (ss:=[]) (K7 (H9 iq S7 nK) λZ=>M9 (R5 (H9 (Ae0 iq G9 tI) S7 nK) λZ=>Z8 (H9 iq G9 Y2))) (h _ (by unfold kJ;refine qz h2 (qz h3 ?_);rfl) λq=>?_)
 obtain ⟨q1,q2⟩:=B6 q
 refine Cl0 (by simpa using q1) ?_ ?_ ?_
 ·unfold isQ
  have e:slice row none (some 2)=row.take 2:=oX (by decide)
  rw [e] at q2
  cases hq:(row.take 2==[62,32]) with
  | false=>exact Bool.and_false _
  | true =>
   rw [hq] at q2
   have:deep=9:=Int.ofNat.inj (beq_iff_eq.mp q2)
   refine qz this ?_;rfl
 ·unfold Av;rw [Bool.and_assoc] at h2;exact h2
 ·unfold Av
  have e1:decide ((0:Int)<(Ak 45 row:Int))=decide (1<=Ak 45 row):=decide_eq_decide.mpr Int.natCast_pos
  have e2:decide ((Ak 45 row:Int)<10)=decide (Ak 45 row<=9):=decide_eq_decide.mpr (Int.ofNat_lt.trans Nat.lt_succ_iff)
  rw [e1,e2,Bool.and_assoc] at h3;exact h3
noncomputable def ahead (w:List Nat):List T->List T
 | []=>[.Al w]
 | .Al s::ts=>.Al (w++s)::ts
 | t::ts=>.Al w::t::ts
theorem qP (h:txT t=false):ahead w (t::ts)=.Al w::t::ts:=by
 cases t with
 | Al s=>cases h
 | _=>rfl
theorem lD:Ab (ahead w ts)=w++Ab ts:=by
 cases ts with
 | nil=>rfl
 | cons t ts =>
  cases t with
  | Al s=>show (w++s)++Ab ts=w++(s++Ab ts);exact qz (D5 _ _ _) rfl
  | _=>rfl
theorem S3 (h:ts≠[]∨txT t=false):ahead w (ts++[t])=ahead w ts++[t]:=by
 cases ts with
 | nil =>
  rcases h with h|h
  ·exact absurd rfl h
  ·exact qP h
 | cons u ts =>
  cases u with
  | Al s=>rfl
  | _=>rfl
theorem tB (hn:eO ts) (h:ts≠[]):eO (ahead w ts)/\(bF (ahead w ts)->bF ts):=by
 rcases V4 ts with rfl|⟨r,t,rfl⟩
 ·exact absurd rfl h
 ·have ht:txT t=false:=by
   cases t with
   | Al s=>exact absurd rfl (hn r s)
   | _=>rfl
  refine qz (S3 (Or.inr ht)) ?_
  refine ⟨λus s e=>?_,λq=>?_⟩
  ·rw [Al0 e] at ht;cases ht
  ·obtain ⟨vs,e⟩:=Ac3 q
   exact ⟨r,vs,qz e rfl⟩
theorem R7.ahead {deep:Nat}(h:R7 deep kd ts) (h1:W3 deep kd w) (h2:∀ s,W3 deep kd s->W3 deep kd (w++s)):R7 deep kd (ahead w ts):=by
 have n0:eO []:=λus s q=>absurd q (by simp)
 have b0:¬ bF []:=Bh5 rfl
 induction h with
 | nil=>exact .Al (ts:=[]) .nil n0 h1 λq=>absurd q b0
 | @Al deep kd ts s hg hn hp hb ih =>
  by_cases he:ts=[]
  ·subst he;exact .Al (ts:=[]) .nil n0 (h2 s hp) λq=>absurd q b0
  ·exact qz (S3 (Or.inl he)) (.Al (ih h1 h2) (tB hn he).1 hp λq=>hb ((tB hn he).2 q))
 | kept _ ih=>exact qz (S3 (Or.inr rfl)) (.kept (ih h1 h2))
 | code _ k ih=>exact qz (S3 (Or.inr rfl)) (.code (ih h1 h2) k)
 | span _ k1 k2 k3 ih _=>exact qz (S3 (Or.inr rfl)) (.span (ih h1 h2) k1 k2 k3)
 | link _ k1 k2 k3 ih _=>exact qz (S3 (Or.inr rfl)) (.link (ih h1 h2) k1 k2 k3)
theorem jY.ahead {deep:Nat}(h:jY deep kd ts) (h1:W3 deep kd w) (h2:∀ s,W3 deep kd s->W3 deep kd (w++s)):jY deep kd (ahead w ts):=by
 cases h with
 | good hg=>exact .good (hg.ahead h1 h2)
 | kept hg=>exact qz (S3 (Or.inr rfl)) (.kept (hg.ahead h1 h2))
 | code hg k=>exact qz (S3 (Or.inr rfl)) (.code (hg.ahead h1 h2) k)
 | span hg k1 k2 k3=>exact qz (S3 (Or.inr rfl)) (.span (hg.ahead h1 h2) k1 k2 k3)
 | bare hg k1 k2=>exact qz (S3 (Or.inr rfl)) (.bare (hg.ahead h1 h2) k1 k2)
 | link hg k1 k2 k3=>exact qz (S3 (Or.inr rfl)) (.link (hg.ahead h1 h2) k1 k2 k3)
noncomputable def aw (w:List Nat):Bool:=w != []&&w.all (λc=>qU c&&c != 92&&c != 96&&c != 91&&c != 42&&c != 95&&c != 126)&&decide (w.length<=10)
structure AW (w:List Nat):Prop where
 ne:w≠[]
 all:∀ c∈w,qU c=true/\c≠92/\c≠96/\c≠91/\[42,95,126].contains c=false
 len:w.length<=10
theorem Cj5 (h:aw w=true):AW w:=by
 obtain ⟨h,h3⟩:=B6 h
 obtain ⟨h1,h2⟩:=B6 h
 refine ⟨by simpa using h1,λc hc=>?_,of_decide_eq_true h3⟩
 have:=List.all_eq_true.mp h2 c hc
 simp only [Bool.and_eq_true,bne_iff_ne] at this
 refine ⟨this.1.1.1.1.1.1,this.1.1.1.1.1.2,this.1.1.1.1.2,this.1.1.1.2,?_⟩
 cases hq:[42,95,126].contains c with
 | false=>rfl
 | true =>
  have hm:=List.contains_iff_mem.mp hq
  rcases B0 hm with q|hm
  ·exact absurd q this.1.1.2
  ·rcases B0 hm with q|hm
   ·exact absurd q this.1.2
   ·exact absurd (B1 hm) this.2
theorem AW.plain (h:AW w) (hs:∀ c∈s,c≠92/\c≠96/\(0<12->c≠91)) (hp:∀ a b c,s=a++c::40::b->[42,95,126].contains c=false):W3 0 .top (w++s):=by
 refine ⟨λq=>h.ne (List.append_eq_nil_iff.mp q).1,λc hc=>?_,λZ a b c e=>?_⟩
 ·rcases C0 hc with q|q
  ·have:=h.all c q
   exact ⟨this.2.1,this.2.2.1,(λq=>nomatch q),(λq=>nomatch q),λZ=>this.2.2.2.1⟩
  ·exact ⟨(hs c q).1,(hs c q).2.1,(λq=>nomatch q),(λq=>nomatch q),(hs c q).2.2⟩
 ·rcases List.append_eq_append_iff.mp e with ⟨r,e1,e2⟩|⟨r,e1,e2⟩
  ·exact hp r b c e2
  ·cases r with
   | nil=>exact hp [] b c e2.symm
   | cons x r =>
    have:x=c:=(List.cons.inj e2).1.symm
    subst this
    exact (h.all x (qz e1 (List.mem_append.mpr (Or.inr (.head _))))).2.2.2.2
structure PT (ts:List T) (N:Nat):Prop where
 op:jY 0 .top ts
 sg:Sg (Ab ts)
 len:(Ab ts).length<=N
theorem PT.ct (h:PT ts N) (hN:N<=900000):Ct ts:=⟨h.op,h.sg,D2 h.len (D2 hN (by decide))⟩
theorem PT.ahead (h:PT ts N) (hw:AW w):PT (ahead w ts) (N+10):=by
 refine ⟨h.op.ahead ?_ ?_,?_,?_⟩
 ·have:=hw.plain (s:=[]) (λc q=>xL q) (λa b c e=>absurd e (by simp))
  rw [List.append_nil] at this
  exact this
 ·intro s hs
  exact hw.plain (λc q=>⟨(hs.all c q).1,(hs.all c q).2.1,(hs.all c q).2.2.2.2⟩) (hs.pair (by decide))
 ·exact qz lD (Sg.app (λc q=>(hw.all c q).1) h.sg)
 ·refine qz lD (qz D4 ?_);have:=h.len;have:=hw.len;lia
noncomputable def kC {α:Type}:List α->Bool
 | []=>false
 | _::_=>true
theorem Cr5 (he:Ev C ρ H e (.ref a)) (hm:m<100) (hf:Q2 W m (.lst xs)) (ho:qY xs) (h:N8 H (.lst xs) lo hi (.ref a)) (hh:hi<=H.length):aF C ρ H (.cmp .eq e (.list [])) (.bool (!kC xs)) (λG=>G=H++[[]]) :=
 rR (iK he) (λG g=>by subst g;exact mP) λG g=>by
  subst g
  cases xs with
  | nil=>exact Cl5 (w:=W) hm hf ho (h.grow .one hh) (U7 (lo:=H.length) (hi:=H.length+1) ⟨D3 _,D9 _,D3 _,E4 _⟩ K6 (.nil (D3 _)))
  | cons x xs=>exact Bu9 hm hf ho (h.grow .one hh) K6
theorem Af5 (he:Ev C ρ H e (.ref a)) (hm:m<100) (hf:Q2 W m (.lst xs)) (ho:qY xs) (h:N8 H (.lst xs) lo hi (.ref a)) (hh:hi<=H.length):aF C ρ H (.cmp .ne e (.list [])) (.bool (kC xs)) (λG=>G=H++[[]]) :=
 rR (iK he) (λG g=>by subst g;exact mP) λG g=>by
  subst g
  have q:W5 .eq (.ref a) (.ref H.length) (H++[[]])=some (!kC xs):=by
   cases xs with
   | nil=>exact Cl5 (w:=W) hm hf ho (h.grow .one hh) (U7 (lo:=H.length) (hi:=H.length+1) ⟨D3 _,D9 _,D3 _,E4 _⟩ K6 (.nil (D3 _)))
   | cons x xs=>exact Bu9 hm hf ho (h.grow .one hh) K6
  have q2:=D0 (Option.map not) q
  exact q2.trans (D0 some (Bool.not_not _))
theorem Bh9 {Φ:Heap->Prop}(h1:aF C ρ H e (.bool false) Φ):aF C ρ H (.and (e::f::es)) (.bool false) Φ:=λQ k=>h1 _ λG g=>k G g
theorem Ce8 {Φ:Heap->Prop}(hc:aF C ρ H c (.bool false) Φ) (k:∀ G,Φ G->K1 C f ρ (R8 C ss R) G):K1 C (.ite c t f::ss) ρ R H:=hc _ λG g=>k G g
noncomputable def AhQ (H:Heap) (ts:List T) (lo:Nat) (Q:F8):Prop:=∀ c G,K3 H G->N8 G (.lst (M0 ts)) lo G.length (.ref c)->Q (.ref c) G
theorem zL {n a lo hi N:Nat}(hw:w.length<=10) (hp:PT ts N) (hN:N<=10000) (hr:N8 H (.lst (M0 ts)) lo hi (.ref a)) (hh:hi<=H.length) (h:AhQ H (ahead w ts) lo Q):Ac P (n+1) "_law_ahead" [.str w,.ref a] Q H:=by
 have hlim:P0=16777216:=rfl
 have n7:=hp.ct (D2 hN (by decide))
 have en:=Af5 (C:=Ac P n) (ρ:=[some (.str w),some (.ref a)]) (e:=J1) (by exact iq) (by decide:26<100) n7.fit (lO n7.good) hr hh
 apply Ah;intro g9 k9
 obtain ⟨a',l,p,q,e,hb,ha,Bc⟩:=hr
 apply k9
 cases e
 have Ck:l.length<=10000:=by
  have h1:=n7.fit.1
  refine qz Bc.len (qz (V9 _) ?_)
  have:ts.length<=(Ab ts).length:=by
   cases hp.op with
   | good hg=>exact hg.len
   | kept hg=>exact qz (N7 _ _) (qz D4 (qz D4 (B3 hg.len (by show 1<=(Ab [_]).length;rw [M8];exact E0 (D8 _)))))
   | code hg _=>exact qz (N7 _ _) (qz D4 (qz D4 (B3 hg.len (by show 1<=(Ab [_]).length;rw [M8];exact E0 (D8 _)))))
   | span hg _ _ _=>exact qz (N7 _ _) (qz D4 (qz D4 (B3 hg.len (by show 1<=(Ab [_]).length;rw [M8];exact E0 (D8 _)))))
   | bare hg _ _=>exact qz (N7 _ _) (qz D4 (qz D4 (B3 hg.len (by show 1<=(Ab [_]).length;rw [M8];exact E0 (D8 _)))))
   | link hg _ _ _=>exact qz (N7 _ _) (qz D4 (qz D4 (B3 hg.len (by show 1<=(Ab [_]).length;rw [M8];exact E0 (D8 _)))))
  exact D2 this (D2 hp.len hN)
 have ha1:(H++[[]])[a]? = some l:=P9 ha
 have els:ahead w ts=.Al w::ts->K1 (Ac P n) [.ret (.bin .add (.list [J0]) J1)] [some (.str w),some (.ref a)] (S1 Q) (H++[[]]):=λe=>by
  refine aH (cQ (aJ (K5 (v:=.str w) (by exact iq) (K8 ?_))))
  refine eY rfl (hO K6 (P9 ha1) (D2 (A6 Ck 1) (by show 1+10000<=16777216;decide)) ?_)
  have gr:K3 H (H++[[]]++[[V.str w]]++[[V.str w]++l]):=(K3.one.trans .one).trans .one
  refine h _ _ gr ?_
  refine qz e ?_
  refine U7 ⟨?_,?_,hb.lp,?_⟩ K6 (.atom (a:=.s w) (Bc.to (gr.old.sub (D8 _) (D2 hb.qh hh))))
  ·exact qz R6 (qz R6 (D2 hb.la (D2 (E2 hb.ah) (D2 hh (E1 _ 2)))))
  ·exact qz (R6 (H:=H++[[]]++[[V.str w]])) (D9 _)
  ·exact D2 hb.qh (D2 hh gr.len)
 refine E9 rfl rfl ?_
 cases ts with
 | nil=>exact T7 (Bh9 en) λG g=>by subst g;exact els rfl
 | cons t ts =>
  apply Ah;intro g9 k9
  obtain ⟨v,r,m,rfl,hm1,hv,hrr⟩:=Bc
  apply k9
  have e1:∀ G,G=H++[[]]->aF (Ac P n) [some (.str w),some (.ref a)] G (.and [.Ae (.idx J1 (.int 0)) .str]) (.bool (dU v .str)) (λG=>G=H++[[]]):=λG g=>by
   subst g
   exact hX (iK (kF (L6 (by exact iq) G9 (X3 (i:=0) ha1 rfl))))
  cases ht:txT t with
  | false =>
   have hf:dU v .str=false:=by
    cases t with
    | Al s=>cases ht
    | kept s=>refine qz (cA hv) ?_;rfl
    | code s b=>refine qz (cB hv) ?_;rfl
    | span c us b=>obtain ⟨_,e,_⟩:=bY hv;refine qz e ?_;rfl
    | link us g b=>obtain ⟨_,e,_⟩:=bZ hv;refine qz e ?_;rfl
   rw [hf] at e1
   exact T7 (cG en e1) λG g=>by subst g;exact els (qP ht)
  | true =>
   obtain ⟨s,rfl⟩:∃ s,t=.Al s:=by
    cases t with
    | Al s=>exact ⟨s,rfl⟩
    | _=>cases ht
   obtain rfl:v=.str s:=hv
   refine fX (cG en e1) λG g=>?_
   subst g
   have hs:s.length<=10000:=by
    have:=hp.len
    replace this:(s++Ab ts).length<=N:=this
    rw [D4] at this
    exact D2 (E1 _ _) (D2 this hN)
   refine aH (cQ (aJ (K5 (v:=.str (w++s)) (K0 (by exact iq) (L6 (by exact iq) G9 (X3 (i:=0) ha1 rfl)) (bC (D2 (B3 hw hs) (by show 10+10000<=16777216;decide)))) (K8 ?_))))
   have sl:cK (.ref a) (some 1) none (H++[[]]++[[V.str (w++s)]])=some (.ref (H++[[]]++[[V.str (w++s)]]).length,H++[[]]++[[V.str (w++s)]]++[r]):=by
    show ((H++[[]]++[[V.str (w++s)]])[a]?).map _=_
    refine qz (P9 ha1) ?_
    show some (_,_++[slice (V.str s::r) (some 1) none])=_
    refine qz (X0 (by decide)) ?_;rfl
   have e2:∀ Q:F8,Q (.ref (H++[[]]++[[V.str (w++s)]]).length) (H++[[]]++[[V.str (w++s)]]++[r])->L0 (Ac P n) (.Aw J1 (.int 1)) [some (.str w),some (.ref a)] Q (H++[[]]++[[V.str (w++s)]]):=λQ q=>by
    show res (cK (.ref a) (some 1) none (H++[[]]++[[V.str (w++s)]])) Q
    exact qz sl q
   refine e2 _ (hO (P9 K6) K6 (qz (Nat.add_comm _ _) (D2 Ck (by show 10000<=16777216;decide))) ?_)
   have gr:K3 H (H++[[]]++[[V.str (w++s)]]++[r]++[[V.str (w++s)]++r]):=((K3.one.trans .one).trans .one).trans .one
   refine h _ _ gr ?_
   refine U7 ⟨?_,?_,D2 hb.lp hm1,?_⟩ K6 (M1.atom (a:=.s (w++s)) (hrr.to (gr.old.sub (D8 _) (D2 hb.qh hh))))
   ·exact qz R6 (qz R6 (qz R6 (D2 hb.la (D2 (E2 hb.ah) (D2 hh (E1 _ 3))))))
   ·exact qz (R6 (H:=H++[[]]++[[V.str (w++s)]]++[r])) (D9 _)
   ·exact D2 hb.qh (D2 hh gr.len)
noncomputable def jA:List (List Nat):=[[35],[35,35,97],[45],[45,45,45],[35,35,35,35,35,35,35,35],[62,97],[62],[45,45,45,45,45,45,45,45,45,45],[45,53],[35,35,35,35,35,35,35],[62,32],[62,62]]
theorem Az4:jA.all aw=true:=by rfl
theorem Az2 {H:Heap}{lo hi j:Nat}{l:List V}(h:M1 H (jA.map λw=>.at (.s w)) lo hi l) (hv:l[j]? = some v):∃ w,jA[j]? = some w/\v=.str w:=by
 obtain ⟨x,hx,hr⟩:=tE h hv
 rw [E6] at hx
 obtain ⟨w,hw,rfl⟩:=C1 hx
 exact ⟨w,hw,hr⟩
structure PlD (H:Heap) (deep lo N:Nat) (ts:List T) (c:Nat) (G:Heap):Prop where
 pt:PT ts N
 k4:(Au deep (Ab ts)).1=4
 gr:K3 H G
 rep:N8 G (.lst (M0 ts)) lo G.length (.ref c)
noncomputable def kL (ts:List T) (k:Int):List T:=bif k % 3==1 then ahead ((jA[(k / 3 % 12).toNat]?).getD []) ts else ts
noncomputable def dB (ts:List T) (k:Int) (deep:Nat):List T:=bif kJ deep (Ab (kL ts k)) then kL ts k else ahead [122] (kL ts k)
theorem qG {n a lo hi N deep:Nat}{k:Int}{ts:List T}{H:Heap}{Q:F8}(hd:deep<=9) (hp:PT ts N) (hN:N<=9000) (hr:N8 H (.lst (M0 ts)) lo hi (.ref a)) (hh:hi<=H.length) (h:∀ ts' c G,ts'=dB ts k deep->PlD H deep lo (N+20) ts' c G->Q (.ref c) G):Ac P (n+14) "_law_plainly" [.ref a,.int k,.int (deep:Nat)] Q H:=by
 have rest:∀ {ts1 a hi G x3},kL ts k=ts1->PT ts1 (N+10)->K3 H G->N8 G (.lst (M0 ts1)) lo hi (.ref a)->hi<=G.length->K1 (Ac P (n+13)) (gY.body.drop 1) [some (.ref a),some (.int k),some (.int (deep:Nat)),x3] (S1 Q) G:=λ{ts1 a hi G x3} het hp g hr hh=>by
  have n7:=hp.ct (D2 (C4 hN 10) (by decide))
  have ev:∀ Q:F8,(∀ b,b=kJ deep (Ab ts1)->(b=true->(Au deep (Ab ts1)).1=4)->Q (.bool b) G)->L0 (Ac P (n+13)) (.call "_law_plain_row" [.call "_law_row" [J0],J2]) [some (.ref a),some (.int k),some (.int (deep:Nat)),x3] Q G:=λQ q =>
   P7 (Q9 (P7 (K5 (v:=.ref a) (by exact iq) (K8 (uV 12 0 n rfl ts1 a lo hi G _ n7.good hr (D2 n7.len (by decide)) (K5 (v:=.int (deep:Nat)) (by exact iq) (K8 (vO (n:=n+12) hd Q q))))))))
  refine ev _ λb hbe hb=>?_
  cases b with
  | true=>exact O0 (ss:=[]) (by exact iq) (h ts1 a G (by unfold dB;refine qz het (qz hbe.symm ?_);rfl) ⟨⟨hp.op,hp.sg,D2 hp.len (A6 (by decide) N)⟩,hb rfl,g,hr.wide (D3 _) hh⟩)
  | false =>
   refine rU (ss:=[]) (vs:=[.str [122],.ref a]) (by exact iq) (zL (n:=n+12) (by decide) hp (D2 (C4 hN 10) (by decide)) hr hh λc G' g' hr'=>?_)
   exact h _ c G' (by unfold dB;refine qz het (qz hbe.symm ?_);rfl) ⟨hp.ahead (Cj5 rfl),by refine qz lD ?_;exact Dd7,g.trans g',hr'⟩
 refine E9 rfl rfl (Z9 (b:=k % 3==1) (H9 (K0 (by exact iq) G9 (Q8 (by decide))) G9 Y2) (λhq=>?_) (λhq=>?_))
 ·refine P1 (oS (.lst (jA.map λw=>.at (.s w))) _ _ λv G g r=>?_)
  apply Ah;intro g9 k9
  obtain ⟨b,l,p,q,rfl,hb,hbl,hrb⟩:=r
  have hl:l.length=12:=hrb.len
  obtain ⟨j,hj⟩:=Int.eq_ofNat_of_zero_le (Int.emod_nonneg (k / 3) (by decide:(12:Int)≠0))
  have hj12:j<l.length:=qz hl (Int.ofNat_lt.mp (hj▸Int.emod_lt_of_pos _ (by decide)))
  have hv:l[j]? = some l[j]:=A8 hj12
  obtain ⟨w,hw,e⟩:=Az2 hrb hv
  apply k9
  rw [e] at hv
  have haw:=Cj5 (List.all_eq_true.mp Az4 w (E5 hw))
  refine aB (I8 (L6 (by exact iq) (jX (K0 (K0 (by exact iq) G9 (R4 (by decide))) G9 (Q8 (by decide))) (D0 V.int hj)) (X3 hbl hv)) (I8 (by exact iq) Q7)) (zL (n:=n+12) haw.len hp (D2 hN (by decide)) (hr.grow g hh) (D2 hh g.len) λc G' g' hr'=>?_)
  exact rest (by unfold kL;refine qz hq (qz hj (qz (Int.toNat_natCast _) (qz hw ?_)));rfl) (hp.ahead haw) (g.trans g') hr' (D3 _)
 ·exact rest (by unfold kL;refine qz hq ?_;rfl) ⟨hp.op,hp.sg,D2 hp.len (E1 _ _)⟩ .refl hr hh
inductive Cz4 (C:Calls) (c:E) (b:List S) (Q:O3) (ρ:M6) (H:Heap) (K:M6->Heap->Prop):Prop
 | go (Φ:Heap->Prop) (hc:aF C ρ H c (.bool true) Φ) (hb:∀ G,Φ G->K1 C b ρ (gS Q K) G)
 | stop (Φ:Heap->Prop) (hc:aF C ρ H c (.bool false) Φ) (hq:∀ G,Φ G->Q .next ρ G)
theorem Cq2 {C:Calls}{c:E}{b:List S}{Q:O3}{σ:Type}(env:σ->M6) (I:σ->Heap->Prop) (μ:σ->Nat)
  (step:∀ s H,I s H->∀ K:M6->Heap->Prop,(∀ s' H',μ s'<μ s->I s' H'->K (env s') H')->Cz4 C c b Q (env s) H K) (s:σ) {H:Heap}(h:I s H):lE C (.Dq c b) (env s) Q H:=by
 refine xQ (λm ρ H=>∃ s,m=μ s/\ρ=env s/\I s H) (λk ρ H hI K hK=>?_) (μ s) ⟨s,rfl,rfl,h⟩
 obtain ⟨s,rfl,rfl,hI⟩:=hI
 rcases step s H hI K (λs' H' hm h'=>hK (μ s') _ _ hm ⟨s',rfl,rfl,h'⟩) with ⟨Φ,hc,hb⟩|⟨Φ,hc,hq⟩
 ·exact hc _ hb
 ·exact hc _ hq
theorem Fd.nd (h:Fd a es d b fs):∀ {q:Nat},lo<=q->Nd H q hi a es->∃ r,lo<=r/\Nd H r hi b fs:=by
 induction h with
 | here=>intro q hq h;exact ⟨q,hq,h⟩
 | @down a d b p r a' es fs b9 xs vs _ ih =>
  intro q hq h
  obtain ⟨m,k1,k2⟩:=h.2.cut
  have:=k2.1.2.le
  exact ih (q:=r) (D2 hq (D2 k1.le (D2 k2.1.1 this))) k2.2
theorem rM.io (h:rM N a is es d b js fs):∀ {above:Nat},cJ above 9 is->(∃ ab,cJ ab 9 js)/\Aq js<=Aq is:=by
 induction h with
 | here=>intro above h;exact ⟨⟨above,h⟩,D3 _⟩
 | @down a d b n p q a' is sub js es fs b9 ts v h1 h2 _ ih =>
  intro above h
  obtain ⟨k1,k2⟩:=ih (cJ.Du.mp h).2.2.2
  refine ⟨k1,D2 k2 ?_⟩
  exact qz (fM _ _) (D2 (E4 _) (A7 _ _))
noncomputable def Df:Nat->Nat->It->List It->List It
 | 0,_,x,is=>is++[x]
 | f+1,N,x,is=>match is.getLast? with
  | some (.it n ts sub)=>bif decide (n<N) then is.dropLast++[.it n ts (Df f N x sub)] else is++[x]
  | none=>is++[x]
theorem sW {f N n:Nat}{x:It}{sub is:List It}(h:is.getLast? = some (It.it n ts sub)):Df (f+1) N x is=bif decide (n<N) then is.dropLast++[.it n ts (Df f N x sub)] else is++[x]:=by
 show (match is.getLast? with | some (It.it n ts sub)=>bif decide (n<N) then is.dropLast++[It.it n ts (Df f N x sub)] else is++[x] | none=>is++[x])=_
 exact qz h rfl
theorem rM.Df {x:It}(h:rM N a is es d b js fs) (hl:∀ i,js.getLast? = some i->N<=dsh i):∀ {f:Nat},Br is<=f->Df f N x is=Ao d is x:=by
 induction h with
 | @here a is es _ =>
  intro f _
  cases f with
  | zero=>rfl
  | succ f =>
   cases hq:is.getLast? with
   | none =>
    show (match is.getLast? with | some (It.it n ts sub)=>bif decide (n<N) then is.dropLast++[It.it n ts (L11.Df f N x sub)] else is++[x] | none=>is++[x])=_
    refine qz hq ?_;rfl
   | some i =>
    obtain ⟨n,ts,sub⟩:=i
    have:N<=n:=hl _ hq
    refine qz (sW hq) (qz (decide_eq_false (Nat.not_lt_of_le this)) ?_);rfl
 | @down a d b n p q a' is sub js es fs b9 ts v h1 h2 _ ih =>
  intro f hf
  rw [At5] at hf
  have h3:Br sub+1<=f:=D2 (Nat.le_max_left _ 0) (D2 (Nat.le_max_right (Br is) _) hf)
  cases f with
  | zero=>exact absurd h3 (Nat.not_succ_le_zero _)
  | succ f =>
   refine qz (sW List.getLast?_concat) (qz (decide_eq_true h1) (qz List.dropLast_concat (qz X2 (qz (ih hl (Nat.le_of_succ_le_succ h3)) ?_))));rfl
noncomputable abbrev IZ2:=Nat×Nat×List It×List En
structure ItD (H0:Heap) (b4:List (List Bk)) (cs:List Bk) (is:List It) (N:Nat) (ts:List T) (as:List Nat) (b:Nat) (G:Heap):Prop where
 ex:∃ is' bs' rt' fs',TS H0 b4 (cs++[.list is']) as b bs' rt' fs' G/\cJ 0 9 is'/\is'≠[]/\An is'=An is+((Ab ts).length+30)/\is'=Df 9 N (.it N ts []) is
theorem Ce5 {n N pa:Nat}{b4:List (List Bk)}(hN:1<=N/\N<=9) (n7:Ct ts) (Cv:cJ 0 9 is) (hc:Aq is<=900000)
  (h:TS H0 b4 (cs++[.list is]) as b bs rt (gs++[two nL pp a es]) H) (hcs:cD cs gs) (his:dL is es) (g:K3 H G) (hr:N8 G (.lst (M0 ts)) H.length G.length (.ref pa)) (hQ:∀ G',ItD H0 b4 cs is N ts as b G'->Q .none G') :
  Ac P (n+1) "_law_item" [.ref a,.int (N:Nat),.ref pa] Q G:=by
 have hlim:P0=16777216:=rfl
 have hW:W=15800000:=rfl
 refine E9 rfl rfl (M7 (Cq2 (σ:=IZ2) (λz=>[some (.ref z.2.1),some (.int (N:Nat)),some (.ref pa)]) (λz G'=>K3 G G'/\rM N a is es z.1 z.2.1 z.2.2.1 z.2.2.2) (λz=>Br z.2.2.1) (λz G' hI K hK=>?_) ⟨0,a,is,es⟩ ⟨.refl,.here his⟩))
 obtain ⟨d,c,js,fs⟩:=z
 obtain ⟨g',hp⟩:=hI
 replace hp:rM N a is es d c js fs:=hp
 have hgg:=g.trans g'
 have hpw:Fd b (gs++[two nL pp a es]) (d+1) c fs:=.down hp.pth
 obtain ⟨⟨ab,hjo⟩,hjc⟩:=hp.io Cv
 obtain ⟨r,hr0,hn⟩:=(h.zp.pth.more hpw).nd (D3 _) (h.up hgg)
 have hrep:=hn.rep
 rw [hp.b6.x] at hrep
 have hjd:Br js<=9:=D2 (hjo.deep (D3 _)) (Nat.sub_le _ _)
 have hjW:Aq js<=W:=D2 hjc (D2 hc (by decide))
 have j6:Q2 W 45 (.lst (X9 js)):=Q2.lst (m:=2 * 9+26) (qz (dF _) (D2 (dC js) hjW)) (mZ hjd hjW (uD hjo))
 have en:=Af5 (C:=Ac P n) (ρ:=[some (.ref c),some (.int (N:Nat)),some (.ref pa)]) (e:=J0) (by exact iq) (by decide:45<100) j6 (wT hjo) hrep hgg.len
 have g8:∀ x,(G'++[x])[c]? = some (fs.map lF):=λx=>P9 hn.1.2.2.2
 have fin:(∀ i,js.getLast? = some i->N<=dsh i)->R8 (Ac P n) [.expr (.append J0 (.tup [J1,J2,.list []]))] (S1 Q) .next [some (.ref c),some (.int (N:Nat)),some (.ref pa)] (G'++[[]]):=λhl=>by
  have Ew:K3 H (G'++[[]]++[[]]):=(hgg.trans .one).trans .one
  have Ek:K3 G (G'++[[]]++[[]]):=(g'.trans .one).trans .one
  have l2:(G'++[[]]++[[]]).length=(G'++[[]]).length+1:=R6
  have l1:(G'++[[]]:Heap).length=G'.length+1:=R6
  have hGG:=g'.len
  have hok:Ok (G'++[[]]++[[]]) (wD N ts (.ref pa) H.length (G'++[[]]:Heap).length (G'++[[]]:Heap).length []) H.length (G'++[[]]++[[]]).length :=
   ⟨⟨D3 _,.atom (a:=.i (N:Nat)) (.one (by refine qz l1 ?_;have:=hgg.len;exact S5 this) ((hr.grow Ek (D3 _)).wide (D3 _) (qz l1 (S5 hGG))))⟩,⟨D3 _,by refine qz l2 ?_;exact D9 _,(λq=>q.elim),K6⟩,by show _<=_;exact qz l2 (E4 _)⟩
  have hx:RIt (.it N ts []) (wD N ts (.ref pa) H.length (G'++[[]]:Heap).length (G'++[[]]:Heap).length []):=⟨_,_,_,_,_,rfl,rfl⟩
  have hins:=hp.ins hx
  have e2:Z1 (d+1) (gs++[two nL pp a es]) (wD N ts (.ref pa) H.length (G'++[[]]:Heap).length (G'++[[]]:Heap).length [])=gs++[two nL pp a (Z1 d es (wD N ts (.ref pa) H.length (G'++[[]]:Heap).length (G'++[[]]:Heap).length []))]:=aY
  have hrb:Gx (.list (Ao d is (.it N ts []))) (two nL pp a (Z1 d es (wD N ts (.ref pa) H.length (G'++[[]]:Heap).length (G'++[[]]:Heap).length []))):=⟨_,_,_,rfl,hins⟩
  obtain ⟨k1,bs',rt',k2⟩:=h.put Ew hok hpw (cur':=cs++[.list (Ao d is (.it N ts []))]) (qz e2 (hcs.add hrb))
  have hins2:Ao d is (.it N ts [])≠[]:=λq=>by
   have:=zF d is (.it N ts [])
   rw [q] at this
   exact xZ (show 0=Aq is+1 from this)
  refine T8 (a:=c) (by exact iq) (T5 (K5 (v:=.int (N:Nat)) (by exact iq) (K5 (v:=.ref pa) (by exact iq) (cW (Q4 (P9 (g8 [])) ?_ (hQ _ ⟨_,bs',rt',_,k2,hp.order hN n7 hl hN.1 Cv,hins2,Bo8 d is _,(hp.Df hl (Cv.deep (D3 _))).symm⟩))))))
  refine qz (E3 _) ?_
  have:fs.length=js.length:=by
   have:=D0 List.length hp.b6.x
   rw [dF] at this
   refine qz this.symm ?_
   have q:∀ es:List En,(gP es).length=es.length:=λes=>by
    induction es with
    | nil=>rfl
    | cons e es ih=>exact D0 (· + 1) ih
   exact (q fs).symm
  exact qz this (D7 (D2 (dC js) (D2 hjc hc)) (by show 900000<16777216;decide))
 rcases V4 js with e|⟨js',⟨m,us,sub⟩,e⟩
 ·subst e
  exact .stop _ (Bh9 en) λG1 g1=>by subst g1;exact fin λi q=>xN q
 ·apply Ah;intro g9 k9
  subst e
  have Ef:kC (X9 (js'++[.it m us sub]))=true:=by cases js'<;>rfl
  rw [Ef] at en
  obtain ⟨fs0,e0,hfs,_,v0,p0,q0,a0,es0,he0,_⟩:=hp.b6.cut
  subst he0
  apply k9
  have hlast:∀ {C:Calls},Ev C [some (.ref c),some (.int (N:Nat)),some (.ref pa)] (G'++[[]]) (.idx J0 (.neg 1)) (.tup [.int (m:Nat),v0,.ref a0]):=L6 (by exact iq) bB (Q6 ((g8 []).trans (by refine qz hfs (qz C3 ?_);rfl)))
  have e1:∀ G1,G1=G'++[[]]->aF (Ac P n) [some (.ref c),some (.int (N:Nat)),some (.ref pa)] G1 (.and [.cmp .lt (.idx (.idx J0 (.neg 1)) (.int 0)) J1]) (.bool (decide ((m:Int)<(N:Int)))) (λG1=>G1=G'++[[]]):=λG1 q=>by
   subst q
   exact hX (iK (H9 (L6 hlast G9 cH) (by exact iq) aZ))
  by_cases hm:m<N
  ·rw [decide_eq_true (Int.ofNat_lt.mpr hm)] at e1
   apply Ah;intro g9 k9
   obtain ⟨gs1,v1,p1,q1,a1,es1,hfs1,hp1⟩:=hp.ext rfl hm
   have heq:wD m us v0 p0 q0 a0 es0=wD m us v1 p1 q1 a1 es1:=by
    have:=hfs.symm.trans hfs1
    exact (List.cons.inj (List.append_inj' this rfl).2).1
   have ha:a0=a1:=by injection heq
   subst ha
   apply k9
   refine .go _ (cG en e1) λG1 g1=>?_
   subst g1
   refine F9 (L6 hlast G9 (c:=.ref a0) rfl) (hK ⟨d+1,a0,sub,es1⟩ _ ?_ ⟨g'.trans .one,hp1⟩)
   show Br sub<Br (js'++[.it m us sub])
   exact qz (At5 _ _) (D6 (D9 _) (D2 (Nat.le_max_left (Br sub+1) 0) (Nat.le_max_right _ _)))
  ·rw [decide_eq_false (λq=>hm (Int.ofNat_lt.mp q))] at e1
   refine .stop _ (cG en e1) λG1 g1=>?_
   subst g1
   refine fin λi q=>?_
   rw [List.getLast?_append] at q
   cases q
   exact Nat.le_of_not_lt hm
structure TI (H0:Heap) (N:Nat) (b4:List (List Bk)) (b6:List Bk) (as:List Nat) (b:Nat) (bs:List Bk) (rt fs:List En) (H:Heap):Prop where
 ts:TS H0 b4 b6 as b bs rt fs H
 bi:BI b4 b6 N
abbrev Eo:=List (List Bk)×List Bk
noncomputable def TX (H0:Heap) (N:Nat) (s:Eo) (H:Heap):Prop:=∃ as b bs rt fs,TI H0 N s.1 s.2 as b bs rt fs H
section
variable {H0 H G:Heap}{N:Nat}{b4:List (List Bk)}{b6:List Bk}{as:List Nat}{b:Nat}{bs:List Bk}{rt fs:List En}
theorem BI.fit (h:BI b4 b6 N) (hN:N<=900000):Q2 W 65 (.lst (O9 b6)):=(Ag1 h.up.deep h.ok (D2 (D2 (A7 _ _) h.sz) (D2 hN (by decide)))).up (D3 _) (C4 (Nat.mul_le_mul_left 2 (Nat.sub_le 9 _)) 47)
theorem TI.grow (h:TI H0 N b4 b6 as b bs rt fs H) (g:K3 H G):TI H0 N b4 b6 as b bs rt fs G:=⟨h.ts.grow g,h.bi⟩
theorem TI.eqn (h:TI H0 N b4 b6 as b bs rt fs H) (hN:N<=900000) (he:Ev C ρ H e (.ref b)):aF C ρ H (.cmp .eq e (.list [])) (.bool (!kC b6)) (λG=>G=H++[[]]) :=
 h_b (Cr5 he (by decide:65<100) (h.bi.fit hN) (wU h.bi.ok) h.ts.here.2 (D3 _)) (by cases b6<;>rfl)
theorem TI.nen (h:TI H0 N b4 b6 as b bs rt fs H) (hN:N<=900000) (he:Ev C ρ H e (.ref b)):aF C ρ H (.cmp .ne e (.list [])) (.bool (kC b6)) (λG=>G=H++[[]]) :=
 h_b (Af5 he (by decide:65<100) (h.bi.fit hN) (wU h.bi.ok) h.ts.here.2 (D3 _)) (by cases b6<;>rfl)
theorem TI.plen (h:TI H0 N b4 b6 as b bs rt fs H):(as.map V.ref).length=b4.length+1:=qz (E3 _) h.ts.zp.lens
theorem TI.pl (h:TI H0 N b4 b6 as b bs rt fs H):∃ r,H[H0.length+1]? = some (r++[.ref b]):=by
 obtain ⟨r,e⟩:=h.ts.zp.last
 exact ⟨r.map V.ref,h.ts.pile.trans (by refine qz e (qz C3 ?_);rfl)⟩
theorem TI.flen (h:TI H0 N b4 b6 as b bs rt fs H):(fs.map lF).length<=N:=by
 have h1:=h.ts.here
 obtain ⟨a,l,p,q,e,_,ha,hr⟩:=h1.2
 cases e
 rw [h1.1] at ha
 cases ha
 exact qz hr.len (qz (dG _) (D2 (Af7 b6) (D2 (A7 _ _) h.bi.sz)))
theorem TI.name (h:TI H0 N b4 b6 as b bs rt fs H) (e:b6=cs++[c]):∃ r v l,H[b]? = some (r++[v])/\v=.tup (.str (eQ c)::l):=by
 apply Ah;intro g9 k9
 subst e
 obtain ⟨gs,e,rfl,h1,h2⟩:=h.ts.zp.typ.cut
 have h3:=h.ts.here.1
 rw [C3] at h3
 have h4:=h.ts.here.2
 rw [zH] at h4
 obtain ⟨a,l,p,q,e',_,ha,hr⟩:=h4
 apply k9
 cases e'
 rw [h3] at ha
 cases ha
 apply Ah;intro g9 k9
 obtain ⟨x,y,m,e2,_,hy⟩:=hr.cut
 obtain ⟨v,y',m',rfl,_,hv,_⟩:=hy
 apply k9
 have hy':y'=[]:=by
  have:=D0 List.length e2
  have h5:=(by assumption:M1 H (O9 [c]).tail m' q y').len
  exact List.eq_nil_of_length_eq_zero h5
 subst hy'
 obtain ⟨e3,e4⟩:=List.append_inj' e2 rfl
 have e5:lF e=v:=(List.cons.inj e4).1
 obtain ⟨l',hl'⟩:=Be0 hv
 exact ⟨_,lF e,l',h3,e5.trans hl'⟩
end
theorem BI.pop {b4:List (List Bk)}{p b6:List Bk}(h:BI (b4++[p]) b6 N) (f6:b6≠[]):BI b4 (p++[.quote b6]) N:=by
 obtain ⟨k1,k2,k3,k4⟩:=BC.snoc.mp h.up
 rw [Nat.zero_add] at k2 k4
 have ho:=h.ok
 rw [D4] at ho
 refine ⟨k1,aM.snoc.mpr ⟨k2,⟨k4,f6,ho⟩,Or.inl λq=>k3 q.symm⟩,?_⟩
 have hs:=h.sz
 rw [pC,C2,B5] at hs
 exact qz (bK _ _) (qz (bJ _) hs)
theorem BI.enter {b4:List (List Bk)}(h:BI b4 (p++[.quote c]) N):BI (b4++[p]) c N:=by
 obtain ⟨k1,k2,k3⟩:=aM.snoc.mp h.ok
 refine ⟨BC.snoc.mpr ⟨h.up,by refine qz (Nat.zero_add _) ?_;exact k1,λq=>?_,qz (Nat.zero_add _) k2.1⟩,by refine qz D4 ?_;exact k2.2.2,?_⟩
 ·rcases k3 with k3|k3
  ·exact k3 q.symm
  ·rw [q] at k3;exact absurd k3 (by decide)
 ·have hs:=h.sz
  rw [bK,bJ] at hs
  refine qz pC ?_
  exact qz (C2 _ _ _) (qz (B5 (Am p) _ _) hs)
theorem BI.begin {b4:List (List Bk)}{b6:List Bk}(h:BI b4 b6 N) (hl:T0 [] b6≠nQ) (hd:b4.length<9):BI (b4++[b6]) [] (N+1):=by
 refine ⟨BC.snoc.mpr ⟨h.up,by refine qz (Nat.zero_add _) ?_;exact h.ok,hl,qz (Nat.zero_add _) hd⟩,trivial,?_⟩
 have hs:=h.sz
 exact qz pC (E0 hs)
theorem Bq1 (h:eQ b=nQ):∃ c,b=.quote c:=by
 cases b with
 | gap _=>exact absurd (show ([103,97,112]:List Nat)=[113,117,111,116,101] from h) (by decide)
 | head _ _=>exact absurd (show ([104,101,97,100,105,110,103]:List Nat)=[113,117,111,116,101] from h) (by decide)
 | list _=>exact absurd (show ([108,105,115,116]:List Nat)=[113,117,111,116,101] from h) (by decide)
 | para _=>exact absurd (show ([112,97,114,97]:List Nat)=[113,117,111,116,101] from h) (by decide)
 | quote c=>exact ⟨c,rfl⟩
theorem Cy8 {Φ:Heap->Prop}(h1:aF C ρ H e (.bool true) Φ):aF C ρ H (.or (e::f::es)) (.bool true) Φ:=λQ k=>h1 _ λG g=>k G g
noncomputable def nZ (s:Eo):Eo:=match s.2.getLast? with
 | some (.quote c)=>(s.1++[s.2.dropLast],c)
 | _=>(s.1++[s.2],[])
noncomputable def wS (f7:Int):Nat->Eo->Eo
 | 0,s=>s
 | m+1,s=>bif f7==10&&decide (((s.1.length+1:Nat):Int)<10) then wS f7 m (nZ s) else s
noncomputable def Au9 (f7:Int) (s:Eo):Eo:=bif f7==11&&(decide ((1:Int)<((s.1.length+1:Nat):Int))&&kC s.2) then (s.1.dropLast,(s.1.getLast?).getD []++[.quote s.2]) else s
noncomputable def hY (f7 many:Int) (s:Eo):Eo:=wS f7 many.toNat (Au9 f7 s)
theorem Bp5 {b4:List (List Bk)}:nZ (b4,p++[.quote c])=(b4++[p],c):=by
 unfold nZ;dsimp only;exact qz List.getLast?_concat (qz List.dropLast_concat rfl)
theorem Az8 {b4:List (List Bk)}{b6:List Bk}(h:T0 [] b6≠nQ):nZ (b4,b6)=(b4++[b6],[]):=by
 unfold nZ;dsimp only
 rcases V4 b6 with rfl|⟨cs,c,rfl⟩
 ·rfl
 ·rw [eD] at h
  refine qz List.getLast?_concat ?_
  cases c with
  | quote c=>exact absurd rfl h
  | _=>rfl
noncomputable abbrev QZ2:=Int×Nat×Eo
theorem Bp4 {n N:Nat}{f7 many:Int}(h:TX H0 N s H) (hN:N+10<=900000) (hm:many.toNat<=10) (hQ:∀ G,TX H0 (N+10) (hY f7 many s) G->Q .none G):Ac P (n+1) "_law_quote" [.ref (H0.length+1),.int f7,.int many] Q H:=by
 have h9l:(900000:Nat)<P0:=by show 900000<16777216;decide
 have loop:∀ G s',Au9 f7 s=s'->TX H0 N s' G->K1 (Ac P n) (mA.body.drop 1) [some (.ref (H0.length+1)),some (.int f7),some (.int many)] (S1 Q) G:=λG s' hs' hG=>by
  refine M7 (nM (σ:=QZ2) (λz=>[some (.ref (H0.length+1)),some (.int f7),some (.int z.1)]) (λz G=>TX H0 z.2.1 z.2.2 G/\z.2.1+z.1.toNat<=N+10/\wS f7 z.1.toNat z.2.2=hY f7 many s) (λz=>z.1.toNat) (λz G hI K hK=>?_) ⟨many,N,s'⟩ ⟨hG,A6 hm N,by unfold hY;exact qz hs' rfl⟩)
  obtain ⟨mz,M,b4,b6⟩:=z
  obtain ⟨⟨as,b,bs,rt,fs,hT⟩,hM,hqe⟩:=hI
  replace hqe:wS f7 mz.toNat (b4,b6)=hY f7 many s:=hqe
  replace hM:M+mz.toNat<=N+10:=hM
  have hM2:M<=N+10:=D2 (E1 _ _) hM
  have hM9:M<=900000:=D2 hM2 hN
  have hj:0<mz->mz.toNat=(mz - 1).toNat+1:=λh=>by
   obtain ⟨k,rfl⟩:=Int.eq_succ_of_zero_lt h
   refine qz (Int.add_sub_cancel _ _) ?_;rfl
  replace hT:TI H0 M b4 b6 as b bs rt fs G:=hT
  have ev:Ev (Ac P n) [some (.ref (H0.length+1)),some (.int f7),some (.int mz)] G (.and [.cmp .eq J1 (.int 10),.cmp .gt J2 (.int 0),.cmp .lt (.len J0) (.int 10)]) (.bool (f7==10&&(decide (0<mz)&&decide (((b4.length+1:Nat):Int)<10)))) :=
   K7 (H9 (by exact iq) G9 Y2) λZ=>K7 (H9 (by exact iq) G9 Z6) λZ=>M9 (Q0 (H9 (Q1 (by exact iq) (P6 hT.ts.pile)) G9 aZ) (qz hT.plen rfl))
  cases hb:(f7==10&&(decide (0<mz)&&decide (((b4.length+1:Nat):Int)<10))) with
  | false =>
   rw [hb] at ev
   have f9:(b4,b6)=hY f7 many s:=by
    refine qz hqe.symm ?_
    by_cases h0:0<mz
    ·rw [decide_eq_true h0,Bool.true_and] at hb
     refine qz (hj h0) ?_
     show _=(bif f7==10&&decide (((b4.length+1:Nat):Int)<10) then _ else _)
     refine qz hb ?_;rfl
    ·refine qz (Int.toNat_of_nonpos (Int.not_lt.mp h0)) ?_;rfl
   refine .stop ev (hQ _ ?_)
   exact qz f9.symm ⟨as,b,bs,rt,fs,hT.ts,hT.bi.up,hT.bi.ok,D2 hT.bi.sz hM2⟩
  | true =>
   rw [hb] at ev
   obtain ⟨hw10,hb⟩:=B6 hb
   obtain ⟨hb1,hb2⟩:=B6 hb
   have hmz:0<mz:=of_decide_eq_true hb1
   have hd:b4.length<9:=Nat.lt_of_succ_lt_succ (Int.ofNat_lt.mp (of_decide_eq_true hb2))
   have hqs:wS f7 (mz - 1).toNat (nZ (b4,b6))=hY f7 many s:=by
    refine qz hqe.symm (qz (hj hmz) ?_)
    show _=(bif f7==10&&decide (((b4.length+1:Nat):Int)<10) then _ else _)
    refine qz hw10 (qz hb2 ?_);rfl
   refine .go ev ?_
   have into:∀ {p c:List Bk}{as b bs rt fs G M'},nZ (b4,b6)=(b4++[p],c)->TS H0 b4 (p++[.quote c]) as b bs rt fs G->BI (b4++[p]) c M'->M'<=M+1->K1 (Ac P n) [.expr (.append J0 (.idx (.idx (.idx J0 (.neg 1)) (.neg 1)) (.int 1))),.assign 2 (.bin .sub J2 (.int 1))] [some (.ref (H0.length+1)),some (.int f7),some (.int mz)] (gS (R8 (Ac P n) [] (S1 Q)) K) G:=λ{p c as b bs rt fs G M'} hqp hT hB hM'=>by
    obtain ⟨gs,pp,a',b9,e,hz⟩:=hT.zp.push rfl
    obtain ⟨r,er⟩:=hT.zp.last
    have hp1:G[H0.length+1]? = some (r.map V.ref++[.ref b]):=hT.pile.trans (by refine qz er (qz C3 ?_);rfl)
    have hb1:G[b]? = some (gs.map lF++[.tup [.str nQ,.ref a']]):=hT.here.1.trans (by refine qz e (qz C3 ?_);rfl)
    have b7:(as.map V.ref).length<P0:=qz (E3 _) (qz hT.zp.lens (D7 hd (by show 9<16777216;decide)))
    refine N3 (v:=.ref a') (by exact iq) (L6 (L6 (L6 (by exact iq) bB (Q6 hp1)) bB (Q6 hb1)) G9 (c:=.ref a') rfl) hT.pile b7 (F9 (K0 (by exact iq) G9 oL) ?_)
    have hr:=hT.Ga hz
    rw [C3] at hr
    exact hK ⟨mz - 1,M+1,b4++[p],c⟩ _ (by show (mz - 1).toNat<mz.toNat;exact qz (hj hmz) (D9 _)) ⟨⟨_,_,_,_,_,hr,hB.up,hB.ok,D2 hB.sz hM'⟩,by show M+1+(mz - 1).toNat<=N+10;rw [hj hmz] at hM;refine qz (C2 _ _ _) (qz (Nat.add_comm 1 _) ?_);exact hM,by rw [hqp] at hqs;exact hqs⟩
   obtain ⟨r,hp⟩:=hT.pl
   have e1:=hT.eqn (C:=Ac P n) (ρ:=[some (.ref (H0.length+1)),some (.int f7),some (.int mz)]) (e:=.idx J0 (.neg 1)) hM9 (L6 (by exact iq) bB (Q6 hp))
   have new:T0 [] b6≠nQ->∀ G',G'=G++[[]]->K1 (Ac P n) [.expr (.append (.idx J0 (.neg 1)) (.tup [.str [113,117,111,116,101],.list []]))] [some (.ref (H0.length+1)),some (.int f7),some (.int mz)] (R8 (Ac P n) [.expr (.append J0 (.idx (.idx (.idx J0 (.neg 1)) (.neg 1)) (.int 1))),.assign 2 (.bin .sub J2 (.int 1))] (gS (R8 (Ac P n) [] (S1 Q)) K)) G':=λhl G' g=>by
    subst g
    have Ek:K3 G (G++[[]]++[[]]):=eN
    have l1:(G++[[]]:Heap).length=G.length+1:=R6
    have l2:(G++[[]]++[[]]:Heap).length=(G++[[]]:Heap).length+1:=R6
    have hok:Ok (G++[[]]++[[]]) (two nQ G.length (G++[[]]:Heap).length []) G.length (G++[[]]++[[]]).length :=
     ⟨⟨D3 _,.atom (a:=.s nQ) (.nil (D3 _))⟩,⟨by refine qz l1 ?_;exact E4 _,by refine qz l2 ?_;exact D9 _,(λq=>q.elim),K6⟩,by show _<=_;exact qz l2 (qz l1 (E1 _ 2))⟩
    obtain ⟨k1,bs',rt',k2⟩:=hT.ts.put Ek hok .here (cur':=b6++[.quote []]) (hT.ts.zp.typ.add (pH (bs:=[]) (es:=[]) rfl))
    refine T8 (a:=b) (L6 (by exact iq) bB (Q6 (P9 hp))) (T5 (K5 (v:=.str nQ) (by exact iq) (cW (Q4 k1 (D7 (D2 hT.flen hM9) h9l) ?_))))
    exact into (Az8 hl) k2 (hT.bi.begin hl hd) (D3 _)
   rcases V4 b6 with e|⟨cs,c,e⟩
   ·subst e
    exact fX (Cy8 e1) (new (λq=>absurd q (by decide)))
   ·have Ef:kC b6=true:=by refine qz e ?_;cases cs<;>rfl
    rw [Ef] at e1
    obtain ⟨rr,v,l,hbl,hv⟩:=hT.name e
    have e2:∀ G',G'=G++[[]]->aF (Ac P n) [some (.ref (H0.length+1)),some (.int f7),some (.int mz)] G' (.or [.cmp .ne (.idx (.idx (.idx J0 (.neg 1)) (.neg 1)) (.int 0)) (.str [113,117,111,116,101])]) (.bool (!(eQ c==nQ))) (λG'=>G'=G++[[]]):=λG' g=>by
     subst g
     exact rQ (iK (H9 (L6 (jX (L6 (L6 (by exact iq) bB (Q6 (P9 hp))) bB (Q6 (P9 hbl))) hv) G9 cH) S7 nK))
    by_cases hq:eQ c=nQ
    ·rw [beq_iff_eq.mpr hq] at e2
     obtain ⟨c',rfl⟩:=Bq1 hq
     subst e
     refine Ce8 (nN e1 e2) λG' g=>?_
     subst g
     exact into Bp5 (hT.ts.grow .one) hT.bi.enter (E4 _)
    ·rw [beq_eq_false_iff_ne.mpr hq] at e2
     exact fX (nN e1 e2) (new (qz e (qz eD hq)))
 obtain ⟨b4,b6⟩:=s
 obtain ⟨as,b,bs,rt,fs,hT⟩:=h
 replace hT:TI H0 N b4 b6 as b bs rt fs H:=hT
 refine E9 rfl rfl ?_
 obtain ⟨r,hp⟩:=hT.pl
 have e1:∀ {C:Calls},Ev C [some (.ref (H0.length+1)),some (.int f7),some (.int many)] H (.cmp .eq J1 (.int 11)) (.bool (f7==11)):=H9 (by exact iq) G9 Y2
 by_cases hw:f7=11
 ·rw [beq_iff_eq.mpr hw] at e1
  have e2:∀ {C:Calls},Ev C [some (.ref (H0.length+1)),some (.int f7),some (.int many)] H (.cmp .gt (.len J0) (.int 1)) (.bool (decide ((1:Int)<((b4.length+1:Nat):Int)))):=Q0 (H9 (Q1 (by exact iq) (P6 hT.ts.pile)) G9 Z6) (qz hT.plen rfl)
  rcases V4 b4 with e|⟨b8,p,e⟩
  ·apply Ah;intro g9 k9
   subst e
   apply k9
   exact E8 (kG e1 (fD e2)) (loop H ([],b6) (by unfold Au9;refine qz (beq_iff_eq.mpr hw) ?_;rfl) ⟨_,_,_,_,_,hT⟩)
  ·have hc:decide ((1:Int)<((b4.length+1:Nat):Int))=true:=decide_eq_true (qz e (qz D4 (Int.ofNat_lt.mpr (Nat.succ_lt_succ (Nat.succ_pos _)))))
   rw [hc] at e2
   have e3:=hT.nen (C:=Ac P n) (ρ:=[some (.ref (H0.length+1)),some (.int f7),some (.int many)]) (e:=.idx J0 (.neg 1)) (D2 (E1 _ _) hN) (L6 (by exact iq) bB (Q6 hp))
   have e4:aF (Ac P n) [some (.ref (H0.length+1)),some (.int f7),some (.int many)] H (.and [.cmp .eq J1 (.int 11),.cmp .gt (.len J0) (.int 1),.cmp .ne (.idx J0 (.neg 1)) (.list [])]) (.bool (kC b6)) (λG=>G=H++[[]]):=cG (iK e1) λG g=>by
    subst g
    exact cG (iK e2) λG g=>by
     subst g
     exact hX e3
   cases Gq:b6 with
   | nil =>
    rw [Gq] at e4
    exact T7 e4 λG g=>by subst g;exact loop _ (b4,b6) (by unfold Au9;refine qz Gq ?_;dsimp only [kC];refine qz (Bool.and_false _) (qz (Bool.and_false _) ?_);rfl) ⟨_,_,_,_,_,hT.grow .one⟩
   | cons x xs =>
    rw [Gq] at e4
    refine fX e4 λG g=>?_
    subst g
    obtain ⟨as',b',fs',ea,hz⟩:=hT.ts.zp.pop e
    have hp2:(H++[[]])[H0.length+1]? = some (as'.map V.ref++[.ref b]):=P9 (hT.ts.pile.trans (by refine qz ea (qz C3 ?_);rfl))
    refine Bf7 (by exact iq) hp2 ?_
    have hr:=(hT.ts.grow .one (G:=H++[[]])).Ga hz
    have hbi:=hT.bi
    rw [e] at hbi
    refine loop _ (b8,p++[.quote b6]) ?_ ⟨_,_,_,_,_,hr,hbi.pop (qz Gq (λq=>nomatch q))⟩
    have hf:kC b6=true:=by refine qz Gq ?_;rfl
    unfold Au9
    dsimp only
    refine qz (beq_iff_eq.mpr hw) (qz hc (qz hf (qz e (qz List.getLast?_concat (qz List.dropLast_concat ?_)))));rfl
 ·rw [beq_eq_false_iff_ne.mpr hw] at e1
  exact E8 (fD e1) (loop H (b4,b6) (by unfold Au9;refine qz (beq_eq_false_iff_ne.mpr hw) ?_;rfl) ⟨_,_,_,_,_,hT⟩)
theorem Cd3 (h:eQ b=nL):∃ c,b=.list c:=by
 cases b with
 | gap _=>exact absurd (show ([103,97,112]:List Nat)=[108,105,115,116] from h) (by decide)
 | head _ _=>exact absurd (show ([104,101,97,100,105,110,103]:List Nat)=[108,105,115,116] from h) (by decide)
 | list c=>exact ⟨c,rfl⟩
 | para _=>exact absurd (show ([112,97,114,97]:List Nat)=[108,105,115,116] from h) (by decide)
 | quote _=>exact absurd (show ([113,117,111,116,101]:List Nat)=[108,105,115,116] from h) (by decide)
theorem Cd2 (h:eQ b=nP):∃ c,b=.para c:=by
 cases b with
 | gap _=>exact absurd (show ([103,97,112]:List Nat)=[112,97,114,97] from h) (by decide)
 | head _ _=>exact absurd (show ([104,101,97,100,105,110,103]:List Nat)=[112,97,114,97] from h) (by decide)
 | list _=>exact absurd (show ([108,105,115,116]:List Nat)=[112,97,114,97] from h) (by decide)
 | para c=>exact ⟨c,rfl⟩
 | quote _=>exact absurd (show ([113,117,111,116,101]:List Nat)=[112,97,114,97] from h) (by decide)
theorem As9 {b6:List Bk}(h:T0 [] b6=w) (hw:w≠[]):∃ cs c,b6=cs++[c]/\eQ c=w:=by
 rcases V4 b6 with rfl|⟨cs,c,rfl⟩
 ·exact absurd h.symm hw
 ·rw [eD] at h;exact ⟨cs,c,rfl,h⟩
theorem BI.turn {b4:List (List Bk)}(h:BI b4 (cs++[c]) N) (hn:eQ c'=eQ c) (ho:wB b4.length c') (hs:Co c'<=Co c+6100):BI b4 (cs++[c']) (N+6100):=by
 obtain ⟨k1,k2,k3⟩:=aM.snoc.mp h.ok
 refine ⟨h.up,aM.snoc.mpr ⟨k1,ho,qz hn k3⟩,?_⟩
 have:=h.sz
 rw [bK,bJ] at this ⊢
 refine D2 (A6 (A6 hs _) _) ?_
 exact qz (Eq.symm (C2 _ _ _)) (qz (Eq.symm (C2 _ _ _)) (qz (C2 (szC b4) _ _) (C4 this _)))
theorem BI.add {b4:List (List Bk)}{b6:List Bk}(h:BI b4 b6 N) (ho:wB b4.length b) (hn:eQ b≠T0 [] b6∨T0 [] b6=[104,101,97,100,105,110,103]) (hs:Co b<=6100):BI b4 (b6++[b]) (N+6100):=by
 refine ⟨h.up,aM.snoc.mpr ⟨h.ok,ho,hn⟩,?_⟩
 have:=h.sz
 exact qz (bK _ _) (qz (bJ _) (qz (Eq.symm (C2 _ _ _)) (B3 this hs)))
noncomputable def Cu3 (z:Int):Nat:=(1+z % 3+300 * (if (z / 3 % 9==5) then 1 else 0)).toNat
noncomputable def An9 (b6:List Bk):List It:=match b6.getLast? with
 | some (.list is)=>is
 | _=>[]
noncomputable def An8 (b6:List Bk):List (List T):=match b6.getLast? with
 | some (.para rs)=>rs
 | _=>[]
noncomputable def nF (b6:List Bk) (deep:Nat) (f7 z:Int) (ts:List T):List Bk :=
 bif decide (f7<2)&&!(T0 [] b6==[103,97,112]) then b6++[.gap (Cu3 z)]
 else bif decide (f7<4) then b6++[.head (1+z % 6).toNat ts]
 else bif decide (f7<7)&&(T0 [] b6==[108,105,115,116]) then b6.dropLast++[.list (Df 9 (1+z % 9).toNat (.it (1+z % 9).toNat ts []) (An9 b6))]
 else bif decide (f7<7) then b6++[.list [.it (1+z % 9).toNat ts []]]
 else bif T0 [] b6==[112,97,114,97] then b6.dropLast++[.para (An8 b6++[dB ts z deep])]
 else b6++[.para [dB ts z deep]]
theorem Cq8 (z:Int):∃ k:Nat,1+z % 3+300 * (if (z / 3 % 9==5) then 1 else 0)=(k:Int)/\1<=k/\Cu3 z=k/\k<=303:=by
 have h3:(1:Int)<=1+z % 3:=Int.le_add_of_nonneg_right (Int.emod_nonneg _ (by decide))
 have h:(1:Int)<=1+z % 3+300 * (if (z / 3 % 9==5) then 1 else 0):=Int.le_trans h3 (Int.le_add_of_nonneg_right (by cases (z / 3 % 9==5)<;>decide))
 have h2:z % 3<=2:=Int.le_of_lt_add_one (Int.emod_lt_of_pos z (by decide))
 have h5:(300 * (if (z / 3 % 9==5) then 1 else 0):Int)<=300:=by cases (z / 3 % 9==5)<;>decide
 exact ⟨_,(tY h).1,(tY h).2,rfl,Int.toNat_le.mpr (Int.add_le_add (Int.add_le_add_left h2 1) h5)⟩
theorem Bh7 {z y:Int}{m:Nat}(h:y=1+z) (h1:0<=z) (h2:z<m):∃ k:Nat,(y=(k:Int)/\1<=k/\k<=m)/\y.toNat=k:=by
 obtain ⟨n,rfl⟩:=Int.eq_ofNat_of_zero_le h1
 have e:y=((n+1:Nat):Int):=h.trans (Int.add_comm 1 (n:Int))
 subst e
 exact ⟨n+1,⟨rfl,E0 (D8 _),Int.ofNat_lt.mp h2⟩,rfl⟩
theorem Cs0 {n N pa:Nat}{f7 d8:Int}{H0 H G:Heap}{b4:List (List Bk)}{b6:List Bk}{as:List Nat}{b:Nat}{bs:List Bk}{rt fs:List En}{ts:List T}{Q:F8}(hT:TI H0 N b4 b6 as b bs rt fs H) (hN:N+6100<=900000) (hp:PT ts 6000) (g:K3 H G) (hr:N8 G (.lst (M0 ts)) H.length G.length (.ref pa)) (hQ:∀ G',TX H0 (N+6100) (b4,nF b6 b4.length f7 d8 ts) G'->Q .none G') :
  Ac P (n+15) "_law_add" [.ref b,.int f7,.int d8,.ref pa,.int (b4.length:Nat)] Q G:=by
 have h9l:(900000:Nat)<P0:=by show 900000<16777216;decide
 have hN9:N<=900000:=D2 (E1 _ _) hN
 have n7:=hp.ct (by decide)
 have hd9:=hT.bi.up.deep
 have putB:∀ {e:En}{b':Bk}{G':Heap},nF b6 b4.length f7 d8 ts=b6++[b']->K3 H G'->Ok G' e H.length G'.length->Gx b' e->wB b4.length b'->(eQ b'≠T0 [] b6∨T0 [] b6=[104,101,97,100,105,110,103])->Co b'<=6100->G'[b]? = some (fs.map lF)/\Q .none (G'.set b (fs.map lF++[lF e])):=λ{e b' G'} ef g he hb ho hn hs=>by
  obtain ⟨k1,bs',rt',k2⟩:=hT.ts.put g he .here (cur':=b6++[b']) (hT.ts.zp.typ.add hb)
  exact ⟨k1,hQ _ (qz ef ⟨_,_,_,_,_,k2,hT.bi.add ho hn hs⟩)⟩
 have hfl:(fs.map lF).length<P0:=D7 (D2 hT.flen hN9) h9l
 have rest:K1 (Ac P (n+14)) (sZ.body.drop 2) [some (.ref b),some (.int f7),some (.int d8),some (.ref pa),some (.int (b4.length:Nat)),some (.str (T0 [] b6))] (S1 Q) (G++[[]]):=by
  have g1:K3 H (G++[[]]):=g.trans .one
  have hr1:N8 (G++[[]]) (.lst (M0 ts)) H.length (G++[[]]:Heap).length (.ref pa):=(hr.grow .one (D3 _)).wide (D3 _) K3.one.1
  generalize (G++[[]]:Heap)=G1 at g1 hr1
  clear hr g
  refine Z9 (K7 (H9 (by exact iq) G9 aZ) λZ=>M9 (H9 (by exact iq) S7 nK)) (λhq=>?_) (λf1=>?_)
  ·-- a gap
   have hgap:eQ (.gap 0)≠T0 [] b6:=λq=>by
    have:=(B6 hq).2
    rw [<- q] at this
    exact absurd this (by show ¬ (!([103,97,112]==[103,97,112]))=true;decide)
   apply Ah;intro g9 k9
   obtain ⟨k,hk,hk1,hk2,hk3⟩:=Cq8 d8
   have he:Ok G1 (.leaf (Di (.gap k)) (.tup [.str [103,97,112],.int (k:Nat)]) G1.length G1.length) H.length G1.length:=⟨⟨g1.len,D3 _,D3 _⟩,_,rfl,.atom (a:=.s _) (.atom (a:=.i _) (.nil (D3 _)))⟩
   obtain ⟨q1,q2⟩:=putB (b':=.gap k) (by unfold nF;refine qz hq (qz hk2 ?_);rfl) g1 he ⟨_,_,_,rfl⟩ hk1 (Or.inl hgap) (D2 (E0 (Nat.mul_le_mul_left 19 hk3)) (by decide))
   apply k9
   exact N3 (v:=.tup [.str [103,97,112],.int (k:Nat)]) (by exact iq) (iM (I8 (by exact iq) (I8 (jX (K0 (K0 G9 (K0 (by exact iq) G9 (Q8 (by decide))) U3) (K0 G9 (fT (H9 (K0 (K0 (by exact iq) G9 (R4 (by decide))) G9 (Q8 (by decide))) G9 Y2)) (hU (Or.inl (by decide)))) U3) (D0 V.int hk)) Q7))) q1 hfl q2
  refine Z9 (H9 (by exact iq) G9 aZ) (λhq=>?_) (λf2=>?_)
  ·-- a heading
   apply Ah;intro g9 k9
   obtain ⟨k,hk,hk3⟩:=Bh7 (m:=6) (y:=1+d8 % 6) rfl (Int.emod_nonneg _ (by decide)) (Int.emod_lt_of_pos _ (by decide))
   apply k9
   have he:Ok G1 (.leaf (Di (.head k ts)) (.tup [.str [104,101,97,100,105,110,103],.int (k:Nat),.ref pa]) H.length G1.length) H.length G1.length:=⟨⟨D3 _,g1.len,D3 _⟩,_,rfl,.atom (a:=.s _) (.atom (a:=.i _) (.one g1.len hr1))⟩
   obtain ⟨q1,q2⟩:=putB (b':=.head k ts) (by unfold nF;rw [f1,hq];refine qz hk3 ?_;rfl) g1 he ⟨_,_,_,rfl⟩ ⟨hk.2,n7⟩ (by
    by_cases q:T0 [] b6=[104,101,97,100,105,110,103]
    ·exact Or.inr q
    ·exact Or.inl λe=>q e.symm) (D2 (C4 hp.len 30) (by decide))
   exact N3 (v:=.tup [.str [104,101,97,100,105,110,103],.int (k:Nat),.ref pa]) (by exact iq) (iM (I8 (by exact iq) (I8 (jX (K0 G9 (K0 (by exact iq) G9 (Q8 (by decide))) U3) (D0 V.int hk.1)) (I8 (by exact iq) Q7)))) q1 hfl q2
  obtain ⟨d,hd,hd3⟩:=Bh7 (m:=9) (y:=1+d8 % 9) rfl (Int.emod_nonneg _ (by decide)) (Int.emod_lt_of_pos _ (by decide))
  have evd:∀ {C:Calls}{G':Heap}{x3 x4 x5:Option V},Ev C [some (.ref b),some (.int f7),some (.int d8),x3,x4,x5] G' (.bin .add (.int 1) (.bin .mod J2 (.int 9))) (.int (d:Nat)):=jX (K0 G9 (K0 (by exact iq) G9 (Q8 (by decide))) U3) (D0 V.int hd.1)
  have ev7:∀ {C:Calls}{G':Heap}{x3 x4 x5:Option V},Ev C [some (.ref b),some (.int f7),some (.int d8),x3,x4,x5] G' (.cmp .lt J1 (.int 7)) (.bool (decide (f7<7))):=H9 (by exact iq) G9 aZ
  refine Z9 (K7 ev7 λZ=>M9 (H9 (by exact iq) S7 aA)) (λhq=>?_) (λhnl=>?_)
  ·-- an item of the last list
   have hl:T0 [] b6=nL:=beq_iff_eq.mp (B6 hq).2
   have hef:nF b6 b4.length f7 d8 ts=b6.dropLast++[.list (Df 9 d (.it d ts []) (An9 b6))]:=by unfold nF;rw [f1,f2,hq];refine qz hd3 ?_;rfl
   apply Ah;intro g9 k9
   obtain ⟨cs,c,rfl,hc⟩:=As9 hl (by unfold nL;decide)
   obtain ⟨is,rfl⟩:=Cd3 hc
   have Ck:An9 (cs++[.list is])=is:=by unfold An9;exact qz List.getLast?_concat rfl
   rw [Ck,List.dropLast_concat] at hef
   have hTs:=hT.ts
   obtain ⟨gs,e,hfs,hgs,pp,a,es,he,his⟩:=hTs.zp.typ.cut
   subst he
   subst hfs
   have hbl:G1[b]? = some (gs.map lF++[.tup [.str nL,.ref a]]):=(g1.get hTs.here.1).trans (by refine qz C3 ?_;rfl)
   obtain ⟨k1,k2,k3⟩:=aM.snoc.mp hT.bi.ok
   apply k9
   have hcn:Aq is<=900000:=by
    have:=hT.bi.sz
    rw [bK,bJ] at this
    exact D2 (D2 (nD is) (D2 (E4 _) (D2 (A7 _ _) (D2 (A7 _ _) this)))) hN9
   refine P8 (I8 (L6 (L6 (by exact iq) bB (Q6 hbl)) G9 (c:=.ref a) rfl) (I8 evd (I8 (by exact iq) Q7))) (Ce5 (n:=n+13) hd.2 n7 k2.2.1 hcn hTs hgs his g1 hr1 λG' hD=>?_)
   apply Ah;intro g9 k9
   obtain ⟨is',bs',rt',fs',t1,t2,t3,t4,t5⟩:=hD
   apply k9
   refine hQ _ ?_
   exact qz hef (qz t5.symm ⟨_,_,_,_,_,t1,hT.bi.turn rfl ⟨t3,t2,t2.deep (D3 _)⟩ (by show An is'+1<=An is+1+6100;rw [t4,B5];exact A6 (D2 (C4 hp.len 30) (by decide)) _)⟩)
  refine Z9 ev7 (λhq=>?_) (λf4=>?_)
  ·-- a list
   have hnl0:=hnl
   have hnl:eQ (.list [])≠T0 [] b6:=λq=>by
    rw [hq,<- q] at hnl
    exact absurd hnl (by show ¬ (true&&([108,105,115,116]==[108,105,115,116]))=false;decide)
   have l1:(G1++[[]]:Heap).length=G1.length+1:=R6
   have l2:(G1++[[]]++[[V.tup [.int (d:Nat),.ref pa,.ref G1.length]]]:Heap).length=(G1++[[]]:Heap).length+1:=R6
   have g2:K3 G1 (G1++[[]]++[[V.tup [.int (d:Nat),.ref pa,.ref G1.length]]]):=eN
   have hok:Ok (G1++[[]]++[[V.tup [.int (d:Nat),.ref pa,.ref G1.length]]]) (wD d ts (.ref pa) H.length G1.length G1.length []) H.length (G1++[[]]:Heap).length :=
    ⟨⟨D3 _,.atom (a:=.i (d:Nat)) (.one g1.len (hr1.grow g2 (D3 _)))⟩,⟨D3 _,by refine qz l1 ?_;exact D9 _,(λq=>q.elim),P9 K6⟩,by show _<=_;exact qz l1 (E4 _)⟩
   have hnf:¬ cO [wD d ts (.ref pa) H.length G1.length G1.length []] (G1++[[]]:Heap).length:=λq=>by
    exact Nat.lt_irrefl _ (hok.foot (V7.mp q)).2
   have hok2:Ok (G1++[[]]++[[V.tup [.int (d:Nat),.ref pa,.ref G1.length]]]) (two nL H.length (G1++[[]]:Heap).length [wD d ts (.ref pa) H.length G1.length G1.length []]) H.length (G1++[[]]++[[V.tup [.int (d:Nat),.ref pa,.ref G1.length]]]).length :=
    ⟨⟨D3 _,.atom (a:=.s nL) (.nil (D3 _))⟩,⟨by refine qz l1 ?_;exact C8 g1.len,by refine qz l2 ?_;exact D9 _,hnf,K6⟩,⟨_,hok,by show _<=_;exact qz l2 (E4 _)⟩⟩
   have hit:RIt (.it d ts []) (wD d ts (.ref pa) H.length G1.length G1.length []):=⟨_,_,_,_,_,rfl,rfl⟩
   obtain ⟨q1,q2⟩:=putB (b':=.list [.it d ts []]) (by unfold nF;rw [f1,f2,hnl0,hq];refine qz hd3 ?_;rfl) (g1.trans g2) hok2 ⟨_,_,_,rfl,_,_,rfl,hit,rfl⟩ ⟨(λq=>nomatch q),⟨⟨⟨hd.2.1,hd.2.2,hd.2.1⟩,n7,trivial⟩,trivial⟩,by show max 1 0<=9;decide⟩ (Or.inl hnl) (D2 (E0 (C4 hp.len 30)) (by decide))
   exact T8 (a:=b) (by exact iq) (T5 (K5 (v:=.str nL) (by exact iq) (Q9 (aJ (Q9 (T5 (K5 evd (K5 (v:=.ref pa) (by exact iq) (cW (K8 (K8 (Q4 q1 hfl q2))))))))))))
  have args:∀ {C:Calls}{G':Heap},Fv C [some (.ref b),some (.int f7),some (.int d8),some (.ref pa),some (.int (b4.length:Nat)),some (.str (T0 [] b6))] G' [J3,J2,J4] [.ref pa,.int d8,.int (b4.length:Nat)]:=by exact iq
  refine Z9 (H9 (by exact iq) S7 aA) (λhq=>?_) (λhq=>?_)
  ·-- a row of the last Fp
   have hl:T0 [] b6=nP:=beq_iff_eq.mp hq
   have hef:nF b6 b4.length f7 d8 ts=b6.dropLast++[.para (An8 b6++[dB ts d8 b4.length])]:=by unfold nF;rw [f1,f2,hnl,f4];refine qz hq ?_;rfl
   apply Ah;intro g9 k9
   obtain ⟨cs,c,rfl,hc⟩:=As9 hl (by unfold nP;decide)
   obtain ⟨rs,rfl⟩:=Cd2 hc
   have Ck:An8 (cs++[.para rs])=rs:=by unfold An8;exact qz List.getLast?_concat rfl
   rw [Ck,List.dropLast_concat] at hef
   have hTs:=hT.ts
   obtain ⟨gs,e,hfs,hgs,pp,a,es,he,k6⟩:=hTs.zp.typ.cut
   subst he
   subst hfs
   have hbl:G1[b]? = some (gs.map lF++[.tup [.str nP,.ref a]]):=(g1.get hTs.here.1).trans (by refine qz C3 ?_;rfl)
   obtain ⟨k1,k2,k3⟩:=aM.snoc.mp hT.bi.ok
   apply k9
   have Bc:rs.length+1<=N:=by
    have:=hT.bi.sz
    rw [bK,bJ] at this
    exact D2 (E0 (As6 rs)) (D2 (A7 _ _) (D2 (A7 _ _) this))
   refine fJ (L6 (L6 (by exact iq) bB (Q6 hbl)) G9 (c:=.ref a) rfl) args (qG (n:=n) hd9 hp (by decide) hr1 (D3 _) λts' c G2 hte hD=>?_)
   have he:Ok G2 (.leaf (.lst (M0 ts')) (.ref c) H.length G2.length) H.length G2.length:=⟨⟨D3 _,(g1.trans hD.gr).len,D3 _⟩,hD.rep⟩
   have e2:Z1 1 (gs++[two nP pp a es]) (.leaf (.lst (M0 ts')) (.ref c) H.length G2.length)=gs++[two nP pp a (es++[.leaf (.lst (M0 ts')) (.ref c) H.length G2.length])]:=aY
   have hrb:Gx (.para (rs++[ts'])) (two nP pp a (es++[.leaf (.lst (M0 ts')) (.ref c) H.length G2.length])):=⟨_,_,_,rfl,k6.add⟩
   apply Ah;intro g9 k9
   obtain ⟨q1,bs',rt',q2⟩:=hTs.put (g1.trans hD.gr) he (.down .here) (cur':=cs++[.para (rs++[ts'])]) (qz e2 (hgs.add hrb))
   apply k9
   have hel:(es.map lF).length<P0:=by
    have h1:=D0 List.length k6.x
    rw [jF] at h1
    have q:∀ es:List En,(gP es).length=es.length:=λes=>by
     induction es with
     | nil=>rfl
     | cons e es ih=>exact D0 (· + 1) ih
    rw [q] at h1
    exact qz (E3 _) (qz h1 (D7 (D2 (Nat.le_of_succ_le Bc) hN9) h9l))
   refine Q4 q1 hel (hQ _ ?_)
   refine qz hef (qz hte.symm ?_)
   refine ⟨_,_,_,_,_,q2,hT.bi.turn rfl ⟨(λq=>nomatch (List.append_eq_nil_iff.mp q).2),λt ht=>?_⟩ ?_⟩
   ·rcases C0 ht with ht|ht
    ·exact k2.2 t ht
    ·exact qz (B1 ht) ⟨hD.pt.ct (by decide),hD.k4⟩
   ·show Dd (rs++[ts'])+1<=Dd rs+1+6100
    exact qz (Cb5 _ _) (qz (B5 _ _ _) (A6 (D2 (C4 hD.pt.len 30) (by decide)) _))
  ·-- a Fp
   have hq0:=hq
   have hnp:eQ (.para [])≠T0 [] b6:=λq=>by
    rw [<- q] at hq
    exact absurd hq (by show ¬ ([112,97,114,97]==[112,97,114,97])=false;decide)
   refine T8 (a:=b) (by exact iq) (T5 (K5 (v:=.str nP) (by exact iq) (Q9 (aJ (R0 args (qG (n:=n) hd9 hp (by decide) hr1 (D3 _) λts' c G2 hte hD=>K8 (K8 ?_)))))))
   have g2:=g1.trans hD.gr
   have l1:(G2++[[.ref c]]:Heap).length=G2.length+1:=R6
   have he0:Ok (G2++[[.ref c]]) (.leaf (.lst (M0 ts')) (.ref c) H.length G2.length) H.length G2.length:=⟨⟨D3 _,g2.len,D3 _⟩,(hD.rep.wide (lo':=H.length) (D3 _) (D3 _)).to (R1.one (D3 _))⟩
   have hnf:¬ cO [.leaf (.lst (M0 ts')) (.ref c) H.length G2.length] G2.length:=λq=>Nat.lt_irrefl _ (V7.mp q).2
   have he:Ok (G2++[[.ref c]]) (two nP H.length G2.length [.leaf (.lst (M0 ts')) (.ref c) H.length G2.length]) H.length (G2++[[V.ref c]]).length :=
    ⟨⟨D3 _,.atom (a:=.s nP) (.nil (D3 _))⟩,⟨g2.len,by refine qz l1 ?_;exact D9 _,hnf,K6⟩,⟨_,he0,by show _<=_;exact qz l1 (E4 _)⟩⟩
   obtain ⟨q1,q2⟩:=putB (b':=.para [ts']) (by unfold nF;rw [f1,f2,hnl,f4,hq0];refine qz hte ?_;rfl) (g2.trans .one) he ⟨_,_,_,rfl,_,_,_,_,rfl,rfl⟩ ⟨(λq=>nomatch q),λt ht=>qz (B1 ht) ⟨hD.pt.ct (by decide),hD.k4⟩⟩ (Or.inl hnp) (D2 (E0 (C4 hD.pt.len 30)) (by decide))
   exact Q4 q1 hfl q2
 have hTG:=hT.grow g
 refine E9 rfl rfl (F9 (by exact iq) ?_)
 have en:=hTG.nen (C:=Ac P (n+14)) (ρ:=[some (.ref b),some (.int f7),some (.int d8),some (.ref pa),some (.int (b4.length:Nat)),some (.str [])]) (e:=J0) hN9 (by exact iq)
 rcases V4 b6 with e|⟨cs,c,e⟩
 ·rw [e] at en rest
  exact T7 en λG' g'=>by subst g';exact rest
 ·have Ef:kC b6=true:=by refine qz e ?_;cases cs<;>rfl
  rw [Ef] at en
  apply Ah;intro g9 k9
  obtain ⟨r,v,l,hbl,hv⟩:=hTG.name e
  apply k9
  have hnm:T0 [] b6=eQ c:=qz e (qz eD rfl)
  rw [hnm] at rest
  refine fX en λG' g'=>?_
  subst g'
  exact F9 (L6 (jX (L6 (by exact iq) bB (Q6 (P9 hbl))) hv) G9 cH) rest
noncomputable def gU:List Int:=[0,1,2,3,5,13]
noncomputable def Bp (h:Int):Int:=(gU[(h / 12 % 6).toNat]?).getD 0
noncomputable def Cm (ns:List Int) (k:Nat):Int:=(ns[k]?).getD 0 * 69621 % 2147483647
noncomputable def Dh (ns:List Int) (k:Nat) (m:Int):List Int:=slice ns (some ((k:Int)+1)) (some ((k:Int)+1+m))
noncomputable def rV (h:Int) (cells:List Int) (s:Eo):Eo:=bif decide (9<h % 12) then hY (h % 12) (1+h / 72 % 3 * 4) s else (s.1,nF s.2 s.1.length (h % 12) (h / 72) (Af4 cells (h / 504)))
noncomputable def iP (ns:List Int):Nat->Nat->Eo->Eo
 | 0,_,s=>s
 | f+1,k,s=>bif decide (k<ns.length) then iP ns f (k+1+(Bp (Cm ns k)).toNat) (rV (Cm ns k) (Dh ns k (Bp (Cm ns k))) s) else s
noncomputable def Ch4 (s:Eo):List Bk:=bif kC s.2 then nE s.1 s.2 else nE s.1 [.gap 1]
noncomputable def iQ (ns:List Int):List Bk:=Ch4 (iP ns ns.length 1 ([],[]))
structure TrD (H0:Heap) (bs:List Bk) (G:Heap):Prop where
 bo:aM 0 [] bs
 ne:bs≠[]
 fit:Q2 W 65 (.lst (O9 bs))
 sz:Am bs<=900000
 gr:K3 H0 G
 rep:N8 G (.lst (O9 bs)) H0.length G.length (.ref H0.length)
theorem As5 (h:Int):0<=Bp h/\Bp h<=13/\∃ j:Nat,h / 12 % 6=(j:Int)/\gU[j]? = some (Bp h):=by
 obtain ⟨j,hj⟩:=Int.eq_ofNat_of_zero_le (Int.emod_nonneg (h / 12) (by decide:(6:Int)≠0))
 have hj6:j<gU.length:=Int.ofNat_lt.mp (hj▸Int.emod_lt_of_pos _ (by decide))
 have e:gU[j]? = some gU[j]:=A8 hj6
 have e2:Bp h=gU[j]:=by unfold Bp;refine qz hj (qz (Int.toNat_natCast _) (qz e ?_));rfl
 have j4:∀ z∈gU,0<=z/\z<=13:=by unfold gU;decide
 have:=j4 _ (List.getElem_mem hj6)
 exact qz e2 ⟨this.1,this.2,j,hj,e⟩
theorem Cd8 (he:∀ G,Ev C ρ G e (.int (h / 12 % 6))) (k:∀ G,K3 H G->Q (.int (Bp h)) G):L0 C (.idx (.list [.int 0,.int 1,.int 2,.int 3,.int 5,.int 13]) e) ρ Q H:=by
 obtain ⟨_,_,j,hj,hm⟩:=As5 h
 refine rT (oS (.lst (gU.map λz=>.at (.i z))) _ _ λv G g r=>?_)
 apply Ah;intro g9 k9
 obtain ⟨a,l,p,q,rfl,hb,ha,hr⟩:=r
 apply k9
 refine he G _ ?_
 refine qz hj ?_
 have hl:l.length=6:=hr.len
 have hj6:j<l.length:=by
  have:j<gU.length:=(A3 hm).1
  exact qz hl this
 have hv:l[j]? = some l[j]:=A8 hj6
 obtain ⟨x,hx,Cj⟩:=tE hr hv
 rw [E6,hm] at hx
 cases hx
 have e2:l[j]=.int (Bp h):=Cj
 rw [e2] at hv
 exact Ae1 ha hv (k G g)
theorem Cq9 {ns:List Int}(ho:Ev C ρ H o (.ref c)) (hl:Ev C ρ H l (.int i)) (hr:Ev C ρ H r (.int j)) (hc:H[c]? = some (ns.map V.int)) (hi:0<=i) (hj:0<=j) (k:Q (.ref H.length) (H++[(slice ns (some i) (some j)).map V.int])):L0 C (.slc o l r) ρ Q H:=ho _ (hl _ (hr _ (by
 show res ((H[c]?).map λl=>(V.ref H.length,H++[slice l (some i) (some j)])) Q
 refine qz hc ?_
 show Q (.ref H.length) (H++[slice (ns.map V.int) (some i) (some j)])
 exact qz (Z2 hi hj) (qz List.map_drop.symm (qz List.map_take.symm (qz (Eq.symm (Z2 hi hj)) k))))))
theorem Cc1 (k:V2 C es ρ (λvs Hw=>C f vs (λZ Hz=>K1 C ss ρ R Hz) Hw) H):K1 C (.expr (.call f es)::ss) ρ R H:=k
theorem TX.grow (h:TX H0 N s H) (g:K3 H G):TX H0 N s G:=by
 obtain ⟨as,b,bs,rt,fs,h⟩:=h
 exact ⟨as,b,bs,rt,fs,h.grow g⟩
theorem TX.le (h:TX H0 N s H) (hM:N<=M):TX H0 M s H:=by
 obtain ⟨as,b,bs,rt,fs,h⟩:=h
 exact ⟨as,b,bs,rt,fs,h.ts,h.bi.up,h.bi.ok,D2 h.bi.sz hM⟩
theorem slice_le {α:Type}{l:List α}{i j:Int}(h:0<=i) (h':0<=j):(slice l (some i) (some j)).length<=l.length:=qz (Z2 h h') (qz List.length_take (qz List.length_drop (D2 (Nat.min_le_right _ _) (Nat.sub_le _ _))))
noncomputable abbrev TZ:=Nat×Eo×Option V×Option V×Option V
theorem yD {n N:Nat}{b4:List (List Bk)}{b6:List Bk}(h:TI H0 N b4 b6 as b bs rt fs G) (hN:N<=900000) (f6:b6≠[]) (hR:TrD H0 (nE b4 b6) G->R (.ref H0.length) G) :
  K1 (Ac P n) [.ret (.idx J1 (.int 0))] [x0,some (.ref (H0.length+1)),x2,x3,x4,x5] (S1 R) G:=by
 have hW:W=15800000:=rfl
 obtain ⟨r,er⟩:=h.ts.zp.first
 have hp:G[H0.length+1]? = some (.ref H0.length::r.map V.ref):=h.ts.pile.trans (by refine qz er ?_;rfl)
 refine O0 (L6 (by exact iq) G9 (X3 (i:=0) hp rfl)) (hR ?_)
 obtain ⟨o1,o2⟩:=As1 f6 h.bi.up (qz (Nat.zero_add _) h.bi.ok)
 have hrep:=h.ts.nd.rep
 rw [h.ts.zp.root.x,h.ts.zp.whole] at hrep
 have j8:=h.bi.sz
 have b7:=h.ts.len
 have j6:Q2 W 65 (.lst (O9 (nE b4 b6))):=(Ag1 (deep:=0) (D8 _) o1 (qz As0 (D2 j8 (D2 hN (by decide))))).up (D3 _) (by decide)
 exact ⟨o1,o2,j6,by refine qz As0 ?_;exact D2 j8 hN,⟨D2 (E1 _ _) b7,h.ts.old⟩,hrep⟩
theorem Az5 {n N:Nat}(h:TX H0 N s G) (hN:N+6100<=900000) (hQ:∀ G,TrD H0 (Ch4 s) G->Q (.ref H0.length) G) :
  K1 (Ac P n) (qM.body.drop 3) [x0,some (.ref (H0.length+1)),x2,x3,x4,x5] (S1 Q) G:=by
 have hlim:P0=16777216:=rfl
 apply Ah;intro g9 k9
 obtain ⟨b4,b6⟩:=s
 obtain ⟨as,b,bs,rt,fs,hT⟩:=h
 replace hT:TI H0 N b4 b6 as b bs rt fs G:=hT
 obtain ⟨r,hp⟩:=hT.pl
 apply k9
 have en:=hT.eqn (C:=Ac P n) (ρ:=[x0,some (.ref (H0.length+1)),x2,x3,x4,x5]) (e:=.idx J1 (.neg 1)) (D2 (E1 _ _) hN) (L6 (by exact iq) bB (Q6 hp))
 cases b6 with
 | cons x xs =>
  refine T7 en λG' g'=>?_
  subst g'
  exact yD (hT.grow .one) (D2 (E1 _ _) hN) (λq=>nomatch q) λhD=>hQ _ hD
 | nil =>
  refine fX en λG' g'=>?_
  subst g'
  have he:Ok (G++[[]]) (.leaf (Di (.gap 1)) (.tup [.str [103,97,112],.int 1]) (G++[[]]:Heap).length (G++[[]]:Heap).length) G.length (G++[[]]).length:=⟨⟨K3.one.1,D3 _,D3 _⟩,_,rfl,.atom (a:=.s _) (.atom (a:=.i 1) (.nil (D3 _)))⟩
  have hb1:Gx (.gap 1) (.leaf (Di (.gap 1)) (.tup [.str [103,97,112],.int 1]) (G++[[]]:Heap).length (G++[[]]:Heap).length):=⟨_,_,_,rfl⟩
  obtain ⟨q1,bs',rt',q2⟩:=hT.ts.put .one he .here (cur':=[]++[.gap 1]) (hT.ts.zp.typ.add hb1)
  refine N3 (a:=b) (v:=.tup [.str [103,97,112],.int 1]) (L6 (by exact iq) bB (Q6 (P9 hp))) (by exact iq) q1 (D7 hT.flen (wC (D2 (D2 (E1 _ _) hN) (by decide)))) ?_
  have hbi:BI b4 ([]++[.gap 1]) (N+6100):=hT.bi.add (b:=.gap 1) (D3 1) (Or.inl (by show ([103,97,112]:List Nat)≠[];decide)) (by show 20<=6100;decide)
  exact yD (n:=n) ⟨q2,hbi⟩ hN (λq=>nomatch q) λhD=>hQ _ hD
theorem Ak1:TX H0 6100 ([],[]) (H0++[[]]++[[V.ref H0.length]]):=by
 have e1:(H0++[[]]:Heap).length=H0.length+1:=R6
 have e2:=wX (H:=H0) (l:=[]) (l':=[V.ref H0.length])
 have hpl:(H0++[[]]++[[V.ref H0.length]])[H0.length+1]? = some [V.ref H0.length]:=by refine qz e1.symm ?_;exact K6
 have m7:Nd (H0++[[]]++[[V.ref H0.length]]) H0.length (H0++[[]]++[[V.ref H0.length]]).length H0.length []:=⟨⟨D3 _,by refine qz e2 ?_;exact C9 (by decide),(λq=>q.elim),P9 K6⟩,eN.1⟩
 exact ⟨[H0.length],H0.length,[],[],[],⟨A4 e2.symm,eN.2,hpl,.here rfl,m7,λi q=>q.elim⟩,trivial,trivial,D8 _⟩
theorem Cy2 {k:Nat}{m:Int}(h:0<=m):(k:Int)+1+m=((k+1+m.toNat:Nat):Int):=by obtain ⟨j,rfl⟩:=Int.eq_ofNat_of_zero_le h;rfl
theorem Cx4 (y:Int):(1+y % 3 * 4).toNat<=10:=by
 have h1:0<=y % 3:=Int.emod_nonneg _ (by decide)
 have h2:y % 3<3:=Int.emod_lt_of_pos _ (by decide)
 exact Int.toNat_le.mpr (Int.le_trans (Int.add_le_add_left (Int.mul_le_mul_of_nonneg_right (Int.le_of_lt_add_one (b:=2) h2) (by decide)) 1) (by decide))
theorem Cb3:6100 * k+6100<=6100 * (k+1+j):=qz (Eq.symm (Nat.mul_succ _ _)) (Nat.mul_le_mul_left _ (E1 _ _))
theorem Cb2 (h:k<L):L - (k+1+j)<L - k:=D7 (Nat.sub_le_sub_left (E1 _ _) _) (Nat.sub_lt_sub_left h (D9 _))
theorem Cb4 (h:L<=k+f) (hf:f=f - 1+1):L<=k+1+j+(f - 1):=by
 rw [hf] at h
 exact D2 h (qz (B5 k 1 _) (qz (B5 _ 1 _) (D2 (A4 (C2 k (f - 1) 1).symm) (by rw [B5 k j];exact E0 (E1 _ _)))))
theorem Cb1 {n c0:Nat}{ns:List Int}{H0:Heap}{Q:F8}(hc0:H0[c0]? = some (ns.map V.int)) (i7:ns.length<=63) (hQ:∀ G,TrD H0 (iQ ns) G->Q (.ref H0.length) G):Ac P (n+16) "_law_tree" [.ref c0] Q H0:=by
 have hlim:P0=16777216:=rfl
 have e1:(H0++[[]]:Heap).length=H0.length+1:=R6
 refine E9 rfl rfl (P5 (v:=.ref (H0.length+1)) (H1:=H0++[[]]++[[.ref H0.length]]) (λQ q=>?_) (F9 (by exact iq) (M7 (nM (σ:=TZ) (λz=>[some (.ref c0),some (.ref (H0.length+1)),some (.int (z.1:Nat)),z.2.2.1,z.2.2.2.1,z.2.2.2.2]) (λz G=>TX H0 (6100 * z.1) z.2.1 G/\z.1<=100/\∃ f,ns.length<=z.1+f/\iP ns f z.1 z.2.1=iP ns ns.length 1 ([],[])) (λz=>ns.length - z.1) (λz G hI K hK=>?_) ⟨1,([],[]),none,none,none⟩ ⟨Ak1,by show 1<=100;decide,ns.length,A7 _ _,rfl⟩))))
 ·rw [<- e1] at q;exact q
 ·obtain ⟨k,s,x3,x4,x5⟩:=z
  obtain ⟨hT,Fj,f,hf,hR⟩:=hI
  replace hT:TX H0 (6100 * k) s G:=hT
  replace hf:ns.length<=k+f:=hf
  replace Fj:k<=100:=Fj
  replace hR:iP ns f k s=iP ns ns.length 1 ([],[]):=hR
  have hc1:G[c0]? = some (ns.map V.int):=by
   obtain ⟨_,_,_,_,_,h⟩:=hT
   exact (h.ts.old c0 (D8 _) (M3 hc0)).trans hc0
  have b7:qX (.ref c0) G=some (ns.length:Int):=(P6 hc1).trans (qz (E3 _) rfl)
  have ev:∀ {C:Calls},Ev C [some (.ref c0),some (.ref (H0.length+1)),some (.int (k:Nat)),x3,x4,x5] G (.cmp .lt J2 (.len J0)) (.bool (decide (k<ns.length))):=Q0 (H9 (by exact iq) (Q1 (by exact iq) b7) aZ) lt9
  cases hk:decide (k<ns.length) with
  | false =>
   rw [hk] at ev
   refine .stop ev ?_
   have hs:s=iP ns ns.length 1 ([],[]):=by
    refine qz hR.symm ?_
    cases f with
    | zero=>rfl
    | succ f =>
     show s=bif decide (k<ns.length) then _ else s
     refine qz hk ?_;rfl
   exact Az5 (n:=n+15) hT (D2 (C4 (Nat.mul_le_mul_left 6100 Fj) _) (by decide)) λG h=>hQ G (by unfold iQ;exact qz hs.symm h)
  | true =>
   rw [hk] at ev
   have hkl:k<ns.length:=of_decide_eq_true hk
   refine .go ev ?_
   have hix:ns[k]? = some ns[k]:=A8 hkl
   have hidx:cL (.ref c0) (.int (k:Nat)) G=some (.int ns[k]):=X3 hc1 (by refine qz E6 (qz hix ?_);rfl)
   refine F9 (v:=.int (Cm ns k)) (jX (K0 (K0 (L6 (by exact iq) (by exact iq) hidx) G9 (hU (Or.inr (by decide)))) G9 (Q8 (by decide))) (by unfold Cm;refine qz hix ?_;rfl)) ?_
   have hfs:f=(f - 1)+1:=by
    cases f with
    | zero=>exact absurd hkl (Nat.not_lt_of_le hf)
    | succ f=>rfl
   have hR2:iP ns (f - 1) (k+1+(Bp (Cm ns k)).toNat) (rV (Cm ns k) (Dh ns k (Bp (Cm ns k))) s)=iP ns ns.length 1 ([],[]):=by
    refine qz hR.symm (qz hfs ?_)
    show _=bif decide (k<ns.length) then _ else s
    refine qz hk ?_;rfl
   generalize Cm ns k=h at hR2
   obtain ⟨hm0,hm13,_⟩:=As5 h
   have hk0:0<=(k:Int)+1:=Int.le_add_one (C6 k)
   refine P1 (Cd8 (h:=h) (λG=>K0 (K0 (by exact iq) G9 (R4 (by decide))) G9 (Q8 (by decide))) λG1 g1=>?_)
   generalize Bp h=m at hR2 hm0 hm13
   refine P1 (Cq9 (by exact iq) (K0 (by exact iq) G9 U3) (K0 (K0 (by exact iq) G9 U3) (by exact iq) U3) (g1.get hc1) hk0 (Int.add_nonneg hk0 hm0) ?_)
   have hce:slice ns (some ((k:Int)+1)) (some ((k:Int)+1+m))=Dh ns k m:=rfl
   have g8:(Dh ns k m).length<=63:=D2 (slice_le hk0 (Int.add_nonneg hk0 hm0)) i7
   refine qz hce ?_
   generalize Dh ns k m=cells at hR2 g8
   refine F9 (jX (K0 (K0 (by exact iq) G9 U3) (by exact iq) U3) (D0 V.int (Cy2 hm0))) ?_
   have hT2:TX H0 (6100 * k) s (G1++[cells.map V.int]):=hT.grow (g1.trans .one)
   have hcg:(G1++[cells.map V.int])[G1.length]? = some (cells.map V.int):=K6
   generalize (G1++[cells.map V.int]:Heap)=G2 at hT2 hcg
   generalize G1.length=c at hcg
   have hk':k+1+m.toNat<=100:=D2 (B3 (D2 hkl i7) (Int.toNat_le.mpr hm13)) (by decide)
   have hkN:6100 * k+6100<=900000:=D2 (C4 (Nat.mul_le_mul_left 6100 Fj) _) (by decide)
   have next:∀ {G':Heap},TX H0 (6100 * k+6100) (rV h cells s) G'->K [some (.ref c0),some (.ref (H0.length+1)),some (.int ((k+1+m.toNat:Nat):Int)),some (.int h),some (.int m),some (.ref c)] G':=λhG' =>
    hK ⟨k+1+m.toNat,rV h cells s,_,_,_⟩ _ (Cb2 hkl) ⟨hG'.le Cb3,hk',f - 1,Cb4 hf hfs,hR2⟩
   have evm:∀ {C:Calls}{x2:Option V}{x4 x5:Option V}{G:Heap},Ev C [some (.ref c0),some (.ref (H0.length+1)),x2,some (.int h),x4,x5] G (.bin .mod J3 (.int 12)) (.int (h % 12)):=K0 (by exact iq) G9 (Q8 (by decide))
   refine Z9 (H9 evm G9 Z6) (λhq=>?_) (λhq=>?_)
   ·refine P8 (I8 (by exact iq) (I8 evm (I8 (K0 G9 (K0 (K0 (K0 (by exact iq) G9 (R4 (by decide))) G9 (Q8 (by decide))) G9 (hU (Or.inr (by decide)))) U3) Q7))) (Bp4 (n:=n+14) hT2 (D2 (A6 (by decide) _) hkN) (Cx4 _) λG' hG'=>next ?_)
    unfold rV
    exact qz hq (hG'.le (A6 (by decide) _))
   ·apply Ah;intro g9 k9
    obtain ⟨b4,b6⟩:=s
    obtain ⟨as,b,bs,rt,fs,hTI⟩:=hT2
    replace hTI:TI H0 (6100 * k) b4 b6 as b bs rt fs G2:=hTI
    obtain ⟨r,hp⟩:=hTI.pl
    apply k9
    refine Cc1 (K5 (L6 (by exact iq) bB (Q6 hp)) (K5 evm (K5 (K0 (by exact iq) G9 (R4 (by decide))) (R0 (I8 (by exact iq) (I8 (K0 (by exact iq) G9 (R4 (by decide))) Q7)) (Aa5 (n:=n+10) hcg (qz (E3 _) g8) rfl λG3 hD=>?_)))))
    refine K5 (v:=.int (b4.length:Nat)) (jX (K0 (Q1 (by exact iq) (P6 (hD.gr.get hTI.ts.pile))) G9 oL) (D0 V.int (qz hTI.plen (Int.add_sub_cancel (b4.length:Int) 1)))) (K8 ?_)
    refine Cs0 (n:=n) hTI hkN ⟨hD.op,hD.sg,hD.len⟩ hD.gr hD.rep λG' hG'=>next ?_
    unfold rV
    exact qz hq hG'
mutual
noncomputable def flI:It->List (Nat×List T)
 | .it n ts sub=>(n,ts)::qZ sub
noncomputable def qZ:List It->List (Nat×List T)
 | []=>[]
 | i::is=>flI i++qZ is
end
mutual
noncomputable def spI:It->List Nat
 | .it n _ sub=>n::Ds sub
noncomputable def Ds:List It->List Nat
 | []=>[]
 | i::is=>bif is.isEmpty then spI i else Ds is
end
theorem pD:∀ is:List It,Ds (is++[i])=spI i
 | []=>rfl
 | [j]=>rfl
 | j::k::is=>pD (i:=i) (k::is)
abbrev ICx:=List (List It×Nat×List T)
noncomputable def aN:ICx->List It->List It
 | [],c=>c
 | (p,n,ts)::b4,c=>p++[.it n ts (aN b4 c)]
noncomputable def tC (b4:ICx):List Nat:=b4.map λx=>x.2.1
theorem iG {n:Nat}:∀ b4:ICx,aN (b4++[(p,n,ts)]) c=aN b4 (p++[.it n ts c])
 | []=>rfl
 | (q,m,us)::b4=>by
  show q++[It.it m us (aN (b4++[(p,n,ts)]) c)]=q++[It.it m us (aN b4 (p++[.it n ts c]))]
  exact qz (iG b4) rfl
theorem qL {x:It}:∀ b4:ICx,Ao b4.length (aN b4 c) x=aN b4 (c++[x])
 | []=>rfl
 | (q,m,us)::b4=>by
  show Ao (b4.length+1) (q++[It.it m us (aN b4 c)]) x=q++[It.it m us (aN b4 (c++[x]))]
  exact qz X2 (qz (qL b4) rfl)
theorem Cy5 (h:∀ m∈a,m<N):jO a N=a.length:=by
 rcases V4 a with rfl|⟨r,m,rfl⟩
 ·rfl
 ·refine qz uW (qz (if_neg (Nat.not_le_of_lt (h m (List.mem_append.mpr (Or.inr (.head _)))))) (qz D4 ?_));rfl
theorem Cq3 (h:∀ m∈a,m<N):∀ (k:Nat) (b:List Nat),b.length=k->(∀ m∈b,N<=m)->jO (a++b) N=a.length:=by
 intro k
 induction k with
 | zero=>exact λb e Z=>qz (List.length_eq_zero_iff.mp e) (qz (List.append_nil _) (Cy5 h))
 | succ k ih =>
  exact λb e hb=>by
   rcases V4 b with rfl|⟨r,m,rfl⟩
   ·cases e
   ·exact qz (Eq.symm (D5 _ _ _)) (qz uW (qz (if_pos (hb m (List.mem_append.mpr (Or.inr (.head _))))) (ih r (by rw [D4] at e;exact Nat.succ.inj e) λx hx=>hb x (List.mem_append.mpr (Or.inl hx)))))
theorem Az6 {b4:ICx}(h:∀ m∈tC b4,m<N) (hc:∀ m∈Ds c,N<=m):iR (aN b4 c,tC b4++Ds c) (N,ts)=(aN b4 (c++[.it N ts []]),tC b4++[N]):=by
 have e:jO (tC b4++Ds c) N=(tC b4).length:=Cq3 h _ _ rfl hc
 have e2:(tC b4).length=b4.length:=E3 ..
 show (Ao (jO (tC b4++Ds c) N) _ _,(tC b4++Ds c).take (jO (tC b4++Ds c) N)++[N])=_
 exact qz e (qz List.take_left (qz e2 (qz (qL _) rfl)))
mutual
theorem Co1:∀ {above most:Nat}{i:It},El above most i->∀ m∈spI i,above<m
 | above,most,.it n ts sub=>λh=>λm hm=>by
  rcases B0 hm with rfl|hm
  ·exact h.1.2.2
  ·exact Nat.lt_trans h.1.2.2 (uQ (is:=sub) h.2.2 m hm)
theorem uQ:∀ {above most:Nat}{is:List It},cJ above most is->∀ m∈Ds is,above<m
 | _,_,[]=>λZ=>λm hm=>xL hm
 | above,most,i::is=>λh=>λm hm=>by
  cases is with
  | nil=>exact Co1 (i:=i) h.1 m hm
  | cons j js=>exact uQ (is:=j::js) h.2 m hm
end
mutual
theorem Cr1:∀ (i:It) (b4:ICx) (c:List It) (above most:Nat),El above most i->(∀ m∈tC b4,m<=above)->(∀ m∈Ds c,most<=m) ->
  (flI i).foldl iR (aN b4 c,tC b4++Ds c)=(aN b4 (c++[i]),tC b4++Ds (c++[i]))
 | .it n ts sub=>λb4 c above most h h1 h2=>by
  have e1:=Az6 (ts:=ts) (λm hm=>D7 (h1 m hm) h.1.2.2) (λm hm=>D2 h.1.2.1 (h2 m hm))
  have e2:tC (b4++[(c,n,ts)])=tC b4++[n]:=by unfold tC;refine qz C3 ?_;rfl
  have ih:=uY sub (b4++[(c,n,ts)]) [] n 9 h.2.2 (λm hm=>by
   rw [e2] at hm
   rcases C0 hm with hm|hm
   ·exact E2 (D7 (h1 m hm) h.1.2.2)
   ·exact qz (B1 hm) (D3 _)) (λm hm=>xL hm)
  rw [iG,iG,e2,show Ds []=[] from rfl,List.append_nil,List.nil_append] at ih
  show (qZ sub).foldl iR (iR (aN b4 c,tC b4++Ds c) (n,ts))=_
  refine qz e1 (qz ih (qz (pD _) (qz (D5 _ _ _) ?_)));rfl
theorem uY:∀ (is:List It) (b4:ICx) (c:List It) (above most:Nat),cJ above most is->(∀ m∈tC b4,m<=above)->(∀ m∈Ds c,most<=m) ->
  (qZ is).foldl iR (aN b4 c,tC b4++Ds c)=(aN b4 (c++is),tC b4++Ds (c++is))
 | []=>λb4 c above most Z Z Z=>by refine qz (List.append_nil _) ?_;rfl
 | i::is=>λb4 c above most h h1 h2=>by
  have e1:=Cr1 i b4 c above most h.1 h1 h2
  have hs:∀ m∈Ds (c++[i]),dsh i<=m:=λm hm=>by
   rw [pD] at hm
   cases i with
   | it n ts sub =>
    rcases B0 hm with rfl|hm
    ·exact D3 _
    ·exact E2 (uQ h.1.2.2 m hm)
  have e2:=uY is b4 (c++[i]) above (dsh i) h.2 h1 hs
  show (flI i++qZ is).foldl iR _=_
  refine qz List.foldl_append (qz e1 (qz e2 (qz (D5 _ _ _) ?_)));rfl
end
theorem Ce6 (h:cJ 0 9 is):itF (qZ is)=is:=by
 have:=uY is [] [] 0 9 h (λm hm=>xL hm) (λm hm=>xL hm)
 unfold itF Fs
 have e:=D0 Prod.fst this
 exact e
theorem tT (hc:c≠32):∀ n,Ak c (mk c n r)=n
 | 0=>if_neg (Ne.symm hc)
 | n+1=>(if_pos rfl).trans (D0 (· + 1) (tT hc n))
theorem At4:∀ n,(mk c n r).drop n=32::r
 | 0=>rfl
 | n+1=>At4 n
theorem pM:∀ n,(mk c n r).drop (n+1)=r
 | 0=>rfl
 | n+1=>pM n
theorem yX {c m n:Nat}(hc:c≠32) (h1:1<=n) (h2:n<=m):Av c m (mk c n r)=true:=by
 unfold Av
 refine qz (tT hc _) (qz (At4 _) (qz (decide_eq_true h1) (qz (decide_eq_true h2) ?_)));rfl
theorem Bi5:(b&&false)=false:=Bool.and_false b
theorem Co4 {deep n:Nat}(h1:1<=n) (h2:n<=6):Au deep (mk 35 n r)=⟨2,n,r⟩:=by
 have hr:=yX (r:=r) (by decide:35≠32) h1 h2
 have e1:=tT (r:=r) (by decide:35≠32) n
 have e2:=pM (c:=35) (r:=r) n
 cases n with
 | zero=>cases h1
 | succ n =>
  show Cg deep (mk 35 (n+1) r)=_
  unfold Cg
  refine qz (show isQ deep (mk 35 (n+1) r)=false from Bi5) (qz hr (qz e1 (qz e2 ?_)));rfl
theorem Co3 {deep n:Nat}(h1:1<=n) (h2:n<=9):Au deep (mk 45 n r)=⟨3,n,r⟩:=by
 have hr:=yX (r:=r) (by decide:45≠32) h1 h2
 have e1:=tT (r:=r) (by decide:45≠32) n
 have e2:=pM (c:=45) (r:=r) n
 cases n with
 | zero=>cases h1
 | succ n =>
  show Cg deep (mk 45 (n+1) r)=_
  unfold Cg
  refine qz (show isQ deep (mk 45 (n+1) r)=false from Bi5) (qz (show Av 35 6 (mk 45 (n+1) r)=false from rfl) (qz hr (qz e1 (qz e2 ?_))));rfl
theorem Cw7 {deep:Nat}(h:deep<9):Au deep (62::32::r)=⟨1,0,r⟩:=by
 show Cg deep (62::32::r)=_
 unfold Cg
 refine qz (show isQ deep (62::32::r)=true by unfold isQ;rw [decide_eq_true h];rfl) ?_;rfl
theorem Cw9 {deep:Nat}{row:List Nat}(h:(Au deep row).1=4):Au deep row=⟨4,0,row⟩:=by
 rcases gI deep row with ⟨rfl,e⟩|⟨h0,⟨hq,e⟩|⟨hq,⟨h35,e⟩|⟨h35,⟨h45,e⟩|⟨h45,e⟩⟩⟩⟩
 ·rw [e] at h;cases h
 ·rw [e] at h;cases h
 ·rw [e] at h;cases h
 ·rw [e] at h;cases h
 ·exact e
mutual
theorem Co6:∀ i:It,Fw i=(flI i).map λp=>mk 45 p.1 (Ab p.2)
 | .it n ts sub=>D0 (mk 45 n (Ab ts)::·) (mW sub)
theorem mW:∀ is:List It,T1 is=(qZ is).map λp=>mk 45 p.1 (Ab p.2)
 | []=>rfl
 | i::is=>by
  show Fw i++T1 is=(flI i++qZ is).map _
  exact qz (Co6 i) (qz (mW is) (qz C3 rfl))
end
mutual
theorem Cy9:∀ {above most:Nat}{i:It},most<=9->El above most i->∀ p∈flI i,(1<=p.1/\p.1<=9)/\Ct p.2
 | above,most,.it n ts sub=>λhm h=>λp hp=>by
  rcases B0 hp with rfl|hp
  ·exact ⟨⟨h.1.1,D2 h.1.2.1 hm⟩,h.2.1⟩
  ·exact uC (is:=sub) (D3 _) h.2.2 p hp
theorem uC:∀ {above most:Nat}{is:List It},most<=9->cJ above most is->∀ p∈qZ is,(1<=p.1/\p.1<=9)/\Ct p.2
 | _,_,[]=>λZ Z=>λp hp=>xL hp
 | above,most,.it n ts sub::is=>λhm h=>λp hp=>by
  rcases C0 hp with hp|hp
  ·exact Cy9 hm h.1 p hp
  ·exact uC (is:=is) (D2 h.1.1.2.1 hm) h.2 p hp
end
structure De8 (rec:List (List Nat)->List Bk) (deep:Nat) (b:Bk) (s:Sh) (m:List Sh):Prop where
 rows:(Cq b).map (Au deep)=s::m
 uni:Uni s m
 k:s.1<=4
 nm:nmK s.1=eQ b
 bk:rA rec (s::m)=b
theorem mQ {α:Type}{f:α->Sh}{x:α}{l:List α}(h:∀ y,(f y).1=(f x).1) (h2:(f x).1≠2):Uni (f x) (l.map f):=⟨λt ht=>by
 obtain ⟨y,_,rfl⟩:=List.mem_map.mp ht
 exact h y,λq=>absurd q h2⟩
noncomputable def f0 (_:List Nat):Sh:=⟨0,0,[]⟩
noncomputable def f1 (r:List Nat):Sh:=⟨1,0,r⟩
noncomputable def f3 (p:Nat×List T):Sh:=⟨3,p.1,Ab p.2⟩
noncomputable def f4 (ts:List T):Sh:=⟨4,0,Ab ts⟩
theorem Cc5 {l:List (Nat×List T)}(h:∀ p∈l,Ct p.2):(l.map f3).map eW=l:=qz List.map_map ((List.map_congr_left (g:=id) λp hp=>D0 (Prod.mk p.1) (h p hp).eq.symm).trans (List.map_id _))
mutual
theorem Ag6:∀ {d deep:Nat}(b:Bk),deep+d=9->wB deep b->∃ s m,De8 (wJ d) deep b s m
 | d,deep,.gap n=>λhd h=>by
  cases n with
  | zero=>cases h
  | succ n =>
   refine ⟨f0 [],(List.replicate n []).map f0,List.map_congr_left λr hr=>?_,mQ (λZ=>rfl) (by decide),by decide,rfl,?_⟩
   ·refine qz ((List.mem_replicate.mp hr).2) ?_;rfl
   ·show Bk.gap (((List.replicate n []).map f0).length+1)=_
    exact qz (E3 _) (qz List.length_replicate rfl)
 | d,deep,.head n ts=>λhd h=>⟨⟨2,n,Ab ts⟩,[],D0 (λs=>[s]) (Co4 h.1.1 h.1.2),⟨λZ q=>(xL q),λZ=>rfl⟩,(by decide:2<=4),rfl,D0 (Bk.head n) h.2.eq.symm⟩
 | d,deep,.list is=>λhd h=>by
  have hb:=Ce6 h.2.1
  have hr:=mW is
  have hc:=uC (D3 _) h.2.1
  cases hf:qZ is with
  | nil=>rw [hf] at hb;exact absurd hb.symm h.1
  | cons p ps =>
   rw [hf] at hr hc hb
   refine ⟨f3 p,ps.map f3,?_,mQ (λZ=>rfl) (by show 3≠2;decide),(by decide:3<=4),rfl,?_⟩
   ·show (T1 is).map (Au deep)=(p::ps).map f3
    exact qz hr (qz List.map_map (List.map_congr_left λx hx=>Co3 (hc x hx).1.1 (hc x hx).1.2))
   ·show Bk.list (itF (((p::ps).map f3).map eW))=_
    exact qz (Cc5 λx hx=>(hc x hx).2) (qz hb rfl)
 | d,deep,.para []=>λhd h=>absurd rfl h.1
 | d,deep,.para (ts::rs)=>λhd h=>by
  refine ⟨f4 ts,rs.map f4,?_,mQ (λZ=>rfl) (by show 4≠2;decide),(by decide:4<=4),rfl,?_⟩
  ·show ((ts::rs).map Ab).map (Au deep)=(ts::rs).map f4
   exact qz List.map_map (List.map_congr_left λx hx=>Cw9 (h.2 x hx).2)
  ·show Bk.para (((ts::rs).map f4).map λs=>pts s.2.2)=_
   exact qz List.map_map (D0 Bk.para ((List.map_congr_left (g:=id) λx hx=>(h.2 x hx).1.eq.symm).trans (List.map_id _)))
 | d,deep,.quote bs=>λhd h=>by
  obtain ⟨d',rfl⟩:=gC hd h.1
  have hd':deep+1+d'=9:=(B5 deep 1 d').trans hd
  have ih:=vC (d:=d') bs hd' h.2.2
  rw [<- tU hd'] at ih
  have hr:∀ l:List (List Nat),(l.map λr=>62::32::r).map (Au deep)=l.map f1:=λl=>by
   exact qz List.map_map (List.map_congr_left λx Z=>Cw7 h.1)
  have h2:=hr (Ag bs)
  cases hl:Ag bs with
  | nil =>
   rw [hl] at ih
   exact absurd (ih.symm.trans (by refine qz (tU hd' _) ?_;rfl)) h.2.1
  | cons r rs =>
   rw [hl] at ih h2
   refine ⟨f1 r,rs.map f1,?_,mQ (λZ=>rfl) (by show 1≠2;decide),(by decide:1<=4),rfl,?_⟩
   ·show ((Ag bs).map λr=>62::32::r).map (Au deep)=_
    exact qz hl h2
   ·show Bk.quote (rdF d' (((r::rs).map f1).map (·.2.2)))=_
    exact qz List.map_map (qz (show (r::rs).map ((·.2.2) ∘ f1)=r::rs from List.map_id _) (qz ih rfl))
theorem vC:∀ {d deep:Nat}{last:List Nat}(bs:List Bk),deep+d=9->aM deep last bs->(Bt ((Ag bs).map (Au deep))).map (rA (wJ d))=bs
 | _,_,_,[]=>λZ Z=>rfl
 | d,deep,last,[b]=>λhd h=>by
  obtain ⟨s,m,hb⟩:=Ag6 b hd h.1
  refine qz (show Ag [b]=Cq b from List.append_nil _) (qz hb.rows ?_)
  have:=jG (r:=[]) hb.uni trivial
  rw [List.append_nil] at this
  refine qz this ?_
  show [rA _ (s::m)]=_
  exact qz hb.bk rfl
 | d,deep,last,b::b2::bs=>λhd h=>by
  obtain ⟨s,m,hb⟩:=Ag6 b hd h.1
  obtain ⟨s2,m2,hb2⟩:=Ag6 b2 hd h.2.2.1
  have ih:=vC (b2::bs) hd h.2.2
  have f9:Stp s ((Ag (b2::bs)).map (Au deep)):=by
   show Stp s ((Cq b2++Ag bs).map _)
   exact qz C3 (qz hb2.rows (h.2.2.2.1.imp (λq e=>q (by rw [<- hb2.nm,<- hb.nm,e])) (λq=>Cd4 _ (Nat.lt_succ_of_le hb.k) 2 (by decide) (hb.nm.trans q))))
  exact qz (show Ag (b::b2::bs)=Cq b++Ag (b2::bs) from rfl) (qz C3 (qz hb.rows (qz List.cons_append (qz (jG hb.uni f9) (qz List.map_cons (qz ih (qz hb.bk rfl)))))))
end
theorem Cc7 {d deep:Nat}(hd:deep+d=9) (h:aM deep [] bs):rdF d (Ag bs)=bs:=qz (tU hd _) (vC bs hd h)
noncomputable def Be (k:Nat):List (List Nat)->Nat
 | []=>0
 | r::rs=>r.length+k+Be k rs
theorem fZ:∀ as bs:List (List Nat),Be k (as++bs)=Be k as+Be k bs:=by
 intro as
 induction as with
 | nil=>exact λbs=>(Nat.zero_add _).symm
 | cons a as ih=>exact λbs=>by show a.length+k+Be k (as++bs)=a.length+k+Be k as+Be k bs;exact qz (ih bs) (qz (C2 (a.length+k) _ _) rfl)
theorem Ch5:∀ rs:List (List Nat),Be k (rs.map λr=>62::32::r)=Be (k+2) rs:=by
 intro rs
 induction rs with
 | nil=>exact rfl
 | cons r rs ih =>
  show r.length+2+k+Be k (rs.map _)=r.length+(k+2)+Be (k+2) rs
  exact qz ih (qz (C2 r.length _ _) (qz (Nat.add_comm 2 _) rfl))
theorem Cp3 {c n:Nat}:(mk c n r).length=n+(r.length+1):=by unfold mk;refine qz D4 (qz List.length_replicate ?_);rfl
theorem Ci7 {c n k:Nat}(hn:n<=9) (hk:k<=19):(mk c n r).length+k<=r.length+30:=qz Cp3 (S5 (U1 hn hk))
mutual
theorem Cw2 (hk:k<=19):∀ {above most:Nat}{i:It},most<=9->El above most i->Be k (Fw i)<=Dr i
 | above,most,.it n ts sub=>λhm h=>B3 (Ci7 (D2 h.1.2.1 hm) hk) (Af1 hk (is:=sub) (D3 _) h.2.2)
theorem Af1 (hk:k<=19):∀ {above most:Nat}{is:List It},most<=9->cJ above most is->Be k (T1 is)<=An is
 | _,_,[]=>λZ Z=>D3 _
 | above,most,.it n ts sub::is=>λhm h=>by
  show Be k (Fw _++T1 is)<=Dr _+An is
  exact qz (fZ _ _) (B3 (Cw2 hk hm h.1) (Af1 hk (D2 h.1.1.2.1 hm) h.2))
end
theorem Aq7 (hk:k<=19):∀ n,Be k (List.replicate n [])<=19 * n
 | 0=>D3 _
 | n+1=>by
  show 0+k+Be k (List.replicate n [])<=19 * n+19
  exact qz (Nat.zero_add _) (qz (Nat.add_comm _ _) (B3 (Aq7 hk n) hk))
theorem Bo6 (hk:k<=19):∀ rs:List (List T),Be k (rs.map Ab)<=Dd rs:=by
 intro rs
 induction rs with
 | nil=>exact D3 _
 | cons ts rs ih=>exact B3 (A6 (D2 hk (by decide)) _) (ih)
mutual
theorem Cw3:∀ {deep:Nat}{b:Bk},deep<=9->wB deep b->Be (1+2 * deep) (Cq b)<=Co b
 | deep,.gap n=>λhd h=>C8 (Aq7 (A6 (Nat.mul_le_mul_left 2 hd) 1) n)
 | deep,.head n ts=>λhd h=>Ci7 (D2 h.1.2 (by decide)) (A6 (Nat.mul_le_mul_left 2 hd) 1)
 | deep,.list is=>λhd h=>C8 (Af1 (A6 (Nat.mul_le_mul_left 2 hd) 1) (D3 _) h.2.1)
 | deep,.para rs=>λhd h=>C8 (Bo6 (A6 (Nat.mul_le_mul_left 2 hd) 1) rs)
 | deep,.quote bs=>λhd h=>C8 (by
  show Be _ ((Ag bs).map λr=>62::32::r)<=_
  exact qz (Ch5 _) (Af2 (bs:=bs) h.1 h.2.2))
theorem Af2:∀ {deep:Nat}{last:List Nat}{bs:List Bk},deep<=9->aM deep last bs->Be (1+2 * deep) (Ag bs)<=Am bs
 | _,_,[]=>λZ Z=>D3 _
 | deep,last,b::bs=>λhd h=>by
  show Be _ (Cq b++Ag bs)<=Co b+Am bs
  exact qz (fZ _ _) (B3 (Cw3 hd h.1) (Af2 hd h.2.2))
end
theorem Ci0 {c n:Nat}(hc:qU c=true) (h:Sg r):Sg (mk c n r):=λx hx=>by
 rcases C0 hx with hx|hx
 ·exact qz ((List.mem_replicate.mp hx).2) hc
 ·rcases B0 hx with rfl|hx
  ·rfl
  ·exact h x hx
mutual
theorem Dd8:∀ {deep:Nat}{b:Bk},wB deep b->∀ r∈Cq b,Sg r
 | deep,.gap n=>λh=>λr hr=>qz ((List.mem_replicate.mp hr).2) (λc hc=>xL hc)
 | deep,.head n ts=>λh=>λr hr=>qz (B1 hr) (Ci0 rfl h.2.sg)
 | deep,.list is=>λh=>λr hr=>by
  replace hr:r∈T1 is:=hr
  rw [mW] at hr
  obtain ⟨p,hp,rfl⟩:=List.mem_map.mp hr
  exact Ci0 rfl (uC (D3 _) h.2.1 p hp).2.sg
 | deep,.para rs=>λh=>λr hr=>by
  obtain ⟨ts,ht,rfl⟩:=List.mem_map.mp hr
  exact (h.2 ts ht).1.sg
 | deep,.quote bs=>λh=>λr hr=>by
  obtain ⟨q,hq,rfl⟩:=List.mem_map.mp hr
  exact λc hc=>by
   rcases B0 hc with rfl|hc
   ·rfl
   ·rcases B0 hc with rfl|hc
    ·rfl
    ·exact Bd6 (bs:=bs) h.2.2 q hq c hc
theorem Bd6:∀ {deep:Nat}{last:List Nat}{bs:List Bk},aM deep last bs->∀ r∈Ag bs,Sg r
 | _,_,[]=>λZ=>λr hr=>xL hr
 | deep,last,b::bs=>λh=>λr hr=>by
  rcases C0 hr with hr|hr
  ·exact Dd8 h.1 r hr
  ·exact Bd6 h.2.2 r hr
end
theorem Az7:∀ {w:List Nat},(∀ x∈w,x≠c)->splitAt c (w++c::t)=w::splitAt c t:=by
 intro w
 induction w with
 | nil=>exact λZ=>if_pos rfl
 | cons y w ih =>
  exact λh=>by
   show (if y=c then []::splitAt c (w++c::t) else match splitAt c (w++c::t) with | []=>[[y]] | w::r=>(y::w)::r)=_
   exact qz (if_neg (h y (.head _))) (qz (ih λx hx=>h x (.tail _ hx)) rfl)
theorem Ak2:∀ {w:List Nat},(∀ x∈w,x≠c)->splitAt c w=[w]:=by
 intro w
 induction w with
 | nil=>exact λZ=>rfl
 | cons y w ih =>
  exact λh=>by
   show (if y=c then []::splitAt c w else match splitAt c w with | []=>[[y]] | w::r=>(y::w)::r)=_
   exact qz (if_neg (h y (.head _))) (qz (ih λx hx=>h x (.tail _ hx)) rfl)
theorem qE:∀ {rs:List (List Nat)},rs≠[]->(∀ r∈rs,∀ x∈r,x≠c)->splitAt c (Ad [c] rs)=rs
 | [w],_,h=>Ak2 (h w (.head _))
 | w::v::r,_,h=>by
  show splitAt c (w++[c]++Ad [c] (v::r))=_
  exact qz (D5 _ _ _) ((Az7 (h w (.head _))).trans (D0 (w::·) (qE (List.cons_ne_nil v r) λr hr=>h r (.tail _ hr))))
theorem yV:∀ rs:List (List Nat),(Ad [c] rs).length<=Be 1 rs
 | []=>D3 _
 | [w]=>E4 _
 | w::v::r=>by
  show (w++[c]++Ad [c] (v::r)).length<=w.length+1+Be 1 (v::r)
  exact qz D4 (qz D4 (A6 (yV (v::r)) _))
theorem dY:∀ rs:List (List Nat),rs.length<=Be 1 rs:=by
 intro rs
 induction rs with
 | nil=>exact D3 _
 | cons w r ih =>
  show r.length+1<=w.length+1+Be 1 r
  exact qz (Nat.add_comm _ _) (B3 (A7 _ _) (ih))
theorem jD:∀ {rs:List (List Nat)},∀ r∈rs,r.length<=Be 1 rs
 | w::rs,r,h=>by
  rcases B0 h with rfl|h
  ·exact D2 (E4 _) (E1 _ _)
  ·exact D2 (jD r h) (A7 _ _)
theorem Bo7 (h:k<=j):∀ rs:List (List Nat),Be k rs<=Be j rs:=by
 intro rs
 induction rs with
 | nil=>exact D3 _
 | cons r rs ih=>exact B3 (A6 h _) (ih)
structure RwD (bs:List Bk):Prop where
 back:rdF 9 (splitAt 10 (Ad [10] (Ag bs)))=bs
 sg:∀ r∈splitAt 10 (Ad [10] (Ag bs)),∀ c∈r,qU c=true
 len:(Ad [10] (Ag bs)).length<=15500000
 Be:Be 1 (Ag bs)<=15500000
theorem Cc2 (h:aM 0 [] bs) (f6:bs≠[]) (hs:Am bs<=15500000):RwD bs:=by
 have hb:=Cc7 (d:=9) rfl h
 have hsg:=Bd6 h
 have hr:Ag bs≠[]:=λq=>by
  rw [q] at hb
  exact f6 hb.symm
 have e:splitAt 10 (Ad [10] (Ag bs))=Ag bs:=qE hr λr hr x hx q=>by
  have:=hsg r hr x hx
  rw [q] at this
  cases this
 have ht:=D2 (Af2 (D8 _) h) hs
 exact ⟨by refine qz e ?_;exact hb,by refine qz e ?_;exact hsg,D2 (yV _) ht,ht⟩
structure OS (H:Heap) (rs:List (List Nat)) (c:Nat) (G:Heap):Prop where
 gr:K3 H G
 new:H.length<=c
 get:G[c]? = some (rs.map V.str)
theorem wR {rs:List (List Nat)}(ho:Ev C ρ G o (.ref a)) (he:∀ Q:F8,(∀ c G',OS G rs c G'->Q (.ref c) G')->L0 C e ρ Q G) (ha:G[a]? = some l) (hl:l.length+rs.length<=15800000) (k:∀ G',Up a G G'->G'[a]? = some (l++rs.map V.str)->K1 C ss ρ R G'):K1 C (.expr (.extend o e)::ss) ρ R G:=ho _ (he _ λc G' h=>by
 have hlt:=M3 ha
 show Cy ((G'[a]?).bind λl=>(G'[c]?).bind λr=>if a≠c/\l.length+r.length<=P0 then some (G'.set a (l++r)) else none) _
 refine qz (h.gr.get ha) (qz h.get ?_)
 show Cy (if a≠c/\l.length+(rs.map V.str).length<=P0 then some (G'.set a (l++rs.map V.str)) else none) _
 exact qz (if_pos ⟨D1 (D6 hlt h.new),by rw [E3];exact D2 hl wM⟩) (k _ ((Up.grow h.gr).trans .set) (B9 (D6 hlt h.gr.len))))
theorem Ci2 (ho:Ev C ρ G o (.ref a)) (he:Ev C ρ G e (.str w)) (ha:G[a]? = some l) (hl:l.length+1<=15800000) (k:∀ G',Up a G G'->G'[a]? = some (l++[V.str w])->K1 C ss ρ R G'):K1 C (.expr (.append o e)::ss) ρ R G :=
 N3 ho he ha (wC (Nat.le_of_succ_le hl)) (k _ .set (B9 (M3 ha)))
theorem Bi0 {n a lo hi c k:Nat}(hk:k<=9) (h1:Ev (Ac P (n+13)) ρ G e1 (.int (k:Nat))) (h2:Ev (Ac P (n+13)) ρ G e2 (.ref a)) (hg:eV 0 ts) (hr:N8 G (.lst (M0 ts)) lo hi (.ref a)) (hl:(mk c k (Ab ts)).length<=15800000):Ev (Ac P (n+13)) ρ G (.bin .add (.bin .add (.bin .mul (.str [c]) e1) (.str [32])) (.call "_law_row" [e2])) (.str (mk c k (Ab ts))):=by
 rw [<- wV] at hl ⊢
 exact X4 (uZ hk h1) (K4 (I8 h2 Q7) λQ q=>uV 12 0 n rfl ts a lo hi G Q hg hr (suf hl) q) hl
theorem fY (u:Up H.length (H++[l]) G):K3 H G:=⟨D2 K3.one.1 u.len,λx h0 hx=>(u.eq x (D1 hx) (D6 hx K3.one.1)).trans (K3.one.2 x h0 hx)⟩
noncomputable def LU (m n:Nat):Prop:=∀ (is:List It) (a lo hi:Nat) (H:Heap) (Q:F8),Br is<=m->GIs is->N8 H (.lst (X9 is)) lo hi (.ref a)->hi<=H.length->Be 1 (T1 is)<=15800000->(∀ c G,OS H (T1 is) c G->Q (.ref c) G)->Ac P n "_law_under" [.ref a] Q H
theorem qD {m n:Nat}(ih:∀ m',m=m'+1->LU m' (n+13)):LU m (n+14):=by
 intro is a lo hi H Q hd hg hr hh ht hQ
 apply Ah;intro g9 k9
 obtain ⟨a',l,p,q,e,hb,ha,Bc⟩:=hr
 apply k9
 cases e
 have Fz:q<=H.length:=D2 hb.qh hh
 refine E9 rfl rfl (P5 (H1:=H++[[]]) (v:=.ref H.length) iq (M7 (Y9 (σ:=Option V) (λz=>[some (.ref a),some (.ref H.length),z]) (λk z G=>Up H.length (H++[[]]) G/\G[H.length]? = some ((T1 (is.take k)).map V.str)) (l:=l) (λk z G hI=>hI.1.get (D1 (M3 ha)) (P9 ha)) (λk z G v hv hI K hK=>?_) (λz G hI=>?_) none iq ⟨.refl,K6⟩)))
 ·apply Ah;intro g9 k9
  obtain ⟨i,hi1,Dz⟩:=Cl3 Bc hv
  have hdk:=D2 (nC hi1) hd
  have hgi:=hg.get hi1
  obtain ⟨e1,e2⟩:=Ar5 hi1
  obtain ⟨c,ts,sub⟩:=i
  obtain ⟨m',rfl⟩:=hZ hdk
  have Dp:q<=G.length:=D2 Fz (fY hI.1).len
  obtain ⟨a1,b1,rfl,Ay,hrb⟩:=jB (Dz.grow (fY hI.1) Fz)
  apply k9
  have et:Be 1 (T1 is)=Be 1 (T1 (is.take k))+((mk 45 c (Ab ts)).length+1+Be 1 (T1 sub)+Be 1 (T1 (is.drop (k+1)))):=by
   refine qz e2 (qz (fZ _ _) (qz (fZ _ _) ?_));rfl
  rw [et] at ht
  have h1:=dY (T1 (is.take k))
  have h2:=dY (T1 sub)
  have hM:=D2 (E1 _ _) (D2 (A7 _ _) ht)
  clear et e2
  refine Ci2 (by exact iq) (Bi0 (n:=n) hgi.1 (by exact iq) (by exact iq) hgi.2.1 Ay (D2 (E4 _) (D2 (E1 _ _) hM))) hI.2 (qz (E3 _) (D2 (B3 h1 (D2 (A7 1 _) (D2 (E1 _ _) (E1 _ _)))) ht)) λG1 u1 g1=>?_
  have hqG1:q<=G1.length:=D2 Dp u1.len
  refine wR (rs:=T1 sub) (by exact iq) (λQ' q'=>P7 (K5 (v:=.ref b1) (by exact iq) (K8 (ih m' rfl sub b1 p q G1 Q' (Nat.le_of_succ_le_succ hdk) hgi.2.2 (hrb.to (u1.eqv Fz Dp)) hqG1 (D2 (A7 _ _) hM) q')))) g1 (qz D4 (qz (E3 _) (qz (C2 _ _ _) (D2 (B3 h1 (D2 (B3 (A7 1 _) h2) (E1 _ _))) ht)))) λG2 u2 g2=>hK _ _ ⟨(hI.1.trans u1).trans u2,?_⟩
  refine qz e1 (qz C3 ?_)
  rw [D5] at g2
  exact g2
 ·have:=Bc.len
  rw [dF] at this
  rw [this,List.take_length] at hI
  exact O0 (by exact iq) (hQ _ _ ⟨fY hI.1,D3 _,hI.2⟩)
theorem Bo2:∀ (m n:Nat),LU m (n+m+14):=by
 intro m
 induction m with
 | zero=>exact λn=>qD λm' q=>xZ q
 | succ m ih=>exact λn=>qD (n:=n+m+1) λm' q=>by cases q;exact ih n
theorem Cr0 (hk:k<=15800000) (he:∀ l,Ev C ρ (H++[l]) e (.int (k:Nat))) (h:∀ c G,OS H (List.replicate k []) c G->Q (.ref c) G):L0 C (.bin .mul (.list [.str []]) e) ρ Q H:=by
 refine cQ (aJ (K5 S7 (K8 (he _ _ ?_))))
 show res (((H++[[V.str []]])[H.length]?).bind λl=>if l.length * ((k:Nat):Int).toNat<=P0/\-4611686018427387904<((k:Nat):Int)/\((k:Nat):Int)<4611686018427387904 then some (.ref (H++[[V.str []]]).length,(H++[[V.str []]])++[(List.replicate ((k:Nat):Int).toNat l).flatten]) else none) Q
 refine qz K6 ?_
 show res (if 1 * k<=P0/\-4611686018427387904<((k:Nat):Int)/\((k:Nat):Int)<4611686018427387904 then some (.ref (H++[[V.str []]]).length,(H++[[V.str []]])++[(List.replicate k [V.str []]).flatten]) else none) Q
 refine qz (if_pos ⟨by rw [Nat.one_mul];exact D2 hk wM,Int.lt_of_lt_of_le (by decide) (C6 k),Int.lt_of_le_of_lt (Int.ofNat_le.mpr hk) (by decide)⟩) (qz List.flatten_replicate_singleton ?_)
 exact h _ _ ⟨eN,by refine qz R6 ?_;exact E4 _,qz List.map_replicate K6⟩
noncomputable def LRw (d n:Nat):Prop:=∀ (bs:List Bk) (a lo hi:Nat) (H:Heap) (Q:F8),GBs d bs->N8 H (.lst (O9 bs)) lo hi (.ref a)->hi<=H.length->Be 1 (Ag bs)<=15800000->(∀ c G,OS H (Ag bs) c G->Q (.ref c) G)->Ac P n "_law_rows" [.ref a] Q H
noncomputable def Co8 (v:V):V:=match v with
 | .str r=>.str (62::32::r)
 | _=>.none
theorem Ba2 {n d a b lo hi:Nat}(ih:LRw d n) (he:Ev (Ac P n) ρ H e (.ref b)) (hv:∀ v,(ρ.set 3 (some v))[3]? = some (some v)) (hg:GBs d bs) (hr:N8 H (.lst (O9 bs)) lo hi (.ref b)) (hh:hi<=H.length) (ht:Be 1 ((Ag bs).map λr=>62::32::r)<=15800000) (h:∀ c G,OS H ((Ag bs).map λr=>62::32::r) c G->Q (.ref c) G):L0 (Ac P n) (.comp (.bin .add (.str [62,32]) J3) 3 (.call "_law_rows" [e])) ρ Q H:=by
 have h1:Be 1 (Ag bs)<=Be 1 ((Ag bs).map λr=>62::32::r):=by
  exact qz (Ch5 _) (Bo7 (by decide) _)
 have key:∀ c G,OS H (Ag bs) c G->∃ m,bS (L0 (Ac P n) (.bin .add (.str [62,32]) J3)) 3 ρ (.lst c) m 0 [] (λvs Hz=>Q (.ref Hz.length) (Hz++[vs])) G:=λc G o=>by
  refine yB ((Ag bs).map V.str) Co8 (Ag7 o.get) (qz (E3 _) (D2 (dY _) (D2 h1 (D2 ht wM)))) (λv hm K hK=>?_) ?_
  ·obtain ⟨r,hr',rfl⟩:=List.mem_map.mp hm
   exact X4 (a:=[62,32]) (b:=r) S7 (iL (hv _)) (D2 (jD (62::32::r) (List.mem_map.mpr ⟨r,hr',rfl⟩)) ht) K hK
  ·refine h _ _ ⟨o.gr.trans .one,o.gr.len,?_⟩
   exact qz List.map_map (qz List.map_map K6)
 exact P7 (Q:=λv Hw=>match cP v with | some it=>∃ n',bS (L0 (Ac P n) (.bin .add (.str [62,32]) J3)) 3 ρ it n' 0 [] (λvs Hz=>Q (.ref Hz.length) (Hz++[vs])) Hw | none=>False) (K5 he (K8 (ih bs b lo hi H _ hg hr hh (D2 h1 ht) key)))
theorem Bq3 {n b lo hi:Nat}{rs:List (List T)}(he:Ev (Ac P (n+13)) ρ H e (.ref b)) (hv:∀ v,(ρ.set 4 (some v))[4]? = some (some v)) (hg:∀ ts∈rs,eV 0 ts) (hr:N8 H (.lst (qW rs)) lo hi (.ref b)) (ht:Be 1 (rs.map Ab)<=15800000) (h:∀ c G,OS H (rs.map Ab) c G->Q (.ref c) G):L0 (Ac P (n+13)) (.comp (.call "_law_row" [J4]) 4 e) ρ Q H:=by
 obtain ⟨b',l,p,q,e',hb,ha,Bc⟩:=hr
 cases e'
 have b7:=Bc.len
 rw [jF] at b7
 have hl1:=dY (rs.map Ab)
 rw [E3] at hl1
 refine tL he (qz b7 (D2 hl1 (D2 ht wM))) (λi d5 G=>G=H/\d5=((rs.take i).map Ab).map V.str) (λi d5 G hI=>hI.1▸ha) (λi d5 G v hv' Z hI K hK=>?_) ⟨rfl,rfl⟩ Q λd5 G Z hI=>?_
 ·obtain ⟨rfl,rfl⟩:=hI
  obtain ⟨ts,c,Dy,rfl,Dg⟩:=Bv2 Bc hv'
  have hm:=E5 Dy
  refine K4 (I8 (iL (hv _)) Q7) (λQ q=>uV 12 0 n rfl ts c p _ G Q (hg ts hm) Dg (D2 (jD (Ab ts) (List.mem_map.mpr ⟨ts,hm,rfl⟩)) ht) q) K (hK _ _ ⟨rfl,?_⟩)
  refine qz (Bh1 Dy) (qz C3 ?_);rfl
 ·obtain ⟨rfl,rfl⟩:=hI
  exact qz b7 (qz List.take_length (h _ _ ⟨.one,D3 _,K6⟩))
theorem qH {d n:Nat}(ih:∀ d',d=d'+1->LRw d' (n+23)):LRw d (n+24):=by
 intro bs a lo hi H Q hg hr hh ht hQ
 obtain ⟨a',l,p,q,e,hb,ha,Bc⟩:=hr
 cases e
 have Fz:q<=H.length:=D2 hb.qh hh
 refine E9 rfl rfl (P5 (H1:=H++[[]]) (v:=.ref H.length) iq (M7 (Y9 (σ:=Option V) (λz=>[some (.ref a),some (.ref H.length),z,none,none]) (λk z G=>Up H.length (H++[[]]) G/\G[H.length]? = some ((Ag (bs.take k)).map V.str)) (l:=l) (λk z G hI=>hI.1.get (D1 (M3 ha)) (P9 ha)) (λk z G v hv hI K hK=>?_) (λz G hI=>?_) none iq ⟨.refl,K6⟩)))
 ·obtain ⟨b,hb1,hrb⟩:=Cl4 Bc hv
  have Ed:=hg.get hb1
  obtain ⟨e1,e2⟩:=Ar6 hb1
  have Dp:q<=G.length:=D2 Fz (fY hI.1).len
  replace hrb:=hrb.grow (fY hI.1) Fz
  rw [e2,fZ,fZ] at ht
  have htb:Be 1 (Cq b)<=15800000:=D2 (E1 _ _) (D2 (A7 _ _) ht)
  have n6:((Ag (bs.take k)).map V.str).length+(Cq b).length<=15800000:=by
   exact qz (E3 _) (D2 (B3 (dY _) (D2 (dY _) (E1 _ _))) ht)
  have fin:∀ {G'},Up H.length G G'->G'[H.length]? = some ((Ag (bs.take k)).map V.str++(Cq b).map V.str)->K [some (.ref a),some (.ref H.length),some v,none,none] G':=λu g=>hK (some v) _ ⟨hI.1.trans u,qz e1 (qz C3 g)⟩
  clear e1 e2 ht hK
  have hm:=hI.2
  cases b with
  | gap k' =>
   rw [oP hrb] at fin ⊢
   have hlk:=n6
   rw [show (Cq (.gap k')).length=k' from List.length_replicate] at hlk
   exact H7 iq (wR (rs:=Cq (.gap k')) (by exact iq) (λQ' q'=>Cr0 (D2 (A7 _ _) hlk) (λl=>by exact iq) q') hm n6 λG' u g=>fin u g)
  | head k' ts =>
   obtain ⟨c,rfl,Dg⟩:=jC hrb
   exact G8 iq (H7 iq (Ci2 (w:=mk 35 k' (Ab ts)) (by exact iq) (Bi0 (n:=n+10) Ed.1 (by exact iq) (by exact iq) Ed.2 Dg (D2 (jD _ (.head _)) htb)) hm n6 λG' u g=>fin u g))
  | list is =>
   obtain ⟨c,rfl,Dg⟩:=W8 hrb
   exact G8 iq (G8 iq (H7 iq (wR (rs:=T1 is) (by exact iq) (λQ' q'=>P7 (K5 (v:=.ref c) (by exact iq) (K8 (Bo2 9 n is c p q G Q' Ed.2 Ed.1 Dg Dp htb q')))) hm n6 λG' u g=>fin u g)))
  | quote bs' =>
   obtain ⟨c,rfl,Dg⟩:=W8 hrb
   obtain ⟨d',rfl,Ed⟩:=Ed
   exact G8 iq (G8 iq (G8 iq (H7 iq (wR (rs:=Cq (.quote bs')) (by exact iq) (λQ' q'=>Ba2 (a:=0) (ih d' rfl) (by exact iq) (λZ=>rfl) Ed Dg Dp htb q') hm n6 λG' u g=>fin u g))))
  | para rs =>
   obtain ⟨c,rfl,Dg⟩:=W8 hrb
   exact G8 iq (G8 iq (G8 iq (G8 iq (wR (rs:=rs.map Ab) (by exact iq) (λQ' q'=>Bq3 (n:=n+10) (by exact iq) (λZ=>rfl) Ed Dg htb q') hm n6 λG' u g=>fin u g))))
 ·have:=Bc.len
  rw [dG] at this
  rw [this,List.take_length] at hI
  exact O0 (by exact iq) (hQ _ _ ⟨fY hI.1,D3 _,hI.2⟩)
theorem Bq2:∀ (d n:Nat),LRw d (n+d+24):=by
 intro d
 induction d with
 | zero=>exact λn=>qH λd' q=>xZ q
 | succ d ih=>exact λn=>qH (n:=n+d+1) λd' q=>by cases q;exact ih n
section
variable (o w:List Nat)
noncomputable def trG:Option (List Nat)->Option (List Nat)
 | none=>none
 | some s=>some (bif s==o then w else s)
mutual
noncomputable def trT:T->T
 | .Al s=>.Al s
 | .kept s=>.kept s
 | .code s b=>.code s b
 | .span c ts b=>.span c (Z7 ts) b
 | .link ts g b=>.link (Z7 ts) (trG o w g) b
noncomputable def Z7:List T->List T
 | []=>[]
 | t::ts=>trT t::Z7 ts
end
mutual
noncomputable def trI:It->It
 | .it n ts sub=>.it n (Z7 o w ts) (kB sub)
noncomputable def kB:List It->List It
 | []=>[]
 | i::is=>trI i::kB is
end
mutual
noncomputable def trB:Bk->Bk
 | .gap n=>.gap n
 | .head n ts=>.head n (Z7 o w ts)
 | .list is=>.list (kB o w is)
 | .para rs=>.para (rs.map (Z7 o w))
 | .quote bs=>.quote (bO bs)
noncomputable def bO:List Bk->List Bk
 | []=>[]
 | b::bs=>trB b::bO bs
end
end
noncomputable def Sim (r r':List Nat):Prop:=r=r'∨∃ p v v',r=p++91::v/\r'=p++91::v'
structure RR (r r':List Nat):Prop where
 sim:Sim r r'
 sg:Sg r->Sg r'
 len:r'.length<=17 * r.length
theorem RR.refl:RR r r:=⟨Or.inl rfl,id,Nat.le_mul_of_pos_left _ (by decide)⟩
theorem RR.app (h:RR a a') (k:RR b b'):RR (a++b) (a'++b'):=by
 refine ⟨?_,λq=>(h.sg q.cut.1).app (k.sg q.cut.2),?_⟩
 ·rcases h.sim with rfl|⟨p,v,v',rfl,rfl⟩
  ·rcases k.sim with rfl|⟨p,v,v',rfl,rfl⟩
   ·exact Or.inl rfl
   ·exact Or.inr ⟨a++p,v,v',(D5 _ _ _).symm,(D5 _ _ _).symm⟩
  ·exact Or.inr ⟨p,v++b,v'++b',D5 _ _ _,D5 _ _ _⟩
 ·exact qz D4 (qz D4 (qz (Nat.mul_add _ _ _) (B3 h.len k.len)))
theorem RR.mark (h:RR a a'):RR (91::a) (91::a'):=⟨Or.inr ⟨[],a,a',rfl,rfl⟩,(RR.app (a:=[91]) .refl h).sg,(RR.app (a:=[91]) .refl h).len⟩
structure Tg (w:List Nat):Prop where
 sg:Sg w
 no:∀ c∈w,c≠41
 len:w.length<=48
theorem Dd9 (hw:Tg w) (h:RR a a'):RR ([91]++a++[93,40]++s++c) ([91]++a'++[93,40]++(bif s==o then w else s)++c):=by
 have hm:RR ([91]++a++[93,40]) ([91]++a'++[93,40]):=h.mark.app .refl
 cases s==o with
 | false=>exact (hm.app .refl).app .refl
 | true =>
  refine ⟨Or.inr ⟨[],_,_,rfl,rfl⟩,λq=>((hm.sg q.cut.1.cut.1).app hw.sg).app q.cut.2,?_⟩
  have h1:=h.len
  have h2:=hw.len
  show ([91]++a'++[93,40]++w++c).length<=_
  refine qz D4 (qz D4 (qz D4 (qz D4 (qz D4 (qz D4 (qz D4 (qz D4 ?_)))))))
  show 1+a'.length+2+w.length+c.length<=17 * (1+a.length+2+s.length+c.length)
  exact S5 (U1 h1 h2)
mutual
theorem De0 (hw:Tg w):∀ t:T,RR (Aj t) (Aj (trT o w t))
 | .Al _=>.refl
 | .kept _=>.refl
 | .code _ _=>.refl
 | .span c ts b=>(RR.app .refl (nY hw ts)).app .refl
 | .link ts none b=>(nY hw ts).mark.app .refl
 | .link ts (some s) b=>Dd9 hw (nY hw ts)
theorem nY (hw:Tg w):∀ ts:List T,RR (Ab ts) (Ab (Z7 o w ts))
 | []=>.refl
 | t::ts=>(De0 hw t).app (nY hw ts)
end
theorem Ar7 (hc:91≠c):∀ p:List Nat,Ak c (p++91::v)=Ak c (p++91::v')/\((p++91::v).drop (Ak c (p++91::v))).take 1=((p++91::v').drop (Ak c (p++91::v'))).take 1
 | []=>by
  have e:∀ u,Ak c (91::u)=0:=λu=>if_neg hc
  show Ak c (91::v)=Ak c (91::v')/\((91::v).drop (Ak c (91::v))).take 1=((91::v').drop (Ak c (91::v'))).take 1
  rw [e,e];exact ⟨rfl,rfl⟩
 | x::p=>by
  have ih:=Ar7 hc (v:=v) (v':=v') p
  show Ak c (x::(p++91::v))=Ak c (x::(p++91::v'))/\((x::(p++91::v)).drop (Ak c (x::(p++91::v)))).take 1=((x::(p++91::v')).drop (Ak c (x::(p++91::v')))).take 1
  by_cases hx:x=c
  ·have e:∀ u,Ak c (x::u)=Ak c u+1:=λu=>if_pos hx
   rw [e,e]
   exact ⟨D0 (· + 1) ih.1,ih.2⟩
  ·have e:∀ u,Ak c (x::u)=0:=λu=>if_neg hx
   rw [e,e];exact ⟨rfl,rfl⟩
theorem sV (hc:91≠c):Av c m (p++91::v)=Av c m (p++91::v'):=by
 have h:=Ar7 hc (v:=v) (v':=v') p
 unfold Av
 exact qz h.2 (qz h.1 rfl)
theorem Ce7 {deep:Nat}:∀ p:List Nat,isQ deep (p++91::v)=isQ deep (p++91::v')
 | []=>by cases v<;>cases v'<;>rfl
 | [x]=>rfl
 | x::y::p=>rfl
theorem Cc0 {deep:Nat}(h:Sim r r') (hk:(Au deep r).1=4):(Au deep r').1=4:=by
 rcases h with rfl|⟨p,v,v',rfl,rfl⟩
 ·exact hk
 ·refine Cl0 (by cases p<;>rfl) ?_ ?_ ?_
  all_goals
   rcases gI deep (p++91::v) with ⟨_,q⟩|⟨_,⟨_,q⟩|⟨q1,⟨_,q⟩|⟨q2,⟨_,q⟩|⟨q3,_⟩⟩⟩⟩
   ·rw [q] at hk;cases hk
   ·rw [q] at hk;cases hk
   ·rw [q] at hk;cases hk
   ·rw [q] at hk;cases hk
  ·exact qz q1.symm (Ce7 p)
  ·exact qz q2.symm (sV (by decide))
  ·exact qz q3.symm (sV (by decide))
section
variable {o w:List Nat}
theorem U9:∀ ts us:List T,Z7 o w (ts++us)=Z7 o w ts++Z7 o w us:=by
 intro ts
 induction ts with
 | nil=>exact λus=>rfl
 | cons t ts ih=>exact λus=>D0 (trT o w t::·) (ih us)
theorem As7 (h:Z7 o w ts=us++[u]):∃ vs t,ts=vs++[t]/\trT o w t=u:=by
 rcases List.eq_nil_or_concat ts with rfl|⟨vs,t,rfl⟩
 ·cases us<;>cases h
 ·rw [List.concat_eq_append] at h ⊢
  rw [U9] at h
  exact ⟨vs,t,rfl,List.head_eq_of_cons_eq (List.append_inj' h rfl).2⟩
theorem eO.tr (h:eO ts):eO (Z7 o w ts):=λus s e=>by
 obtain ⟨vs,t,rfl,e2⟩:=As7 e
 cases t with
 | Al s=>exact h vs s rfl
 | _=>cases e2
theorem bF.of_tr (h:bF (Z7 o w ts)):bF ts:=by
 obtain ⟨us,vs,e⟩:=h
 obtain ⟨vs,t,rfl,e2⟩:=As7 e
 cases t with
 | link us g b =>
  cases g with
  | none=>cases e2;exact ⟨vs,us,rfl⟩
  | some s=>cases e2
 | _=>cases e2
theorem Ci5 (hw:Tg w) (h:∀ s,g=some s->∀ c∈s,c≠41):∀ s,trG o w g=some s->∀ c∈s,c≠41:=λs e=>by
 cases g with
 | none=>cases e
 | some s0 =>
  cases e
  cases s0==o with
  | true=>exact hw.no
  | false=>exact h s0 rfl
theorem R7.tr (hw:Tg w) {deep:Nat}(h:R7 deep kd ts):R7 deep kd (Z7 o w ts):=by
 induction h with
 | nil=>exact .nil
 | Al _ hn hp hb ih=>exact qz (U9 _ _) (.Al ih hn.tr hp λq=>hb q.of_tr)
 | kept _ ih=>exact qz (U9 _ _) (.kept ih)
 | code _ hs ih=>exact qz (U9 _ _) (.code ih hs)
 | span _ hd hc _ n9 ih2=>exact qz (U9 _ _) (.span n9 hd hc ih2)
 | link _ hd hg _ n9 ih2=>exact qz (U9 _ _) (.link n9 hd (Ci5 hw hg) ih2)
theorem jY.tr (hw:Tg w) {deep:Nat}(h:jY deep kd ts):jY deep kd (Z7 o w ts):=by
 induction h with
 | good hg=>exact .good (hg.tr hw)
 | kept hg=>exact qz (U9 _ _) (.kept (hg.tr hw))
 | code hg hs=>exact qz (U9 _ _) (.code (hg.tr hw) hs)
 | span hg hd hc _ ih=>exact qz (U9 _ _) (.span (hg.tr hw) hd hc ih)
 | bare hg hd _ ih=>exact qz (U9 _ _) (.bare (hg.tr hw) hd ih)
 | @link _ _ _ _ g hg hd hs hu=>exact qz (U9 _ _) (.link (hg.tr hw) hd (Ci5 (g:=some g) hw (λs e=>by cases e;exact hs) _ rfl) (hu.tr hw))
theorem uA (hw:Tg w) (ts:List T):(Ab (Z7 o w ts)).length+30<=17 * ((Ab ts).length+30):=by
 have:=(nY (o:=o) hw ts).len
 exact S5 this
theorem Ct.tr (hw:Tg w) (h:Ct ts) (hl:(Ab ts).length+30<=900000):Ct (Z7 o w ts):=⟨h.op.tr hw,(nY hw ts).sg h.sg,D2 (E1 _ 30) (D2 (uA hw ts) (D2 (Nat.mul_le_mul_left 17 hl) (by decide)))⟩
mutual
theorem Cz1:∀ i:It,dI (trI o w i)=dI i
 | .it n ts sub=>D0 (· + 1) (Ag3 sub)
theorem Ag3:∀ is:List It,Br (kB o w is)=Br is
 | []=>rfl
 | i::is=>by show max (dI (trI o w i)) (Br (kB o w is))=_;refine qz (Cz1 i) (qz (Ag3 is) ?_);rfl
end
mutual
theorem Dd5 (hw:Tg w):∀ i:It,Dr (trI o w i)<=17 * Dr i
 | .it n ts sub=>by
  show (Ab (Z7 o w ts)).length+30+An (kB o w sub)<=17 * ((Ab ts).length+30+An sub)
  exact qz (Nat.mul_add _ _ _) (B3 (uA hw ts) (Bd3 hw sub))
theorem Bd3 (hw:Tg w):∀ is:List It,An (kB o w is)<=17 * An is
 | []=>D3 _
 | i::is=>by
  show Dr (trI o w i)+An (kB o w is)<=17 * (Dr i+An is)
  exact qz (Nat.mul_add _ _ _) (B3 (Dd5 hw i) (Bd3 hw is))
end
theorem Dd4 (hw:Tg w):∀ rs:List (List T),Dd (rs.map (Z7 o w))<=17 * Dd rs:=by
 intro rs
 induction rs with
 | nil=>exact D3 _
 | cons ts rs ih =>
  show (Ab (Z7 o w ts)).length+30+Dd (rs.map (Z7 o w))<=17 * ((Ab ts).length+30+Dd rs)
  exact qz (Nat.mul_add _ _ _) (B3 (uA hw ts) (ih))
theorem Bd8 (h:a<=17 * b):a+1<=17 * (b+1):=D2 (B3 h (by decide:1<=17)) (A4 (Nat.mul_add 17 b 1).symm)
mutual
theorem Dd6 (hw:Tg w):∀ b:Bk,Co (trB o w b)<=17 * Co b
 | .gap n=>Nat.le_mul_of_pos_left _ (by decide)
 | .head n ts=>uA hw ts
 | .list is=>Bd8 (Bd3 hw is)
 | .para rs=>Bd8 (Dd4 hw rs)
 | .quote bs=>Bd8 (Bd4 hw bs)
theorem Bd4 (hw:Tg w):∀ bs:List Bk,Am (bO o w bs)<=17 * Am bs
 | []=>D3 _
 | b::bs=>by
  show Co (trB o w b)+Am (bO o w bs)<=17 * (Co b+Am bs)
  exact qz (Nat.mul_add _ _ _) (B3 (Dd6 hw b) (Bd4 hw bs))
end
mutual
theorem Cy7 (hw:Tg w):∀ (i:It) {above most:Nat},El above most i->Dr i<=900000->El above most (trI o w i)
 | .it n ts sub=>λh hs=>⟨h.1,h.2.1.tr hw (D2 (E1 _ _) hs),Af8 hw sub h.2.2 (D2 (A7 _ _) hs)⟩
theorem Af8 (hw:Tg w):∀ (is:List It) {above most:Nat},cJ above most is->An is<=900000->cJ above most (kB o w is)
 | []=>λZ Z=>trivial
 | .it n ts sub::is=>λh hs=>⟨Cy7 hw (.it n ts sub) h.1 (D2 (E1 _ _) hs),Af8 hw is h.2 (D2 (A7 _ _) hs)⟩
end
theorem Cd6:∀ {rs:List (List T)}{ts:List T},ts∈rs->(Ab ts).length+30<=Dd rs:=by
 intro rs
 induction rs with
 | nil=>exact λh=>xL h
 | cons t rs ih =>
  exact λh=>by
   rcases B0 h with rfl|h
   ·exact E1 _ _
   ·exact D2 (ih h) (A7 _ _)
theorem Cx3 (b:Bk):eQ (trB o w b)=eQ b:=by cases b<;>rfl
theorem Cd5 (h:is≠[]):kB o w is≠[]:=by
 cases is with
 | nil=>exact absurd rfl h
 | cons _ _=>exact List.cons_ne_nil _ _
theorem As3 (h:bs≠[]):bO o w bs≠[]:=by
 cases bs with
 | nil=>exact absurd rfl h
 | cons _ _=>exact List.cons_ne_nil _ _
mutual
theorem Cz2 (hw:Tg w):∀ (b:Bk) {deep:Nat},wB deep b->Co b<=900000->wB deep (trB o w b)
 | .gap n=>λh Z=>h
 | .head n ts=>λh hs=>⟨h.1,h.2.tr hw hs⟩
 | .list is=>λh hs=>⟨Cd5 h.1,Af8 hw is h.2.1 (Nat.le_of_succ_le hs),D2 (A4 (Ag3 is)) h.2.2⟩
 | .para rs=>λh hs=>⟨λe=>h.1 (List.map_eq_nil_iff.mp e),λts Dy=>by
   obtain ⟨us,hu,rfl⟩:=List.mem_map.mp Dy
   exact ⟨(h.2 us hu).1.tr hw (D2 (Cd6 hu) (Nat.le_of_succ_le hs)),Cc0 (nY hw us).sim (h.2 us hu).2⟩⟩
 | .quote bs=>λh hs=>⟨h.1,As3 h.2.1,Ag5 hw bs h.2.2 (Nat.le_of_succ_le hs)⟩
theorem Ag5 (hw:Tg w):∀ (bs:List Bk) {deep:Nat}{last:List Nat},aM deep last bs->Am bs<=900000->aM deep last (bO o w bs)
 | []=>λZ Z=>trivial
 | b::bs=>λh hs=>by
  show wB _ (trB o w b)/\(eQ (trB o w b)≠_∨_)/\aM _ (eQ (trB o w b)) (bO o w bs)
  exact qz (Cx3 _) ⟨Cz2 hw b h.1 (D2 (E1 _ _) hs),h.2.1,Ag5 hw bs h.2.2 (D2 (A7 _ _) hs)⟩
end
end
mutual
noncomputable def S6 (H:Heap):X->Nat->Nat->V->Prop
 | .at a,_,_,v=>v=aV a
 | .tup xs,lo,hi,v=>∃ vs,v=.tup vs/\P4 H xs lo hi vs
 | .lst xs,lo,hi,v=>∃ a vs p q,v=.ref a/\Bd lo hi a p q/\(a<p∨q<=a)/\H[a]? = some vs/\P4 H xs p q vs
noncomputable def P4 (H:Heap):List X->Nat->Nat->List V->Prop
 | [],lo,hi,l=>lo<=hi/\l=[]
 | x::xs,lo,hi,l=>∃ v r m,l=v::r/\lo<=m/\S6 H x lo m v/\P4 H xs m hi r
end
mutual
theorem S6.mono:∀ (x:X) {lo hi lo' d7:Nat}{v:V},R1 H G lo hi->lo'<=lo->hi<=d7->S6 H x lo hi v->S6 G x lo' d7 v
 | .at _=>λZ Z Z h=>h
 | .tup xs=>λhf h1 h2 h=>by
  obtain ⟨vs,e,h⟩:=h
  exact ⟨vs,e,P4.mono xs hf h1 h2 h⟩
 | .lst xs=>λhf h1 h2 h=>by
  obtain ⟨a,l,p,q,e,hb,hn,hl,hr⟩:=h
  exact ⟨a,l,p,q,e,hb.mono h1 h2,hn,(hf a hb.la hb.ah).trans hl,P4.mono xs (hf.sub hb.lp hb.qh) (D3 _) (D3 _) hr⟩
theorem P4.mono:∀ (xs:List X) {lo hi lo' d7:Nat}{l:List V},R1 H G lo hi->lo'<=lo->hi<=d7->P4 H xs lo hi l->P4 G xs lo' d7 l
 | []=>λZ h1 h2 h=>⟨D2 h1 (D2 h.1 h2),h.2⟩
 | x::xs=>λhf h1 h2 h=>by
  obtain ⟨v,r,m,e,hm,h3,h4⟩:=h
  have d6:=P4.le xs h4
  exact ⟨v,r,m,e,D2 h1 hm,S6.mono x (hf.sub (D3 _) d6) h1 (D3 _) h3,P4.mono xs (hf.sub hm (D3 _)) (D3 _) h2 h4⟩
theorem P4.le:∀ (xs:List X) {lo hi:Nat}{l:List V},P4 H xs lo hi l->lo<=hi
 | []=>λh=>h.1
 | _::xs=>λh=>by
  obtain ⟨v,r,m,_,h1,_,h2⟩:=h
  exact D2 h1 (P4.le xs h2)
end
mutual
theorem S6.rep:∀ (x:X) {lo hi:Nat}{v:V},S6 H x lo hi v->N8 H x lo hi v
 | .at _=>λh=>h
 | .tup xs=>λh=>by
  obtain ⟨vs,e,h⟩:=h
  exact ⟨vs,e,P4.reps xs h⟩
 | .lst xs=>λh=>by
  obtain ⟨a,l,p,q,e,hb,_,hl,hr⟩:=h
  exact ⟨a,l,p,q,e,hb,hl,P4.reps xs hr⟩
theorem P4.reps:∀ (xs:List X) {lo hi:Nat}{l:List V},P4 H xs lo hi l->M1 H xs lo hi l
 | []=>λh=>h
 | x::xs=>λh=>by
  obtain ⟨v,r,m,e,hm,h1,h2⟩:=h
  exact ⟨v,r,m,e,hm,S6.rep x h1,P4.reps xs h2⟩
end
theorem S6.to {x:X}(h:S6 H x lo hi v) (k:R1 H G lo hi):S6 G x lo hi v:=S6.mono x k (D3 _) (D3 _) h
theorem P4.to (h:P4 H xs lo hi l) (k:R1 H G lo hi):P4 G xs lo hi l:=P4.mono xs k (D3 _) (D3 _) h
theorem P4.add {x:X}(hh:mid<=hi) (hm:S6 H x mid hi v):∀ {xs:List X}{lo:Nat}{l:List V},P4 H xs lo mid l->P4 H (xs++[x]) lo hi (l++[v]):=by
 intro xs
 induction xs with
 | nil =>
  exact λh=>by
   exact qz h.2 ⟨v,[],hi,rfl,D2 h.1 hh,S6.mono x .refl h.1 (D3 _) hm,D3 _,rfl⟩
 | cons y xs ih =>
  exact λh=>by
   obtain ⟨u,r,m,rfl,h1,h2,h3⟩:=h
   exact ⟨u,r++[v],m,rfl,h1,h2,ih h3⟩
theorem P4.atom (h2:P4 H xs lo hi l):P4 H (.at a::xs) lo hi (aV a::l):=⟨aV a,l,lo,rfl,D3 _,rfl,h2⟩
theorem P4.cons {x:X}(h:lo<=m) (h1:S6 H x lo m v) (h2:P4 H xs m hi l):P4 H (x::xs) lo hi (v::l):=⟨v,l,m,rfl,h,h1,h2⟩
theorem aL (ho:Ev C ρ H o (.ref a)) (h:L0 C e ρ (λv Hw=>Cy (W2 (.ref a) v Hw) (λZ Hz=>K1 C ss ρ R Hz)) H):K1 C (.expr (.append o e)::ss) ρ R H:=ho _ h
structure Bl (H:Heap) (ys:List X) (i:Nat) (l:List V) (G:Heap):Prop where
 gr:K3 H G
 get:G[H.length]? = some l
 rep:P4 G (ys.take i) (H.length+1) G.length l
theorem bld {C:Calls}{B:List S}{xs ys:List X}{a lo hi:Nat}{p1 p2:V}{σ:Type}{tl:σ->List (Option V)}{t0:σ}{H:Heap}{Q:F8}(hr:N8 H (.lst xs) lo hi (.ref a)) (hh:hi<=H.length) (hl:xs.length<=W) (hy:ys.length=xs.length)
  (step:∀ (i:Nat) (x y:X) (v:V) (t:σ) (G:Heap) (R:O3),xs[i]? = some x->ys[i]? = some y->N8 G x lo hi v->hi<=G.length->(∀ (v':V) (t':σ) (G':Heap),K3 G G'->S6 G' y G.length G'.length v'->Cy (W2 (.ref H.length) v' G') λZ Hz=>R .next (some (.ref a)::some p1::some p2::some (.ref H.length)::some v::tl t') Hz) ->
   K1 C B (some (.ref a)::some p1::some p2::some (.ref H.length)::some v::tl t) R G)
  (h:∀ G,K3 H G->S6 G (.lst ys) H.length G.length (.ref H.length)->Q (.ref H.length) G):K1 C [.assign 3 (.list []),.forIn 4 J0 B,.ret J3] (some (.ref a)::some p1::some p2::none::none::tl t0) (S1 Q) H:=by
 apply Ah;intro g9 k9
 obtain ⟨a',l,p,q,e,hb,ha,Bc⟩:=hr
 apply k9
 cases e
 have Ck:=Bc.len
 refine P5 (H1:=H++[[]]) (v:=.ref H.length) iq (M7 (Y9 (σ:=Option V×σ) (λz=>some (.ref a)::some p1::some p2::some (.ref H.length)::z.1::tl z.2) (λi z G=>∃ m,Bl H ys i m G) (l:=l) (λi z G hI=>?_) (λi z G v hv hI K hK=>?_) (λz G hI=>?_) (none,t0) iq ⟨[],.one,K6,by refine qz R6 ?_;exact D3 _,rfl⟩))
 ·obtain ⟨m,hI⟩:=hI
  exact hI.gr.get ha
 ·apply Ah;intro g9 k9
  obtain ⟨m,hI⟩:=hI
  obtain ⟨x,hx,Cj⟩:=tE (Bc.to (hI.gr.old.sub (D8 _) (D2 hb.qh hh))) hv
  apply k9
  have hi2:i<ys.length:=qz hy ((A3 hx).1)
  have hgy:ys[i]? = some ys[i]:=A8 hi2
  have hm:m.length<=i:=qz ((P4.reps _ hI.rep).len) (List.length_take_le _ _)
  refine step i x _ v z.2 G _ hx hgy (Cj.wide hb.lp hb.qh) (D2 hh hI.gr.len) λv' t' G' g hv'=>Q4 (g.get hI.get) (D7 hm (D6 hi2 (qz hy (D2 hl (by show 15800000<=16777216;decide))))) (hK (_,t') _ ⟨m++[v'],⟨?_,?_⟩,?_,?_⟩)
  ·exact qz C7 ((hI.gr.trans g).len)
  ·exact (hI.gr.trans g).old.trans (R1.set (Or.inr (D3 _)))
  ·exact B9 (M3 (g.get hI.get))
  ·refine qz List.take_add_one (qz hgy (qz C7 ?_))
   have hlt:=M3 hI.get
   exact ((hI.rep.to (g.old.sub (D8 _) (D3 _))).to (R1.set (Or.inl (D9 _)))).add g.len (hv'.to (R1.set (Or.inl hlt)))
 ·obtain ⟨m,hI⟩:=hI
  have:=hI.rep
  rw [Ck,<- hy,List.take_length] at this
  exact O0 iq (h G hI.gr ⟨H.length,m,_,_,rfl,⟨D3 _,M3 hI.get,E4 _,D3 _⟩,Or.inl (D9 _),hI.get,this⟩)
theorem Cu6 {C:Calls}{B:List S}{α:Type}{f:α->X}{g:α->α}{as:List α}{xs ys:List X}(ex:xs=as.map f) (ey:ys=(as.map g).map f) {a lo hi:Nat}{p1 p2:V}{σ:Type}{tl:σ->List (Option V)}{t0:σ}{H:Heap}{Q:F8}(hr:N8 H (.lst xs) lo hi (.ref a)) (hh:hi<=H.length) (hl:xs.length<=W)
  (step:∀ (x:α) (v:V) (t:σ) (G:Heap) (R:O3),x∈as->N8 G (f x) lo hi v->hi<=G.length->(∀ (v':V) (t':σ) (G':Heap),K3 G G'->S6 G' (f (g x)) G.length G'.length v'->Cy (W2 (.ref H.length) v' G') λZ Hz=>R .next (some (.ref a)::some p1::some p2::some (.ref H.length)::some v::tl t') Hz) ->
   K1 C B (some (.ref a)::some p1::some p2::some (.ref H.length)::some v::tl t) R G)
  (h:∀ G,K3 H G->S6 G (.lst ys) H.length G.length (.ref H.length)->Q (.ref H.length) G):K1 C [.assign 3 (.list []),.forIn 4 J0 B,.ret J3] (some (.ref a)::some p1::some p2::none::none::tl t0) (S1 Q) H:=by
 refine bld (tl:=tl) hr hh hl (by exact qz ey (qz ex (qz (E3 _) (qz (E3 _) (qz (E3 _) rfl))))) (λi x y v t G R hx hy=>?_) h
 rw [ex,E6] at hx
 rw [ey,E6,E6] at hy
 cases ha:as[i]? with
 | none=>rw [ha] at hx;cases hx
 | some b =>
  rw [ha] at hx hy
  cases hx;cases hy
  exact step b v t G R (E5 ha)
section
variable {o w:List Nat}
theorem Bo3:∀ ts:List T,Z7 o w ts=ts.map (trT o w):=by
 intro ts
 induction ts with
 | nil=>exact rfl
 | cons t ts ih=>exact D0 (trT o w t::·) (ih)
theorem Bo4:∀ ts:List It,kB o w ts=ts.map (trI o w):=by
 intro ts
 induction ts with
 | nil=>exact rfl
 | cons t ts ih=>exact D0 (trI o w t::·) (ih)
theorem Bo5:∀ ts:List Bk,bO o w ts=ts.map (trB o w):=by
 intro ts
 induction ts with
 | nil=>exact rfl
 | cons t ts ih=>exact D0 (trB o w t::·) (ih)
noncomputable def TP (o w:List Nat) (f:String) (k n:Nat):Prop:=∀ (ts:List T) (a lo hi:Nat) (H:Heap) (Q:F8),Q2 W (2 * k+1) (.lst (M0 ts))->N8 H (.lst (M0 ts)) lo hi (.ref a)->hi<=H.length->(∀ b G,K3 H G->S6 G (.lst (M0 (Z7 o w ts))) H.length G.length (.ref b)->Q (.ref b) G)->Ac P n f [.ref a,.str o,.str w] Q H
noncomputable def bT (f:String) (L:List S):List S:=[.ite (.or [.Ae J4 .str,.cmp .eq (.idx J4 (.int 0)) (.str [107,101,112,116]),.cmp .eq (.idx J4 (.int 0)) (.str [99,111,100,101])]) [.expr (.append J3 J4)] [.ite (.cmp .eq (.idx J4 (.int 0)) (.str [115,112,97,110])) [.expr (.append J3 (.tup [.str [115,112,97,110],.idx J4 (.int 1),.call f [.idx J4 (.int 2),J1,J2],.idx J4 (.int 3)]))] L]]
noncomputable def Cl7 {σ:Type}(tl:σ->List (Option V)) (o w:List Nat) (f:String) (n:Nat) (L:List S):Prop:=∀ (us:List T) (g:Option (List Nat)) (b:Bool) (a a2 c:Nat) (t:σ) (G:Heap) (R:O3) (K:Nat->Heap->Prop),(∀ Q:F8,(∀ b2 G',K b2 G'->Q (.ref b2) G')->Ac P n f [.ref a2,.str o,.str w] Q G) ->
 (∀ b2 (t':σ) G',K b2 G'->Cy (W2 (.ref c) (X5 b2 (trG o w g) b) G') λZ Hz=>R .next (some (.ref a)::some (.str o)::some (.str w)::some (.ref c)::some (X5 a2 g b)::tl t') Hz)->K1 (Ac P n) L (some (.ref a)::some (.str o)::some (.str w)::some (.ref c)::some (X5 a2 g b)::tl t) R G
theorem mR {f:String}{L:List S}{k n:Nat}{σ:Type}{tl:σ->List (Option V)}{t0:σ}(hL:Cl7 tl o w f n L) (ih:∀ k',k=k'+1->TP o w f k' n) {ts:List T}{a lo hi:Nat}{H:Heap}{Q:F8}(hf:Q2 W (2 * k+1) (.lst (M0 ts))) (hr:N8 H (.lst (M0 ts)) lo hi (.ref a)) (hh:hi<=H.length) (h:∀ b G,K3 H G->S6 G (.lst (M0 (Z7 o w ts))) H.length G.length (.ref b)->Q (.ref b) G) :
  K1 (Ac P n) [.assign 3 (.list []),.forIn 4 J0 (bT f L),.ret J3] (some (.ref a)::some (.str o)::some (.str w)::none::none::tl t0) (S1 Q) H:=by
 refine Cu6 (tl:=tl) (Y6 ts) (by exact qz (Y6 _) (qz (Bo3 _) rfl)) hr hh hf.1 (λx v t G R hx Cj hG hK=>?_) λG g hg=>h _ G g hg
 have hfx:=hf.2 (i0 x) (qz (Y6 _) (List.mem_map_of_mem hx))
 cases x with
 | Al s =>
  rw [show v=.str s from Cj] at hK ⊢
  exact H7 (R5 (b:=true) (b2:=true) iq λq=>xB q) (aL iq (hK _ t G .refl rfl))
 | kept s =>
  rw [cA Cj] at hK ⊢
  exact H7 (R5 (b:=false) (b2:=true) iq λZ=>R5 (b:=true) (b2:=true) iq λq=>xB q) (aL iq (hK _ t G .refl ⟨_,rfl,.atom (a:=.s _) (.atom (a:=.s _) ⟨D3 _,rfl⟩)⟩))
 | code s b =>
  rw [cB Cj] at hK ⊢
  exact H7 (R5 (b:=false) (b2:=true) iq λZ=>R5 (b:=false) (b2:=true) iq λZ=>Z8 iq) (aL iq (hK _ t G .refl ⟨_,rfl,.atom (a:=.s _) (.atom (a:=.s _) (.atom (a:=.b _) ⟨D3 _,rfl⟩))⟩))
 | span c us b =>
  obtain ⟨a2,rfl,Ay⟩:=bY Cj
  obtain ⟨k',e,hfu⟩:∃ k',k=k'+1/\Q2 W (2 * k'+1) (.lst (M0 us)):=by cases k with|zero=>exact hfx.elim|succ k=>exact ⟨k,rfl,hfx.2 _ (.tail _ (.tail _ (.head _)))⟩
  exact G8 (R5 (b:=false) (b2:=false) iq λZ=>R5 (b:=false) (b2:=false) iq λZ=>Z8 iq) (H7 iq (aL iq (T5 (K5 (v:=.str [115,112,97,110]) iq (K5 (v:=.str [c]) iq (R0 (vs:=[.ref a2,.str o,.str w]) iq (ih k' e us a2 lo hi G _ hfu Ay hG λb2 G' g hg=>K5 (v:=.bool b) iq (K8 (hK _ t G' g ⟨_,rfl,.atom (a:=.s _) (.atom (a:=.s _) (.cons g.len hg (.atom (a:=.b _) ⟨D3 _,rfl⟩)))⟩)))))))))
 | link us g b =>
  obtain ⟨a2,rfl,Ay⟩:=bZ Cj
  obtain ⟨k',e,hfu⟩:∃ k',k=k'+1/\Q2 W (2 * k'+1) (.lst (M0 us)):=by cases k with|zero=>exact hfx.elim|succ k=>exact ⟨k,rfl,hfx.2 _ (.tail _ (.head _))⟩
  exact G8 (R5 (b:=false) (b2:=false) iq λZ=>R5 (b:=false) (b2:=false) iq λZ=>Z8 iq) (G8 iq (hL us g b a a2 H.length t G _ (λb2 G'=>K3 G G'/\S6 G' (.lst (M0 (Z7 o w us))) G.length G'.length (.ref b2)) (λQ q=>ih k' e us a2 lo hi G Q hfu Ay hG λb2 G' g hg=>q b2 G' ⟨g,hg⟩) λb2 t' G' q=>hK _ t' G' q.1 ⟨_,rfl,.atom (a:=.s _) (.cons q.1.len q.2 (.atom (a:=gA _) (.atom (a:=.b _) ⟨D3 _,rfl⟩)))⟩))
noncomputable def gB (o:List Nat):Option (List Nat)->Bool
 | none=>false
 | some s=>s==o
theorem Cu5 (he:Ev C ρ H e (aV (gA g))) (hf:Ev C ρ H f (.str o)):Ev C ρ H (.and [.Az e .none,.cmp .eq e f]) (.bool (gB o g)):=by
 cases g with
 | none=>exact K7 (b:=false) (b2:=false) (Ap5 he) λq=>xF q
 | some s=>exact K7 (b:=true) (Ap5 he) λZ=>M9 (H9 he hf aA)
theorem Cu4:trG o w g=if gB o g=true then some w else g:=by
 cases g with
 | none=>rfl
 | some s=>show some (bif s==o then w else s)=if (s==o)=true then some w else some s;cases s==o<;>rfl
noncomputable def ltp:List S:=[.assign 5 (.idx J4 (.int 2)),.ite (.and [.Az J5 .none,.cmp .eq J5 J1]) [.assign 5 J2] [],.expr (.append J3 (.tup [.str [108,105,110,107],.call "turned_parts" [.idx J4 (.int 1),J1,J2],J5,.idx J4 (.int 3)]))]
theorem Ci8 {n:Nat}:Cl7 (λx:Option V=>[x]) o w "turned_parts" n ltp:=by
 intro us g b a a2 c t G R K hC hK
 refine F9 (v:=aV (gA g)) iq ?_
 have fin:∀ g',g'=trG o w g->K1 (Ac P n) [.expr (.append J3 (.tup [.str [108,105,110,107],.call "turned_parts" [.idx J4 (.int 1),J1,J2],J5,.idx J4 (.int 3)]))] [some (.ref a),some (.str o),some (.str w),some (.ref c),some (X5 a2 g b),some (aV (gA g'))] R G:=λg' e=>by
  subst e
  exact aL iq (T5 (K5 (v:=.str [108,105,110,107]) iq (R0 (vs:=[.ref a2,.str o,.str w]) iq (hC _ λb2 G' q=>K5 (v:=aV (gA (trG o w g))) iq (K5 (v:=.bool b) iq (K8 (hK b2 _ G' q)))))))
 have ev:=Cu5 (o:=o) (g:=g) (C:=Ac P n) (ρ:=[some (.ref a),some (.str o),some (.str w),some (.ref c),some (X5 a2 g b),some (aV (gA g))]) (H:=G) (e:=J5) (f:=J1) iq iq
 have et:=Cu4 (o:=o) (w:=w) (g:=g)
 cases hb:gB o g with
 | true =>
  rw [hb] at ev et
  exact H7 ev (F9 (v:=.str w) iq (fin (some w) et.symm))
 | false =>
  rw [hb] at ev et
  exact E8 ev (fin g et.symm)
noncomputable def llt:List S:=[.ite (.and [.Az (.idx J4 (.int 2)) .none,.cmp .eq (.idx J4 (.int 2)) J1]) [.expr (.append J3 (.tup [.str [108,105,110,107],.call "_law_turned" [.idx J4 (.int 1),J1,J2],J2,.idx J4 (.int 3)]))] [.expr (.append J3 (.tup [.str [108,105,110,107],.call "_law_turned" [.idx J4 (.int 1),J1,J2],.idx J4 (.int 2),.idx J4 (.int 3)]))]]
theorem Ci9 {n:Nat}:Cl7 (λ_:Unit=>[]) o w "_law_turned" n llt:=by
 intro us g b a a2 c t G R K hC hK
 have ev:=Cu5 (o:=o) (g:=g) (C:=Ac P n) (ρ:=[some (.ref a),some (.str o),some (.str w),some (.ref c),some (X5 a2 g b)]) (H:=G) (e:=.idx J4 (.int 2)) (f:=J1) iq iq
 have et:=Cu4 (o:=o) (w:=w) (g:=g)
 cases hb:gB o g with
 | true =>
  rw [hb] at ev et
  rw [et] at hK
  exact H7 ev (aL iq (T5 (K5 (v:=.str [108,105,110,107]) iq (R0 (vs:=[.ref a2,.str o,.str w]) iq (hC _ λb2 G' q=>K5 (v:=.str w) iq (K5 (v:=.bool b) iq (K8 (hK b2 () G' q))))))))
 | false =>
  rw [hb] at ev et
  rw [et] at hK
  exact G8 ev (aL iq (T5 (K5 (v:=.str [108,105,110,107]) iq (R0 (vs:=[.ref a2,.str o,.str w]) iq (hC _ λb2 G' q=>K5 (v:=aV (gA g)) iq (K5 (v:=.bool b) iq (K8 (hK b2 () G' q))))))))
theorem An5:∀ (k n:Nat),TP o w "turned_parts" k (n+k+1):=by
 intro k
 induction k with
 | zero=>exact λn ts a lo hi H Q hf hr hh h=>E9 rfl rfl (mR (tl:=λx:Option V=>[x]) (t0:=none) Ci8 (λk' e=>xZ e) hf hr hh h)
 | succ k ih=>exact λn ts a lo hi H Q hf hr hh h=>E9 rfl rfl (mR (tl:=λx:Option V=>[x]) (t0:=none) Ci8 (λk' e=>by cases e;exact ih n) hf hr hh h)
theorem An7:∀ (k n:Nat),TP o w "_law_turned" k (n+k+1):=by
 intro k
 induction k with
 | zero=>exact λn ts a lo hi H Q hf hr hh h=>E9 rfl rfl (mR (tl:=λ_:Unit=>[]) (t0:=()) Ci9 (λk' e=>xZ e) hf hr hh h)
 | succ k ih=>exact λn ts a lo hi H Q hf hr hh h=>E9 rfl rfl (mR (tl:=λ_:Unit=>[]) (t0:=()) Ci9 (λk' e=>by cases e;exact ih n) hf hr hh h)
end
theorem Cu7 {α:Type}{f:α->X}{g:α->α}{as:List α}{xs ys:List X}(ex:xs=as.map f) (ey:ys=(as.map g).map f) {C:Calls}{i6 e:E}{x a lo hi:Nat}{ρ:M6}{H:Heap}(he:Ev C ρ H e (.ref a)) (hr:N8 H (.lst xs) lo hi (.ref a)) (hh:hi<=H.length) (hl:xs.length<=W)
  (step:∀ (b:α) (v:V) (G:Heap) (K:F8),b∈as->N8 G (f b) lo hi v->hi<=G.length->(∀ v' G',K3 G G'->S6 G' (f (g b)) G.length G'.length v'->K v' G')->L0 C i6 (ρ.set x (some v)) K G)
  (Q:F8) (h:∀ b G,K3 H G->S6 G (.lst ys) H.length G.length (.ref b)->Q (.ref b) G):L0 C (.comp i6 x e) ρ Q H:=by
 apply Ah;intro g9 k9
 obtain ⟨a',l,p,q,e9,hb,ha,Bc⟩:=hr
 apply k9
 cases e9
 have Ck:=Bc.len
 have hyl:ys.length=xs.length:=qz ey (qz ex (qz (E3 _) (qz (E3 _) (qz (E3 _) rfl))))
 refine tL he (qz Ck (D2 hl (by show 15800000<=16777216;decide))) (λi d5 G=>K3 H G/\P4 G (ys.take i) H.length G.length d5) (λi d5 G hI=>hI.1.get ha) (λi d5 G v hv Z hI K hK=>?_) ⟨.refl,D3 _,rfl⟩ Q λd5 G Z hI=>?_
 ·obtain ⟨b,hbi,hrb⟩:=Av0 ex (Bc.to (hI.1.old.sub (D8 _) (D2 hb.qh hh))) hv
  refine step b v G K (E5 hbi) (hrb.wide hb.lp hb.qh) (D2 hh hI.1.len) λv' G' g hg=>hK v' G' ⟨hI.1.trans g,?_⟩
  exact qz List.take_add_one (qz (show ys[i]? = some (f (_)) by rw [ey,E6,E6,hbi];rfl) ((hI.2.to (g.old.sub (D8 _) (D3 _))).add g.len hg))
 ·have:=hI.2
  rw [Ck,<- hyl,List.take_length] at this
  refine h _ _ (hI.1.trans .one) ⟨G.length,d5,H.length,G.length,rfl,⟨hI.1.len,by refine qz R6 ?_;exact D9 _,D3 _,qz R6 (E4 _)⟩,Or.inr (D3 _),K6,this.to (.one (D3 _))⟩
section
variable {o w:List Nat}
noncomputable def TIt (o w:List Nat) (f:String) (k n:Nat):Prop:=∀ (is:List It) (above most m a lo hi:Nat) (H:Heap) (Q:F8),Br is<=k->cJ above most is->Q2 W m (.lst (X9 is))->N8 H (.lst (X9 is)) lo hi (.ref a)->hi<=H.length->(∀ b G,K3 H G->S6 G (.lst (X9 (kB o w is))) H.length G.length (.ref b)->Q (.ref b) G)->Ac P n f [.ref a,.str o,.str w] Q H
theorem At2:∀ {is:List It}{above most:Nat}{n:Nat}{ts:List T}{sub:List It},cJ above most is->It.it n ts sub∈is->Ct ts/\cJ n 9 sub/\Br sub+1<=Br is:=by
 intro is
 induction is with
 | nil=>exact λZ h=>xL h
 | cons i is ih =>
  exact λh hm=>by
   rcases B0 hm with rfl|hm
   ·exact ⟨h.1.2.1,h.1.2.2,Nat.le_max_left _ _⟩
   ·have:=ih h.2 hm
    exact ⟨this.1,this.2.1,D2 this.2.2 (Nat.le_max_right _ _)⟩
theorem mS {k n:Nat}(hp:TP o w fp 13 n) (ih:∀ k',k=k'+1->TIt o w fi k' n) (hd:Br is<=k) (Cv:cJ above most is) (hf:Q2 W m (.lst (X9 is))) (hr:N8 H (.lst (X9 is)) lo hi (.ref a)) (hh:hi<=H.length) (h:∀ b G,K3 H G->S6 G (.lst (X9 (kB o w is))) H.length G.length (.ref b)->Q (.ref b) G) :
  K1 (Ac P n) [.ret (.comp (.tup [.idx J3 (.int 0),.call fp [.idx J3 (.int 1),J1,J2],.call fi [.idx J3 (.int 2),J1,J2]]) 3 J0)] [some (.ref a),some (.str o),some (.str w),none] (S1 Q) H:=by
 cases m with
 | zero=>exact hf.elim
 | succ m =>
  refine aH (Cu7 (dE is) (by exact qz (dE _) (qz (Bo4 _) rfl)) (by exact iq) hr hh hf.1 (λi v G K hi9 hrv hG hK=>?_) _ λb G g hg=>h b G g hg)
  cases i with
  | it j ts sub =>
   apply Ah;intro g9 k9
   obtain ⟨h1,h2,h3⟩:=At2 Cv hi9
   obtain ⟨b1,b2,rfl,hr1,hr2⟩:=jB hrv
   have hfi:=hf.2 (Fy (.it j ts sub)) (qz (dE _) (List.mem_map_of_mem hi9))
   obtain ⟨k',rfl⟩:=hZ (D2 (A7 1 _) (D2 h3 hd))
   apply k9
   cases m with
   | zero=>exact hfi.elim
   | succ m =>
    refine T5 (K5 (v:=.int (j:Nat)) iq (R0 (vs:=[.ref b1,.str o,.str w]) iq (hp ts b1 _ _ G _ (h1.fit.up (D3 _) (by decide)) hr1 hG λc1 G1 g1 hc1=>R0 (vs:=[.ref b2,.str o,.str w]) iq (ih k' rfl sub j 9 m b2 _ _ G1 _ (Nat.le_of_succ_le_succ (D2 h3 hd)) h2 (hfi.2 _ (.tail _ (.tail _ (.head _)))) (hr2.grow g1 hG) (D2 hG g1.len) λc2 G2 g2 hc2=>K8 (hK _ G2 (g1.trans g2) ⟨_,rfl,.atom (a:=.i _) (.cons g1.len (hc1.to (g2.old.sub (D8 _) (D3 _))) (.cons g2.len hc2 ⟨D3 _,rfl⟩))⟩)))))
theorem Ch7:∀ (k n:Nat),TIt o w "turned_items" k (n+k+15):=by
 intro k
 induction k with
 | zero=>exact λn is above most m a lo hi H Q hd Cv hf hr hh h=>E9 rfl rfl (mS (An5 13 n) (λk' e=>xZ e) hd Cv hf hr hh h)
 | succ k ih=>exact λn is above most m a lo hi H Q hd Cv hf hr hh h=>E9 rfl rfl (mS (An5 13 (n+k+1)) (λk' e=>by cases e;exact ih n) hd Cv hf hr hh h)
theorem Cj0:∀ (k n:Nat),TIt o w "_law_items" k (n+k+15):=by
 intro k
 induction k with
 | zero=>exact λn is above most m a lo hi H Q hd Cv hf hr hh h=>E9 rfl rfl (mS (An7 13 n) (λk' e=>xZ e) hd Cv hf hr hh h)
 | succ k ih=>exact λn is above most m a lo hi H Q hd Cv hf hr hh h=>E9 rfl rfl (mS (An7 13 (n+k+1)) (λk' e=>by cases e;exact ih n) hd Cv hf hr hh h)
end
section
variable {o w:List Nat}
noncomputable def TBk (o w:List Nat) (f:String) (d n:Nat):Prop:=∀ (bs:List Bk) (deep:Nat) (last:List Nat) (m a lo hi:Nat) (H:Heap) (Q:F8),deep+d=9->aM deep last bs->Q2 W m (.lst (O9 bs))->N8 H (.lst (O9 bs)) lo hi (.ref a)->hi<=H.length->(∀ b G,K3 H G->S6 G (.lst (O9 (bO o w bs))) H.length G.length (.ref b)->Q (.ref b) G)->Ac P n f [.ref a,.str o,.str w] Q H
theorem At7:∀ {bs:List Bk}{deep:Nat}{last:List Nat}{b:Bk},aM deep last bs->b∈bs->wB deep b:=by
 intro bs
 induction bs with
 | nil=>exact λZ h=>xL h
 | cons c bs ih =>
  exact λh hm=>by
   rcases B0 hm with rfl|hm
   ·exact h.1
   ·exact ih h.2.2 hm
noncomputable def nG (fp fi fb:String):Bk->S
 | .gap _=>.expr (.append J3 J4)
 | .head _ _=>.expr (.append J3 (.tup [.str [104,101,97,100,105,110,103],.idx J4 (.int 1),.call fp [.idx J4 (.int 2),J1,J2]]))
 | .list _=>.expr (.append J3 (.tup [.str [108,105,115,116],.call fi [.idx J4 (.int 1),J1,J2]]))
 | .para _=>.expr (.append J3 (.tup [.str [112,97,114,97],.comp (.call fp [J5,J1,J2]) 5 (.idx J4 (.int 1))]))
 | .quote _=>.expr (.append J3 (.tup [.str [113,117,111,116,101],.call fb [.idx J4 (.int 1),J1,J2]]))
noncomputable def Be5 (fp fi fb:String) (B:List S):Prop:=∀ (C:Calls) (b:Bk) (l:List V) (x0 x1 x2 x3 x5:Option V) (R:O3) (G:Heap),K1 C [nG fp fi fb b] [x0,x1,x2,x3,some (.tup (.str (eQ b)::l)),x5] R G->K1 C B [x0,x1,x2,x3,some (.tup (.str (eQ b)::l)),x5] R G
theorem mT {d n:Nat}(hB:Be5 fp fi fb B) (hp:TP o w fp 13 n) (d7:TIt o w fi 9 n) (ih:∀ d',d=d'+1->TBk o w fb d' n) {deep:Nat}{last:List Nat}(hd:deep+d=9) (Ba:aM deep last bs) (hf:Q2 W m (.lst (O9 bs))) (hr:N8 H (.lst (O9 bs)) lo hi (.ref a)) (hh:hi<=H.length) (h:∀ b G,K3 H G->S6 G (.lst (O9 (bO o w bs))) H.length G.length (.ref b)->Q (.ref b) G) :
  K1 (Ac P n) [.assign 3 (.list []),.forIn 4 J0 B,.ret J3] [some (.ref a),some (.str o),some (.str w),none,none,none] (S1 Q) H:=by
 cases m with
 | zero=>exact hf.elim
 | succ m =>
  refine Cu6 (tl:=λx:Option V=>[x]) (t0:=none) (aC bs) (by exact qz (aC _) (qz (Bo5 _) rfl)) hr hh hf.1 (λb v t G R hb hrv hG hK=>?_) λG g hg=>h _ G g hg
  have h1:=At7 Ba hb
  have hfb:=hf.2 (Di b) (qz (aC _) (List.mem_map_of_mem hb))
  cases m with
  | zero=>cases b<;>exact hfb.elim
  | succ m =>
   obtain ⟨l,rfl⟩:=Be0 hrv
   refine hB _ b l _ _ _ _ _ _ _ ?_
   cases b with
   | gap j =>
    rw [oP hrv] at hK ⊢
    exact aL iq (hK _ t G .refl ⟨_,rfl,.atom (a:=.s _) (.atom (a:=.i _) ⟨D3 _,rfl⟩)⟩)
   | head j ts =>
    obtain ⟨a2,e,Ay⟩:=jC hrv
    rw [e] at hK ⊢
    exact aL iq (T5 (K5 (v:=.str [104,101,97,100,105,110,103]) iq (K5 (v:=.int (j:Nat)) iq (R0 (vs:=[.ref a2,.str o,.str w]) iq (hp ts a2 _ _ G _ (h1.2.fit.up (D3 _) (by decide)) Ay hG λb2 G' g hg=>K8 (hK _ t G' g ⟨_,rfl,.atom (a:=.s _) (.atom (a:=.i _) (.cons g.len hg ⟨D3 _,rfl⟩))⟩))))))
   | list is =>
    obtain ⟨a2,e,Ay⟩:=W8 hrv
    rw [e] at hK ⊢
    exact aL iq (T5 (K5 (v:=.str [108,105,115,116]) iq (R0 (vs:=[.ref a2,.str o,.str w]) iq (d7 is 0 9 m a2 _ _ G _ h1.2.2 h1.2.1 (hfb.2 _ (.tail _ (.head _))) Ay hG λb2 G' g hg=>K8 (hK _ t G' g ⟨_,rfl,.atom (a:=.s _) (.cons g.len hg ⟨D3 _,rfl⟩)⟩)))))
   | para rs =>
    obtain ⟨a2,e,Ay⟩:=W8 hrv
    rw [e] at hK ⊢
    have o7:Q2 W m (.lst (qW rs)):=hfb.2 _ (.tail _ (.head _))
    cases m with
    | zero=>exact o7.elim
    | succ m =>
     exact aL iq (T5 (K5 (v:=.str [112,97,114,97]) iq (Q9 (Cu7 (gD rs) (g:=Z7 o w) (by exact qz (gD _) rfl) (by exact iq) Ay hG o7.1 (λts v G1 K Dy Dn hG1 hK1=>P7 (K5 (v:=v) (by exact iq) (K5 (v:=.str o) (by exact iq) (K5 (v:=.str w) (by exact iq) (K8 (by
      obtain ⟨a3,_,_,_,rfl,hq⟩:=id Dn
      exact hp ts a3 _ _ G1 _ ((h1.2 ts Dy).1.fit.up (D3 _) (by decide)) Dn hG1 λb2 G2 g2 Ew=>hK1 _ _ g2 Ew)))))) _ λb2 G' g hg=>K8 (hK _ t G' g ⟨_,rfl,.atom (a:=.s _) (.cons g.len hg ⟨D3 _,rfl⟩)⟩)))))
   | quote cs =>
    obtain ⟨a2,e,Ay⟩:=W8 hrv
    rw [e] at hK ⊢
    obtain ⟨d',rfl⟩:=gC hd h1.1
    exact aL iq (T5 (K5 (v:=.str [113,117,111,116,101]) iq (R0 (vs:=[.ref a2,.str o,.str w]) iq (ih d' rfl cs (deep+1) [] m a2 _ _ G _ (nV hd) h1.2.2 (hfb.2 _ (.tail _ (.head _))) Ay hG λb2 G' g hg=>K8 (hK _ t G' g ⟨_,rfl,.atom (a:=.s _) (.cons g.len hg ⟨D3 _,rfl⟩)⟩)))))
noncomputable def bTB:List S:=[.ite (.cmp .eq (.idx J4 (.int 0)) (.str [103,97,112])) [nG "turned_parts" "turned_items" "turned_blocks" (.gap 0)] [.ite (.cmp .eq (.idx J4 (.int 0)) (.str [104,101,97,100,105,110,103])) [nG "turned_parts" "turned_items" "turned_blocks" (.head 0 [])] [.ite (.cmp .eq (.idx J4 (.int 0)) (.str [108,105,115,116])) [nG "turned_parts" "turned_items" "turned_blocks" (.list [])] [.ite (.cmp .eq (.idx J4 (.int 0)) (.str [112,97,114,97])) [nG "turned_parts" "turned_items" "turned_blocks" (.para [])] [nG "turned_parts" "turned_items" "turned_blocks" (.quote [])]]]]]
noncomputable def bLB:List S:=[.ite (.cmp .eq (.idx J4 (.int 0)) (.str [104,101,97,100,105,110,103])) [nG "_law_turned" "_law_items" "_law_blocks" (.head 0 [])] [.ite (.cmp .eq (.idx J4 (.int 0)) (.str [108,105,115,116])) [nG "_law_turned" "_law_items" "_law_blocks" (.list [])] [.ite (.cmp .eq (.idx J4 (.int 0)) (.str [113,117,111,116,101])) [nG "_law_turned" "_law_items" "_law_blocks" (.quote [])] [.ite (.cmp .eq (.idx J4 (.int 0)) (.str [112,97,114,97])) [nG "_law_turned" "_law_items" "_law_blocks" (.para [])] [nG "_law_turned" "_law_items" "_law_blocks" (.gap 0)]]]]]
theorem Ci6 (b:Bk) (l:List V) (x0 x1 x2 x3 x5:Option V) (s:List Nat):Ev C [x0,x1,x2,x3,some (.tup (.str (eQ b)::l)),x5] G (.cmp .eq (.idx J4 (.int 0)) (.str s)) (.bool (eQ b==s)):=H9 (L6 iq iq cH) iq aA
theorem Bg9:Be5 "turned_parts" "turned_items" "turned_blocks" bTB:=λC b l x0 x1 x2 x3 x5 R G h=>by
 have ev:=Ci6 (C:=C) (G:=G) b l x0 x1 x2 x3 x5
 cases b with
 | gap _=>exact H7 (ev _) h
 | head _ _=>exact G8 (ev _) (H7 (ev _) h)
 | list _=>exact G8 (ev _) (G8 (ev _) (H7 (ev _) h))
 | para _=>exact G8 (ev _) (G8 (ev _) (G8 (ev _) (H7 (ev _) h)))
 | quote _=>exact G8 (ev _) (G8 (ev _) (G8 (ev _) (G8 (ev _) h)))
theorem Bh0:Be5 "_law_turned" "_law_items" "_law_blocks" bLB:=λC b l x0 x1 x2 x3 x5 R G h=>by
 have ev:=Ci6 (C:=C) (G:=G) b l x0 x1 x2 x3 x5
 cases b with
 | head _ _=>exact H7 (ev _) h
 | list _=>exact G8 (ev _) (H7 (ev _) h)
 | quote _=>exact G8 (ev _) (G8 (ev _) (H7 (ev _) h))
 | para _=>exact G8 (ev _) (G8 (ev _) (G8 (ev _) (H7 (ev _) h)))
 | gap _=>exact G8 (ev _) (G8 (ev _) (G8 (ev _) (G8 (ev _) h)))
theorem Cw5:∀ (d n:Nat),TBk o w "turned_blocks" d (n+d+25):=by
 intro d
 induction d with
 | zero=>exact λn bs deep last m a lo hi H Q hd Ba hf hr hh h=>E9 rfl rfl (mT Bg9 (An5 13 (n+10)) (Ch7 9 n) (λd' e=>xZ e) hd Ba hf hr hh h)
 | succ d ih=>exact λn bs deep last m a lo hi H Q hd Ba hf hr hh h=>E9 rfl rfl (mT Bg9 (An5 13 (n+d+11)) (Ch7 9 (n+d+1)) (λd' e=>by cases e;exact ih n) hd Ba hf hr hh h)
theorem Cy0:∀ (d n:Nat),TBk o w "_law_blocks" d (n+d+25):=by
 intro d
 induction d with
 | zero=>exact λn bs deep last m a lo hi H Q hd Ba hf hr hh h=>E9 rfl rfl (mT Bh0 (An7 13 (n+10)) (Cj0 9 n) (λd' e=>xZ e) hd Ba hf hr hh h)
 | succ d ih=>exact λn bs deep last m a lo hi H Q hd Ba hf hr hh h=>E9 rfl rfl (mT Bh0 (An7 13 (n+d+11)) (Cj0 9 (n+d+1)) (λd' e=>by cases e;exact ih n) hd Ba hf hr hh h)
end
theorem eV.mem {d:Nat}{t:T}:∀ {ts:List T},eV d ts->t∈ts->GT d t
 | []=>λZ h=>xL h
 | _::_=>λh hm=>by
  rcases B0 hm with rfl|hm
  ·exact h.1
  ·exact eV.mem h.2 hm
noncomputable def jZ (m b:Nat) (G:Heap):Prop:=∃ l,G[b]? = some l/\l.length<=m/\∀ v∈l,∃ s,v=.str s/\TO s
theorem jZ.up (h:jZ m b G) (q:m<=k):jZ k b G:=by
 obtain ⟨l,h1,h2,h3⟩:=h
 exact ⟨l,h1,D2 h2 q,h3⟩
theorem jZ.grow (h:jZ m b G) (g:K3 G G'):jZ m b G':=by
 obtain ⟨l,h1,h2⟩:=h
 exact ⟨l,g.get h1,h2⟩
theorem rX (h1:jZ m b G) (h2:jZ k c G) (hl:m+k<=1000000) (h:∀ d G',K3 G G'->jZ (m+k) d G'->Q (.ref d) G'):res (eR .add (.ref b) (.ref c) G) Q:=by
 obtain ⟨l,a1,a2,a3⟩:=h1
 obtain ⟨r,b1,b2,b3⟩:=h2
 refine hO a1 b1 (D2 (B3 a2 b2) (D2 hl (by show 1000000<=16777216;decide))) (h _ _ .one ⟨_,K6,by refine qz D4 ?_;exact B3 a2 b2,λv hv=>?_⟩)
 rcases C0 hv with q|q
 ·exact a3 v q
 ·exact b3 v q
theorem pA (l:List Nat) (i:Nat):(l.take i).sum<=l.sum:=D2 (E1 _ _) (A4 (List.sum_append.symm.trans (D0 List.sum (List.take_append_drop i l))))
theorem col {C:Calls}{B:List S}{α:Type}{f:α->X}{wt:α->Nat}{as:List α}{xs:List X}(ex:xs=as.map f) {a lo hi:Nat}{σ:Type}{tl:σ->List (Option V)}{t0:σ}{H:Heap}{Q:F8}(hr:N8 H (.lst xs) lo hi (.ref a)) (hh:hi<=H.length) (hs:(as.map wt).sum<=1000000)
  (step:∀ (x:α) (c:Nat) (v:V) (t:σ) (m:Nat) (G:Heap) (R:O3),x∈as->N8 G (f x) lo hi v->hi<=G.length->m+wt x<=1000000->jZ m c G->(∀ (c':Nat) (t':σ) (G':Heap),K3 G G'->jZ (m+wt x) c' G'->R .next (some (.ref a)::some (.ref c')::some v::tl t') G') ->
   K1 C B (some (.ref a)::some (.ref c)::some v::tl t) R G)
  (h:∀ b G,K3 H G->jZ (as.map wt).sum b G->Q (.ref b) G):K1 C [.assign 1 (.list []),.forIn 2 J0 B,.ret J1] (some (.ref a)::none::none::tl t0) (S1 Q) H:=by
 apply Ah;intro g9 k9
 obtain ⟨a',l,p,q,e,hb,ha,Bc⟩:=hr
 apply k9
 cases e
 refine P5 (H1:=H++[[]]) (v:=.ref H.length) iq (M7 (Y9 (σ:=Nat×Option V×σ) (λz=>some (.ref a)::some (.ref z.1)::z.2.1::tl z.2.2) (λi z G=>K3 H G/\jZ ((as.map wt).take i).sum z.1 G) (l:=l) (λi z G hI=>hI.1.get ha) (λi z G v hv hI K hK=>?_) (λz G hI=>?_) (H.length,none,t0) iq ⟨.one,[],K6,D3 _,λv hv=>xL hv⟩))
 ·obtain ⟨x,hx,Cj⟩:=Av0 ex (Bc.to (hI.1.old.sub (D8 _) (D2 hb.qh hh))) hv
  have e:((as.map wt).take (i+1)).sum=((as.map wt).take i).sum+wt x:=by
   exact qz List.take_add_one (qz E6 (qz hx (qz List.sum_append (D0 (_+·) (Nat.add_zero _)))))
  have d6:((as.map wt).take i).sum+wt x<=1000000:=by
   exact qz e.symm (D2 (pA _ _) hs)
  exact step x z.1 v z.2.2 _ G _ (E5 hx) (Cj.wide hb.lp hb.qh) (D2 hh hI.1.len) d6 hI.2 λc' t' G' g hc=>hK (c',_,t') G' ⟨hI.1.trans g,qz e hc⟩
 ·have:=hI.2
  have e:l.length=(as.map wt).length:=qz Bc.len (qz ex (qz (E3 _) (qz (E3 _) rfl)))
  rw [e,List.take_length] at this
  exact O0 iq (h _ G hI.1 this)
theorem Cc4:∀ ts:List T,(ts.map λt=>(Aj t).length).sum=(Ab ts).length:=by
 intro ts
 induction ts with
 | nil=>exact rfl
 | cons t ts ih =>
  show (Aj t).length+(ts.map λt=>(Aj t).length).sum=(Aj t++Ab ts).length
  exact qz ih (qz D4 rfl)
noncomputable def LTg (k n:Nat):Prop:=∀ (d:Nat) (ts:List T) (a lo hi:Nat) (H:Heap) (Q:F8),Q2 W (2 * k+1) (.lst (M0 ts))->eV d ts->(Ab ts).length<=1000000->N8 H (.lst (M0 ts)) lo hi (.ref a)->hi<=H.length->(∀ b G,K3 H G->jZ (Ab ts).length b G->Q (.ref b) G)->Ac P n "_law_targets" [.ref a] Q H
theorem Bh4 {n:Int}(ha:H[a]? = some l) (hb:l.length * n.toNat<=P0/\-4611686018427387904<n/\n<4611686018427387904) (h:Q (.ref H.length) (H++[(List.replicate n.toNat l).flatten])):res (eR .mul (.ref a) (.int n) H) Q:=by
 show res ((H[a]?).bind λl=>if l.length * n.toNat<=P0/\-4611686018427387904<n/\n<4611686018427387904 then some (V.ref H.length,H++[(List.replicate n.toNat l).flatten]) else Option.none) Q
 refine qz ha ?_
 show res (if _ then _ else _) Q
 exact qz (if_pos hb) h
noncomputable def gN:Option (List Nat)->Nat
 | none=>0
 | some _=>1
theorem Cz3 (hg:∀ s,g=some s->TO s) (h:∀ d G',K3 G G'->jZ (gN g) d G'->Q (.ref d) G'):res (eR .mul (.ref G.length) (.int (if (!isV (aV (gA g)) .none)=true then 1 else 0)) (G++[[aV (gA g)]])) Q:=by
 cases g with
 | none=>exact Bh4 K6 (by decide) (h _ _ (K3.one.trans .one) ⟨_,K6,D3 _,λv hv=>xL hv⟩)
 | some s=>exact Bh4 K6 ⟨by show 1<=16777216;decide,(by decide:(-4611686018427387904:Int)<1),(by decide:(1:Int)<4611686018427387904)⟩ (h _ _ (K3.one.trans .one) ⟨_,K6,D3 _,λv hv=>⟨s,B1 hv,hg s rfl⟩⟩)
theorem Aq8 {k n:Nat}(ih:∀ k',k=k'+1->LTg k' n) (hf:Q2 W (2 * k+1) (.lst (M0 ts))) (ho:eV d ts) (hl:(Ab ts).length<=1000000) (hr:N8 H (.lst (M0 ts)) lo hi (.ref a)) (hh:hi<=H.length) (h:∀ b G,K3 H G->jZ (Ab ts).length b G->Q (.ref b) G) :
  K1 (Ac P n) gX.body [some (.ref a),none,none] (S1 Q) H:=by
 rw [<- Cc4] at hl h
 refine col (tl:=λ_:Unit=>[]) (t0:=()) (Y6 ts) hr hh hl (λx c v t m G R hx Cj hG d6 hA hK=>?_) h
 have hfx:=hf.2 (i0 x) (qz (Y6 _) (List.mem_map_of_mem hx))
 have hox:=ho.mem hx
 cases x with
 | Al s =>
  rw [show v=.str s from Cj] at hK ⊢
  exact E8 (K7 (b:=false) (b2:=false) iq λq=>xF q) (E8 (K7 (b:=false) (b2:=false) iq λq=>xF q) (hK c () G .refl (hA.up (E1 _ _))))
 | kept s =>
  rw [cA Cj] at hK ⊢
  exact E8 (K7 (b:=true) (b2:=false) iq λZ=>iq) (E8 (K7 (b:=true) (b2:=false) iq λZ=>iq) (hK c () G .refl (hA.up (E1 _ _))))
 | code s b =>
  rw [cB Cj] at hK ⊢
  exact E8 (K7 (b:=true) (b2:=false) iq λZ=>iq) (E8 (K7 (b:=true) (b2:=false) iq λZ=>iq) (hK c () G .refl (hA.up (E1 _ _))))
 | span z us b =>
  obtain ⟨a2,rfl,Ay⟩:=bY Cj
  obtain ⟨k',e,hfu⟩:∃ k',k=k'+1/\Q2 W (2 * k'+1) (.lst (M0 us)):=by cases k with|zero=>exact hfx.elim|succ k=>exact ⟨k,rfl,hfx.2 _ (.tail _ (.tail _ (.head _)))⟩
  have hw:(Ab us).length<=(Aj (.span z us b)).length:=by
   show _<=([z,40]++Ab us++_).length
   exact qz D4 (qz D4 (D2 (A7 _ _) (E1 _ _)))
  have hlu:=D2 (A6 hw m) d6
  exact H7 (K7 (b:=true) (b2:=true) iq λZ=>iq) (P1 (cQ (P7 (K5 (v:=.ref a2) iq (K8 (ih k' e _ us a2 lo hi G _ hfu hox.2.2 (D2 (A7 _ _) hlu) Ay hG λb2 G1 g1 h1=>rX (hA.grow g1) h1 hlu λd G2 g2 h2=>E8 (K7 (b:=true) (b2:=false) iq λZ=>iq) (hK d () G2 (g1.trans g2) (h2.up (A6 hw m)))))))))
 | link us g b =>
  obtain ⟨a2,rfl,Ay⟩:=bZ Cj
  obtain ⟨k',e,hfu⟩:∃ k',k=k'+1/\Q2 W (2 * k'+1) (.lst (M0 us)):=by cases k with|zero=>exact hfx.elim|succ k=>exact ⟨k,rfl,hfx.2 _ (.tail _ (.head _))⟩
  have hw:(Ab us).length+gN g<=(Aj (.link us g b)).length:=by
   cases g with
   | none =>
    show _<=([91]++Ab us++_).length
    exact qz D4 (qz D4 (D2 (A7 _ _) (E1 _ _)))
   | some s =>
    show _<=([91]++Ab us++[93,40]++s++_).length
    exact qz D4 (qz D4 (qz D4 (qz D4 (D2 (A4 (Nat.add_comm _ _)) (D2 (E1 _ 2) (D2 (E1 _ _) (E1 _ _)))))))
  have hlg:=D2 (A6 hw m) d6
  have hlu:=D2 (A6 (E1 _ (gN g)) m) hlg
  rw [<- C2] at hlg
  exact E8 (K7 (b:=true) (b2:=false) iq λZ=>iq) (H7 (K7 (b:=true) (b2:=true) iq λZ=>iq) (P1 (cQ (cQ (P7 (K5 (v:=.ref a2) iq (K8 (ih k' e _ us a2 lo hi G _ hfu hox.2.2 (D2 (A7 _ _) hlu) Ay hG λb2 G1 g1 h1=>rX (hA.grow g1) h1 hlu λd G2 g2 h2=>Cz3 hox.2.1 λd2 G3 g3 h3=>rX (h2.grow g3) h3 hlg λd3 G4 g4 h4=>hK d3 () G4 (g1.trans (g2.trans (g3.trans g4))) (h4.up (qz (C2 _ _ _) (A6 hw m)))))))))))
theorem Cw4:∀ (k n:Nat),LTg k (n+k+1):=by
 intro k
 induction k with
 | zero=>exact λn d ts a lo hi H Q hf ho hl hr hh h=>E9 rfl rfl (Aq8 (λk' e=>xZ e) hf ho hl hr hh h)
 | succ k ih=>exact λn d ts a lo hi H Q hf ho hl hr hh h=>E9 rfl rfl (Aq8 (λk' e=>by cases e;exact ih n) hf ho hl hr hh h)
theorem Ce4:∀ is:List It,(is.map Dr).sum=An is:=by
 intro is
 induction is with
 | nil=>exact rfl
 | cons i is ih=>exact D0 (Dr i+·) (ih)
theorem Cf7:∀ bs:List Bk,(bs.map Co).sum=Am bs:=by
 intro bs
 induction bs with
 | nil=>exact rfl
 | cons b bs ih=>exact D0 (Co b+·) (ih)
theorem Bd2 {n a lo hi:Nat}(hc:Ct ts) (hl:(Ab ts).length<=1000000) (hr:N8 H (.lst (M0 ts)) lo hi (.ref a)) (hh:hi<=H.length) (h:∀ b G,K3 H G->jZ (Ab ts).length b G->Q (.ref b) G):Ac P (n+14) "_law_targets" [.ref a] Q H:=Cw4 13 n 0 ts a lo hi H Q (hc.fit.up (D3 _) (by decide)) hc.good hl hr hh h
noncomputable def LBw (k n:Nat):Prop:=∀ (is:List It) (above most a lo hi:Nat) (H:Heap) (Q:F8),Br is<=k->cJ above most is->An is<=1000000->N8 H (.lst (X9 is)) lo hi (.ref a)->hi<=H.length->(∀ b G,K3 H G->jZ (An is) b G->Q (.ref b) G)->Ac P n "_law_below" [.ref a] Q H
theorem At6 {k n:Nat}(ih:∀ k',k=k'+1->LBw k' (n+14)) (hd:Br is<=k) (Cv:cJ above most is) (hl:An is<=1000000) (hr:N8 H (.lst (X9 is)) lo hi (.ref a)) (hh:hi<=H.length) (h:∀ b G,K3 H G->jZ (An is) b G->Q (.ref b) G) :
  K1 (Ac P (n+14)) mB.body [some (.ref a),none,none] (S1 Q) H:=by
 rw [<- Ce4] at hl h
 refine col (tl:=λ_:Unit=>[]) (t0:=()) (dE is) hr hh hl (λx c v t m G R hx Cj hG d6 hA hK=>?_) h
 cases x with
 | it j ts sub =>
  obtain ⟨h1,h2,h3⟩:=At2 Cv hx
  obtain ⟨b1,b2,rfl,hr1,hr2⟩:=jB Cj
  obtain ⟨k',rfl⟩:=hZ (D2 (A7 1 _) (D2 h3 hd))
  have hw:(Ab ts).length+An sub<=Dr (.it j ts sub):=C4 (E1 _ 30) _
  have hls:=D2 (A6 hw m) d6
  rw [<- C2] at hls
  have hlt:=D2 (E1 _ _) hls
  exact P1 (cQ (cQ (P7 (K5 (v:=.ref b1) iq (K8 (Bd2 h1 (D2 (A7 _ _) hlt) hr1 hG λc1 G1 g1 k1=>rX (hA.grow g1) k1 hlt λd1 G2 g2 k2=>P7 (K5 (v:=.ref b2) iq (K8 (ih k' rfl sub j 9 b2 _ _ G2 _ (Nat.le_of_succ_le_succ (D2 h3 hd)) h2 (D2 (A7 _ _) hls) (hr2.grow (g1.trans g2) hG) (D2 hG (g1.trans g2).len) λc2 G3 g3 k3=>rX (k2.grow g3) k3 hls λd2 G4 g4 k4=>hK d2 () G4 ((g1.trans g2).trans (g3.trans g4)) (k4.up (qz (C2 _ _ _) (A6 hw m))))))))))))
theorem Cj4:∀ (k n:Nat),LBw k (n+k+15):=by
 intro k
 induction k with
 | zero=>exact λn is above most a lo hi H Q hd Cv hl hr hh h=>E9 rfl rfl (At6 (λk' e=>xZ e) hd Cv hl hr hh h)
 | succ k ih=>exact λn is above most a lo hi H Q hd Cv hl hr hh h=>E9 rfl rfl (At6 (n:=n+k+1) (λk' e=>by cases e;exact ih n) hd Cv hl hr hh h)
noncomputable def LSm (d n:Nat):Prop:=∀ (bs:List Bk) (deep:Nat) (last:List Nat) (a lo hi:Nat) (H:Heap) (Q:F8),deep+d=9->aM deep last bs->Am bs<=1000000->N8 H (.lst (O9 bs)) lo hi (.ref a)->hi<=H.length->(∀ b G,K3 H G->jZ (Am bs) b G->Q (.ref b) G)->Ac P n "_law_some" [.ref a] Q H
theorem jS (h0:∀ G',Ev C ρ G' (.var x1) (.ref c)) (he:Ev C ρ G e (.ref a)) (hA:jZ m c G) (hl:m+k<=1000000) (hC:∀ Q:F8,(∀ b G',K3 G G'->jZ k b G'->Q (.ref b) G')->C f [.ref a] Q G) (h:∀ d G',K3 G G'->jZ (m+k) d G'->K1 C ss (ρ.set x1 (some (.ref d))) R G') :
  K1 C (.assign x1 (.bin .add (.var x1) (.call f [e]))::ss) ρ R G:=P1 (cQ (h0 G _ (P7 (K5 he (K8 (hC _ λb G1 g1 h1=>rX (hA.grow g1) h1 hl λd G2 g2 h2=>h d G2 (g1.trans g2) h2))))))
theorem Cd0 {n a c m lo hi a2:Nat}{x:V}{rs:List (List T)}(k6:∀ ts∈rs,Ct ts) (d6:m+Dd rs<=1000000) (hr:N8 G (.lst (qW rs)) lo hi (.ref a2)) (hh:hi<=G.length) (hA:jZ m c G) (hx:∀ {C:Calls}{c:Nat}{y:Option V}{G:Heap},Ev C [some (.ref a),some (.ref c),some x,y] G (.idx J2 (.int 1)) (.ref a2))
  (h:∀ d y G',K3 G G'->jZ (m+Dd rs) d G'->R .next [some (.ref a),some (.ref d),some x,y] G'):K1 (Ac P (n+14)) [.forIn 3 (.idx J2 (.int 1)) [.assign 1 (.bin .add J1 (.call "_law_targets" [J3]))]] [some (.ref a),some (.ref c),some x,x3] R G:=by
 apply Ah;intro g9 k9
 obtain ⟨a',l,p,q,e,hb,ha,Bc⟩:=hr
 apply k9
 cases e
 have es:∀ rs:List (List T),(rs.map λts=>(Ab ts).length+30).sum=Dd rs:=λrs=>by
  induction rs with
  | nil=>rfl
  | cons t rs ih=>exact D0 ((Ab t).length+30+·) ih
 rw [<- es] at d6 h
 refine M7 (Y9 (σ:=Nat×Option V) (λz=>[some (.ref a),some (.ref z.1),some x,z.2]) (λi z G'=>K3 G G'/\jZ (m+((rs.map λts=>(Ab ts).length+30).take i).sum) z.1 G') (l:=l) (λi z G hI=>hI.1.get ha) (λi z G1 v hv hI K hK=>?_) (λz G1 hI=>?_) (c,x3) hx ⟨.refl,hA.up (E1 _ _)⟩)
 ·obtain ⟨ts,b,Dy,rfl,Dn⟩:=Bv2 (Bc.to (hI.1.old.sub (D8 _) (D2 hb.qh hh))) hv
  have e:((rs.map λts=>(Ab ts).length+30).take (i+1)).sum=((rs.map λts=>(Ab ts).length+30).take i).sum+((Ab ts).length+30):=by
   exact qz List.take_add_one (qz E6 (qz Dy (qz List.sum_append (D0 (_+·) (Nat.add_zero _)))))
  have hle2:m+((rs.map λts=>(Ab ts).length+30).take (i+1)).sum<=1000000:=D2 (A6 (pA _ _) m) d6
  rw [e] at hle2
  have hw:m+((rs.map λts=>(Ab ts).length+30).take i).sum+(Ab ts).length<=m+(((rs.map λts=>(Ab ts).length+30).take i).sum+((Ab ts).length+30)):=by
   exact qz (C2 _ _ _) (A6 (A6 (E1 _ 30) _) _)
  have hl:=D2 hw hle2
  exact jS (λZ Z h=>h) iq hI.2 hl (λQ q=>Bd2 (k6 ts (E5 Dy)) (D2 (A7 _ _) hl) Dn (D2 (D2 hb.qh hh) hI.1.len) q) λd G2 g2 h2=>hK (d,some (.ref b)) G2 ⟨hI.1.trans g2,qz e (h2.up hw)⟩
 ·have:=hI.2
  have e:l.length=(rs.map λts=>(Ab ts).length+30).length:=qz Bc.len (qz (jF _) (qz (E3 _) rfl))
  rw [e,List.take_length] at this
  exact h _ _ G1 hI.1 this
theorem Ar3 {d n:Nat}(d7:LBw 9 (n+14)) (ih:∀ d',d=d'+1->LSm d' (n+14)) {deep:Nat}{last:List Nat}(hd:deep+d=9) (Ba:aM deep last bs) (hl:Am bs<=1000000) (hr:N8 H (.lst (O9 bs)) lo hi (.ref a)) (hh:hi<=H.length) (h:∀ b G,K3 H G->jZ (Am bs) b G->Q (.ref b) G) :
  K1 (Ac P (n+14)) qN.body [some (.ref a),none,none,none] (S1 Q) H:=by
 rw [<- Cf7] at hl h
 refine col (tl:=λx:Option V=>[x]) (t0:=none) (aC bs) hr hh hl (λx c v t m G R hx Cj hG d6 hA hK=>?_) h
 have h1:=At7 Ba hx
 have hmx:∀ {k:Nat},k<=m+Co x->k<=1000000:=λq=>D2 q d6
 cases x with
 | gap j =>
  rw [oP Cj] at hK ⊢
  exact E8 iq (E8 iq (E8 iq (E8 iq (hK c t G .refl (hA.up (E1 _ _))))))
 | head j ts =>
  obtain ⟨a2,rfl,Ay⟩:=jC Cj
  have hw:m+(Ab ts).length<=m+Co (.head j ts):=E1 _ 30
  exact H7 iq (jS (λZ Z h=>h) (a:=a2) iq hA (hmx hw) (λQ q=>Bd2 h1.2 (D2 (A7 _ _) (hmx hw)) Ay hG q) λe G1 g1 k1=>E8 iq (E8 iq (E8 iq (hK e t G1 g1 (k1.up hw)))))
 | para rs =>
  obtain ⟨a2,rfl,Ay⟩:=W8 Cj
  have hw:m+Dd rs<=m+Co (.para rs):=E1 _ 1
  exact E8 iq (H7 iq (Cd0 (λts Dy=>(h1.2 ts Dy).1) (hmx hw) Ay hG hA iq λe y G1 g1 k1=>E8 iq (E8 iq (hK e y G1 g1 (k1.up hw)))))
 | quote cs =>
  obtain ⟨a2,rfl,Ay⟩:=W8 Cj
  obtain ⟨d',rfl⟩:=gC hd h1.1
  have hw:m+Am cs<=m+Co (.quote cs):=E1 _ 1
  exact E8 iq (E8 iq (H7 iq (jS (λZ Z h=>h) (a:=a2) iq hA (hmx hw) (λQ q=>ih d' rfl cs (deep+1) [] a2 _ _ G Q (nV hd) h1.2.2 (D2 (A7 _ _) (hmx hw)) Ay hG q) λe G1 g1 k1=>E8 iq (hK e t G1 g1 (k1.up hw)))))
 | list is =>
  obtain ⟨a2,rfl,Ay⟩:=W8 Cj
  have hw:m+An is<=m+Co (.list is):=E1 _ 1
  exact E8 iq (E8 iq (E8 iq (H7 iq (jS (λZ Z h=>h) (a:=a2) iq hA (hmx hw) (λQ q=>d7 is 0 9 a2 _ _ G Q h1.2.2 h1.2.1 (D2 (A7 _ _) (hmx hw)) Ay hG q) λe G1 g1 k1=>hK e t G1 g1 (k1.up hw)))))
theorem Cw6:∀ (d n:Nat),LSm d (n+d+25):=by
 intro d
 induction d with
 | zero=>exact λn bs deep last a lo hi H Q hd Ba hl hr hh h=>E9 rfl rfl (Ar3 (Cj4 9 n) (λd' e=>xZ e) hd Ba hl hr hh h)
 | succ d ih=>exact λn bs deep last a lo hi H Q hd Ba hl hr hh h=>E9 rfl rfl (Ar3 (n:=n+d+11) (Cj4 9 (n+d+1)) (λd' e=>by cases e;exact ih n) hd Ba hl hr hh h)
noncomputable def bU:List Nat:=[109,111,114,101]
mutual
noncomputable def sp:X->X
 | .at a=>.at a
 | .tup xs=>.tup (sps xs)
 | .lst xs=>.lst (sps xs++[.at (.s bU)])
noncomputable def sps:List X->List X
 | []=>[]
 | x::xs=>sp x::sps xs
end
theorem Ar0:∀ xs:List X,(sps xs).length=xs.length:=by
 intro xs
 induction xs with
 | nil=>exact rfl
 | cons _ xs ih=>exact D0 (· + 1) (ih)
theorem Cb8 (y:X):∀ xs:List X,sps (xs++[y])=sps xs++[sp y]:=by
 intro xs
 induction xs with
 | nil=>exact rfl
 | cons x xs ih=>exact D0 (sp x::·) (ih)
theorem Cb7:∀ {xs:List X}{y:X},y∈sps xs->∃ x∈xs,y=sp x:=by
 intro xs
 induction xs with
 | nil=>exact λh=>xL h
 | cons x xs ih =>
  exact λh=>by
   rcases B0 h with rfl|h
   ·exact ⟨x,.head _,rfl⟩
   ·obtain ⟨z,hz,e⟩:=ih h
    exact ⟨z,.tail _ hz,e⟩
theorem Q2.sp:∀ {m:Nat}{x:X},Q2 w m x->Q2 (w+1) m (sp x):=by
 intro m
 induction m with
 | zero =>
  intro x h
  cases x with
  | «at» a=>exact trivial
  | _=>exact h.elim
 | succ m ih =>
  intro x h
  have go:∀ {xs:List X},(∀ y∈xs,Q2 w m y)->∀ y∈sps xs,Q2 (w+1) m y:=λh y hy=>by
   obtain ⟨x,hx,rfl⟩:=Cb7 hy
   exact ih (h x hx)
  cases x with
  | «at» a=>exact trivial
  | tup xs=>exact ⟨by refine qz (Ar0 _) ?_;exact C8 h.1,go h.2⟩
  | lst xs =>
   refine ⟨by refine qz D4 (qz (Ar0 _) ?_);exact E0 h.1,λy hy=>?_⟩
   rcases C0 hy with hy|hy
   ·exact go h.2 y hy
   ·exact qz (B1 hy) .at
structure Kp (H G:Heap) (lo hi:Nat):Prop where
 len:H.length<=G.length
 low:R1 H G 0 lo
 up:R1 H G hi H.length
theorem Kp.refl:Kp H H lo hi:=⟨D3 _,.refl,.refl⟩
theorem Kp.then {A B C:Heap}(h:Kp A B lo hi) (k:Kp B C p q) (h1:lo<=p) (h2:q<=hi):Kp A C lo hi :=
 ⟨D2 h.len k.len,h.low.trans (k.low.sub (D3 _) h1),h.up.trans (k.up.sub h2 h.len)⟩
theorem Kp.one (q7:lo<=H.length):Kp H (H++[l]) lo hi:=⟨K3.one.1,.one q7,.one (D3 _)⟩
theorem Kp.set (h1:lo<=a) (h2:a<hi):Kp H (H.set a l) lo hi:=⟨by refine qz C7 ?_;exact D3 _,R1.set (Or.inr h1),R1.set (Or.inl h2)⟩
theorem yE {n c:Nat}(I:Nat->Heap->Prop) (h0:I 0 H) (hc:∀ i G,I i G->G[c]? = some l) (step:∀ (i:Nat) (G:Heap) (v:V) (K:F8),l[i]? = some v->I i G->(∀ G',I (i+1) G'->K .none G')->Ac P n "_law_spoilt" [v] K G) (fin:∀ x G,I l.length G->R .next [some t,x] G) :
  ∃ k,cM (K1 (Ac P n) [.expr (.call "_law_spoilt" [J1])]) 1 (.lst c) k 0 [some t,none] R H:=by
 refine Ae6 (σ:=Option V) (λx=>[some t,x]) (λi Z G=>I i G) (l:=l) (λi Z G h=>hc i G h) (λi x G v hv hI K hK=>?_) (λx G hI=>fin x G hI) none h0
 exact P8 (vs:=[v]) iq (step i G v _ hv hI λG' h'=>hK (some v) G' h')
theorem oQ {n:Nat}(h:Q .none H):Ac P (n+1) "_law_spoilt" [aV a] Q H:=E9 rfl rfl (by cases a<;>exact h)
theorem Ar1 {n:Nat}(I:Nat->Heap->Prop) (h0:I 0 (H++[l])) (hc:∀ i G,I i G->G[H.length]? = some l) (step:∀ (i:Nat) (G:Heap) (v:V) (K:F8),l[i]? = some v->I i G->(∀ G',I (i+1) G'->K .none G')->Ac P n "_law_spoilt" [v] K G) (fin:∀ G,I l.length G->Q .none G):Ac P (n+1) "_law_spoilt" [.tup l] Q H :=
 E9 rfl rfl (H7 (R5 (b:=true) (b2:=true) iq λq=>xB q) (M7 (yE I h0 hc step λx G hI=>fin G hI)))
theorem Ar2 {n a:Nat}(ha:H[a]? = some l) (I:Nat->Heap->Prop) (h0:I 0 (H++[l])) (hc:∀ i G,I i G->G[H.length]? = some l) (step:∀ (i:Nat) (G:Heap) (v:V) (K:F8),l[i]? = some v->I i G->(∀ G',I (i+1) G'->K .none G')->Ac P n "_law_spoilt" [v] K G) (fin:∀ G,I l.length G->∃ l',G[a]? = some l'/\l'.length<P0/\Q .none (G.set a (l'++[.str bU]))):Ac P (n+1) "_law_spoilt" [.ref a] Q H :=
 E9 rfl rfl (H7 (R5 (b:=false) (b2:=true) iq λZ=>iq) (M7 (Bg3 (Ca8 (e:=J0) (ρ:=[some (.ref a),none]) ha iq _ (yE I h0 hc step λx G hI=>by
  obtain ⟨l',h1,h2,h3⟩:=fin G hI
  exact H7 iq (N3 iq iq h1 h2 h3))))))
noncomputable def SpV (w m n:Nat):Prop:=∀ (x:X) (v:V) (lo hi:Nat) (H:Heap) (Q:F8),Q2 w m x->lo<=hi->hi<=H.length->S6 H x lo hi v->(∀ G,Kp H G lo hi->N8 G (sp x) lo hi v->Q .none G)->Ac P n "_law_spoilt" [v] Q H
noncomputable def SpI (H:Heap) (xs:List X) (l:List V) (lo hi:Nat) (i:Nat) (G:Heap):Prop:=Kp (H++[l]) G lo hi/\∃ mid,M1 G (sps (xs.take i)) lo mid (l.take i)/\P4 G (xs.drop i) mid hi (l.drop i)
theorem yF {w m n lo hi:Nat}(ih:SpV w m n) (hf:∀ y∈xs,Q2 w m y) (hh:hi<=H.length) (i:Nat) (G:Heap) (v:V) (K:F8) (hv:l[i]? = some v) (hI:SpI H xs l lo hi i G) (hK:∀ G',SpI H xs l lo hi (i+1) G'->K .none G'):Ac P n "_law_spoilt" [v] K G:=by
 obtain ⟨hk,mid,h1,h2⟩:=hI
 have hG:hi<=G.length:=D2 hh (D2 K3.one.1 hk.len)
 have el:l.drop i=v::l.drop (i+1):=by
  obtain ⟨hi,rfl⟩:=A3 hv
  exact List.drop_eq_getElem_cons hi
 cases hx:xs.drop i with
 | nil=>rw [hx] at h2;rw [h2.2] at el;cases el
 | cons y ys =>
  have hg:xs[i]? = some y:=by refine qz (Eq.symm List.head?_drop) (qz hx ?_);rfl
  have hy:xs.drop (i+1)=ys:=by refine qz List.tail_drop.symm (qz hx ?_);rfl
  rw [hx] at h2
  obtain ⟨u,r,m',e,b,g1,g2⟩:=h2
  rw [el] at e
  cases e
  have d6:=P4.le _ g2
  refine ih y v mid m' G _ (hf y (E5 hg)) b (D2 d6 hG) g1 λG' hk' g1'=>hK G' ⟨hk.then hk' h1.le d6,m',?_,?_⟩
  ·exact qz List.take_add_one (qz hg (qz List.take_add_one (qz hv ((Cb8 y _).symm▸(h1.to (hk'.low.sub (D8 _) (D3 _))).add b g1'))))
  ·exact qz hy (g2.to (hk'.up.sub (D3 _) hG))
theorem SpI.fin (hl:l.length=xs.length) (h:SpI H xs l lo hi l.length G):M1 G (sps xs) lo hi l:=by
 obtain ⟨hk,mid,h1,h2⟩:=h
 rw [List.take_length,hl,List.take_length] at h1
 exact h1.wide (D3 _) (P4.le _ h2)
theorem Bg8 (hw:w<P0):∀ m:Nat,SpV w m (k+m+1):=by
 intro m
 induction m with
 | zero =>
  intro x v lo hi H Q hf q7 hh hr hQ
  cases x with
  | «at» a=>rw [show v=aV a from hr] at hQ ⊢;exact oQ (hQ H .refl rfl)
  | _=>exact hf.elim
 | succ m ih =>
  intro x v lo hi H Q hf q7 hh hr hQ
  have st:∀ {xs:List X}{l:List V}{p q:Nat},p<=H.length->q<=H.length->P4 H xs p q l->SpI H xs l p q 0 (H++[l]):=λhp hq h=>⟨.refl,_,.nil (D3 _),h.to (R1.one hq)⟩
  have at9:∀ {xs:List X}{l:List V}{p q:Nat},q<=H.length->∀ i G,SpI H xs l p q i G->G[H.length]? = some l:=λhq i G hI=>(hI.1.up _ hq (qz R6 (D9 _))).trans K6
  cases x with
  | «at» a=>rw [show v=aV a from hr] at hQ ⊢;exact oQ (hQ H .refl rfl)
  | tup xs =>
   obtain ⟨l,rfl,hr⟩:=hr
   exact Ar1 _ (st (D2 q7 hh) hh hr) (at9 hh) (yF ih hf.2 hh) λG hI=>hQ G ((Kp.one (D2 q7 hh)).then hI.1 (D3 _) (D3 _)) ⟨l,rfl,hI.fin (P4.reps _ hr).len⟩
  | lst xs =>
   apply Ah;intro g9 k9
   obtain ⟨a,l,p,q,rfl,hb,hn,ha,hr⟩:=hr
   apply k9
   have hq:=D2 hb.qh hh
   have hp:=D2 (P4.le _ hr) hq
   refine Ar2 ha _ (st hp hq hr) (at9 hq) (yF ih hf.2 hq) λG hI=>?_
   have kp:=(Kp.one (l:=l) hp).then hI.1 (D3 _) (D3 _)
   have hGa:G[a]? = some l:=by
    rcases hn with q|q
    ·exact (kp.low a (D8 _) q).trans ha
    ·exact (kp.up a q (M3 ha)).trans ha
   have hl:=(P4.reps _ hr).len
   refine ⟨l,hGa,by refine qz hl ?_;exact D7 hf.1 hw,hQ _ (((Kp.refl (H:=H)).then kp hb.lp hb.qh).then (Kp.set hb.la hb.ah) (D3 _) (D3 _)) ⟨a,_,p,q,rfl,hb,eZ hGa,((hI.fin hl).to (R1.set hn)).add (D3 _) rfl⟩⟩
mutual
noncomputable def nX:X->Nat
 | .at _=>0
 | .tup xs=>rL xs
 | .lst xs=>rL xs+1
noncomputable def rL:List X->Nat
 | []=>0
 | x::xs=>nX x+rL xs
end
theorem As4:∀ xs:List X,rL xs=(xs.map nX).sum:=by
 intro xs
 induction xs with
 | nil=>exact rfl
 | cons x xs ih=>exact D0 (nX x+·) (ih)
noncomputable def Mor (H G:Heap) (c:Nat):Prop:=∀ (a:Nat) (l:List V),H[a]? = some l->∃ j,j<=c/\G[a]? = some (l++List.replicate j (V.str bU))
noncomputable def SpW (H0:Heap) (lo hi m n:Nat):Prop:=∀ (x:X) (v:V) (p q c:Nat) (G:Heap) (Q:F8),Q2 W m x->N8 H0 x p q v->lo<=p->q<=hi->lo<=G.length->hi<=G.length->Mor H0 G c->c+nX x<=900001->(∀ G',Kp G G' lo hi->Mor H0 G' (c+nX x)->Q .none G')->Ac P n "_law_spoilt" [v] Q G
noncomputable def SwI (H0 G:Heap) (xs:List X) (l:List V) (lo hi c i:Nat) (G':Heap):Prop:=Kp (G++[l]) G' lo hi/\Mor H0 G' (c+((xs.map nX).take i).sum)
theorem Aq9 {lo hi m n p q c j:Nat}(ih:SpW H0 lo hi m (n+1)) (hf:∀ y∈xs,Q2 W m y) (hr:M1 H0 xs p q l) (hp:lo<=p) (hq:q<=hi) (hl:lo<=G.length) (hh:hi<=G.length) (hc:c+rL xs<=900001) (i:Nat) (G':Heap) (v:V) (K:F8) (hv:(l++List.replicate j (V.str bU))[i]? = some v) (hI:SwI H0 G xs (l++List.replicate j (V.str bU)) lo hi c i G')
  (hK:∀ G2,SwI H0 G xs (l++List.replicate j (V.str bU)) lo hi c (i+1) G2->K .none G2):Ac P (n+1) "_law_spoilt" [v] K G':=by
 rcases Nat.lt_or_ge i l.length with q1|q1
 ·rw [List.getElem?_append_left q1] at hv
  obtain ⟨x,hx,Cj⟩:=tE hr hv
  have e:c+((xs.map nX).take (i+1)).sum=c+((xs.map nX).take i).sum+nX x:=by
   refine qz List.take_add_one (qz E6 (qz hx (qz List.sum_append (qz (C2 _ _ _) ?_))))
   rfl
  have hG:=D2 (K3.one (H:=G) (x:=l++List.replicate j (V.str bU))).len hI.1.len
  refine ih x v p q _ G' K (hf x (E5 hx)) Cj hp hq (D2 hl hG) (D2 hh hG) hI.2 ?_ λG2 k2 m2=>hK G2 ⟨hI.1.then k2 (D3 _) (D3 _),qz e m2⟩
  exact qz e.symm (D2 (A6 (pA _ _) c) (As4 xs▸hc))
 ·rw [List.getElem?_append_right q1] at hv
  have hvm:=List.eq_of_mem_replicate (E5 hv)
  subst hvm
  have e:(xs.map nX).take (i+1)=(xs.map nX).take i:=by
   have:(xs.map nX).length<=i:=qz (E3 _) (qz hr.len.symm q1)
   exact qz (List.take_of_length_le this) (qz (List.take_of_length_le (C8 this)) rfl)
  exact oQ (a:=.s bU) (hK G' ⟨hI.1,qz e hI.2⟩)
theorem SwI.fin (hl:l.length=xs.length) (h:SwI H0 G xs (l++List.replicate j (V.str bU)) lo hi c (l++List.replicate j (V.str bU)).length G'):Mor H0 G' (c+rL xs):=by
 have:=h.2
 rw [List.take_of_length_le (by exact qz (E3 _) (qz D4 (qz hl (E1 _ _)))),<- As4] at this
 exact this
theorem Mor.set (h:Mor H0 G c) (ha:H0[a]? = some l) (hg:G[a]? = some (l++List.replicate j (V.str bU))) (hj:j<=c):Mor H0 (G.set a (l++List.replicate j (V.str bU)++[.str bU])) (c+1):=λb k hb=>by
 by_cases e:b=a
 ·subst e
  cases ha.symm.trans hb
  exact ⟨j+1,E0 hj,qz (eZ hg) (qz (D5 _ _ _) (qz List.replicate_succ'.symm rfl))⟩
 ·obtain ⟨i,h1,h2⟩:=h b k hb
  exact ⟨i,C8 h1,qz (A9 (Ne.symm e)) h2⟩
theorem Co2:∀ m:Nat,SpW H0 lo hi m (k+m+1):=by
 intro m
 induction m with
 | zero =>
  intro x v p q c G Q hf hr hp hq hl hh hM hc hQ
  cases x with
  | «at» a=>exact qz (show v=aV a from hr) (oQ (hQ G .refl hM))
  | _=>exact hf.elim
 | succ m ih =>
  intro x v p q c G Q hf hr hp hq hl hh hM hc hQ
  have at9:∀ {xs:List X}{l:List V}{c:Nat},∀ i G',SwI H0 G xs l lo hi c i G'->G'[G.length]? = some l:=λi G' hI=>(hI.1.up _ hh (qz R6 (D9 _))).trans K6
  have st:∀ {xs:List X}{l:List V},SwI H0 G xs l lo hi c 0 (G++[l]):=⟨.refl,λa l ha=>by
   obtain ⟨j,h1,h2⟩:=hM a l ha
   exact ⟨j,h1,P9 h2⟩⟩
  cases x with
  | «at» a=>exact qz (show v=aV a from hr) (oQ (hQ G .refl hM))
  | tup xs =>
   obtain ⟨l,rfl,hr⟩:=hr
   have e0:l=l++List.replicate 0 (V.str bU):=(List.append_nil l).symm
   exact qz e0 (Ar1 _ st at9 (Aq9 ih hf.2 hr hp hq hl hh hc) λG' hI=>hQ G' ((Kp.one hl).then hI.1 (D3 _) (D3 _)) (hI.fin hr.len))
  | lst xs =>
   apply Ah;intro g9 k9
   obtain ⟨a,l,p',q',rfl,hb,ha,hr⟩:=hr
   obtain ⟨j,h1,h2⟩:=hM a l ha
   apply k9
   have j0:=D2 (E1 _ 1) hc
   refine Ar2 h2 _ st at9 (Aq9 ih hf.2 hr (D2 hp hb.lp) (D2 hb.qh hq) hl hh j0) λG' hI=>?_
   have hM':=hI.fin hr.len
   obtain ⟨j',h3,h4⟩:=hM' a l ha
   refine ⟨_,h4,?_,hQ _ (((Kp.one hl).then hI.1 (D3 _) (D3 _)).then (Kp.set (D2 hp hb.la) (D6 hb.ah hq)) (D3 _) (D3 _)) (hM'.set ha h4 h3)⟩
   exact qz D4 (qz List.length_replicate (qz hr.len (D7 (B3 hf.1 (D2 h3 j0)) (by show 15800000+900001<16777216;decide))))
mutual
theorem nT:∀ t:T,nX (i0 t)<=(Aj t).length
 | .Al _=>D8 _
 | .kept _=>D8 _
 | .code _ _=>D8 _
 | .span c ts b=>by
  have:=nTs ts
  show 0+(0+(rL (M0 ts)+1+(0+0)))<=([c,40]++Ab ts++_).length
  refine qz D4 (qz D4 ?_)
  show _<=2+(Ab ts).length+_
  exact S5 this
 | .link ts g b=>by
  have:=nTs ts
  have h:nX (i0 (.link ts g b))=0+(rL (M0 ts)+1+(0+(0+0))):=rfl
  refine qz h ?_
  cases g with
  | none =>
   show _<=([91]++Ab ts++_).length
   refine qz D4 (qz D4 ?_)
   show _<=1+(Ab ts).length+_
   exact S5 this
  | some s =>
   show _<=([91]++Ab ts++[93,40]++s++_).length
   refine qz D4 (qz D4 (qz D4 (qz D4 ?_)))
   show _<=1+(Ab ts).length+2+_+_
   exact S5 this
theorem nTs:∀ ts:List T,rL (M0 ts)<=(Ab ts).length
 | []=>D3 _
 | t::ts=>by
  show nX (i0 t)+rL (M0 ts)<=(Aj t++Ab ts).length
  exact qz D4 (B3 (nT t) (nTs ts))
end
theorem nT1 (ts:List T):rL (M0 ts)+2<=(Ab ts).length+30:=B3 (nTs ts) (by decide)
mutual
theorem nI:∀ i:It,nX (Fy i)<=Dr i
 | .it n ts sub=>by
  have h1:=nT1 ts
  have h2:=nIs sub
  show 0+(rL (M0 ts)+1+(rL (X9 sub)+1+0))<=(Ab ts).length+30+An sub
  exact S5 (U1 h1 h2)
theorem nIs:∀ is:List It,rL (X9 is)<=An is
 | []=>D3 _
 | i::is=>B3 (nI i) (nIs is)
end
theorem nR:∀ rs:List (List T),rL (qW rs)<=Dd rs:=by
 intro rs
 induction rs with
 | nil=>exact D3 _
 | cons ts rs ih=>exact B3 (D2 (E4 _) (nT1 ts)) (ih)
mutual
theorem nB:∀ b:Bk,nX (Di b)<=Co b
 | .gap _=>D8 _
 | .head n ts=>by
  have h1:=nT1 ts
  show 0+(0+(rL (M0 ts)+1+0))<=(Ab ts).length+30
  exact S5 h1
 | .list is=>by
  have:=nIs is
  show 0+(rL (X9 is)+1+0)<=An is+1
  exact S5 this
 | .para rs=>by
  have:=nR rs
  show 0+(rL (qW rs)+1+0)<=Dd rs+1
  exact S5 this
 | .quote bs=>by
  have:=nBs bs
  show 0+(rL (O9 bs)+1+0)<=Am bs+1
  exact S5 this
theorem nBs:∀ bs:List Bk,rL (O9 bs)<=Am bs
 | []=>D3 _
 | b::bs=>B3 (nB b) (nBs bs)
end
theorem Cx2 {s:List Nat}(h:∀ c∈s,c≠41):s.contains 41=false:=by
 cases e:s.contains 41 with
 | false=>rfl
 | true=>exact absurd rfl (h 41 (List.contains_iff_mem.mp e))
theorem Bd9 {n:Nat}{s:List Nat}{H:Heap}{Q:F8}(hs:TO s) (h:Q .none H):Ac P (n+3) "need_target" [.str s] Q H :=
 E9 rfl rfl (E8 (R5 (b:=false) (b2:=false) (bR (t:=true) (K4 iq (X7 hs.1))) λZ=>Z8 (Q0 (H9 iq iq An1) (Cx2 hs.2))) h)
theorem Cb9 {n c:Nat}(hc:c<32) (Q:F8) (h:Q (.bool false) H):Ac P (n+1) "is_sign" [.str [c]] Q H :=
 E9 rfl rfl (F9 (Cg5 iq) (O0 (K7 (b:=false) (b2:=false) (Q0 (H9 iq iq tD) (decide_eq_false (Int.not_le.mpr (Int.ofNat_lt.mpr hc)))) λq=>xF q) h))
theorem Bh2 {n c:Nat}(hp:Sg p) (hc:c<32) (Q:F8) (h:Q (.bool false) H):Ac P (n+2) "is_row" [.str (p++c::r)] Q H:=by
 refine E9 rfl rfl (E8 iq (M7 (Bg2 (σ:=Option V) (λe=>[some (.str (p++c::r)),e]) (λi Z G=>G=H/\i<=p.length) (t:=p++c::r) (λi e G d hd hI K hK=>?_) (λe G hI=>?_) none iq ⟨rfl,D8 _⟩)))
 ·obtain ⟨rfl,hi⟩:=hI
  rcases Nat.lt_or_ge i p.length with q|q
  ·rw [List.getElem?_append_left q] at hd
   exact E8 (bR (t:=true) (K4 iq (Ar4 (hp d (E5 hd))))) (hK _ _ ⟨rfl,q⟩)
  ·rw [Nat.le_antisymm hi q,List.getElem?_append_right (D3 _),Nat.sub_self] at hd
   cases hd
   exact H7 (bR (t:=false) (K4 iq (Cb9 hc))) (O0 iq h)
 ·rw [D4] at hI
  exact absurd hI.2 (Nat.not_le_of_lt (C9 (Nat.succ_pos _)))
noncomputable def Bad (v:V):Prop:=(∀ (n:Nat) (H:Heap) (Q:F8),Q (.bool false) H->Ac P (n+2) "is_row" [v] Q H)∨∃ s,v=.str s/\Sg s/\41∈s
theorem yQ {P:Prg}{n:Nat}{R:Heap->Prop}(hf:P f=some fn) (hl:vs.length=fn.params) (h:Ad1 (Ac P n) (cE P c n) c fn.body (frame fn vs) R H):cE P c (n+1) f vs R H:=by
 show (match P f with | some fn=>_ | none=>_)
 exact qz hf ⟨hl,h⟩
theorem yK {R:Heap->Prop}(h:Fv C ρ H es vs) (k:C f vs (λZ Hw=>gO.next=.next/\Ad1 C RC c ss ρ R Hw) H):Ad1 C RC c (.expr (.call f es)::ss) ρ R H:=Or.inr (h _ k)
theorem Ci4 {n:Nat}{R:Heap->Prop}(hb:Bad v) (h:R H):cE P "BadText" (n+3) "need_target" [v] R H:=by
 refine yQ rfl rfl (uK (Cn8 ?_))
 have ev:Ev (Ac P (n+2)) [some v] H (.or [.not (.call "is_row" [J0]),.cmp .isin (.str [41]) J0]) (.bool true):=by
  rcases hb with hb|⟨s,rfl,h1,h2⟩
  ·exact R5 (b:=true) (b2:=true) (bR (t:=false) (K4 (vs:=[v]) iq (hb n H))) λq=>xB q
  ·exact R5 (b:=false) (b2:=true) (bR (t:=true) (K4 (vs:=[.str s]) iq (X7 h1))) λZ=>Z8 (Q0 (H9 iq iq An1) (List.contains_iff_mem.mpr h2))
 exact ev _ ⟨rfl,h⟩
section
variable {bs:List Bk}{a lo hi n:Nat}{H:Heap}{o w:List Nat}
theorem Bd1 (f6:bs≠[]) (hb:aM 0 [] bs) (hf:Q2 W 65 (.lst (O9 bs))) (hr:N8 H (.lst (O9 bs)) lo hi (.ref a)) (hh:hi<=H.length) (ho:TO o) (hw:TO w) (h:∀ b G,K3 H G->S6 G (.lst (O9 (bO o w bs))) H.length G.length (.ref b)->Q (.ref b) G):Ac P (n+63) "turned" [.ref a,.str o,.str w] Q H :=
 E9 rfl rfl (P8 (vs:=[.ref a]) iq (uU f6 hb hf hr hh λG g=>P8 (vs:=[.str o]) iq (Bd9 (n:=n+59) ho (P8 (vs:=[.str w]) iq (Bd9 (n:=n+59) hw (rU (vs:=[.ref a,.str o,.str w]) iq (Cw5 9 (n+28) bs 0 [] 65 a lo hi G _ rfl hb hf (hr.grow g hh) (D2 hh g.len) λb G' g' h'=>h b G' (g.trans g') (S6.mono _ .refl g.len (D3 _) h'))))))))
theorem Ch6 {R:Heap->Prop}(f6:bs≠[]) (hb:aM 0 [] bs) (hf:Q2 W 65 (.lst (O9 bs))) (hr:N8 H (.lst (O9 bs)) lo hi (.ref a)) (hh:hi<=H.length) (hv:Bad v2∨(∃ o,v2=.str o/\TO o)/\Bad v3) (h:∀ G,K3 H G->R G):cE P "BadText" (n+63) "turned" [.ref a,v2,v3] R H:=by
 refine yQ rfl rfl (yK (vs:=[.ref a]) iq (uU f6 hb hf hr hh λG g=>⟨rfl,?_⟩))
 rcases hv with hv|⟨⟨o,rfl,ho⟩,hv⟩
 ·exact uK (Or.inl ⟨_,rfl,mO (K5 (v:=v2) iq (K8 (Ci4 (n:=n+59) hv (h G g))))⟩)
 ·exact yK (vs:=[.str o]) iq (Bd9 (n:=n+59) ho ⟨rfl,uK (Or.inl ⟨_,rfl,mO (K5 (v:=v3) iq (K8 (Ci4 (n:=n+59) hv (h G g))))⟩)⟩)
end
theorem Bt3 {w p:List Nat}{j:Nat}{r:List Nat}(hw:Sg w) (e:w=p++r) {c:Nat}(hc:([10,41,9]:List Nat)[j]? = some c):Bad (.str (p++[c]++r)):=by
 rw [e] at hw
 obtain ⟨hp,hr⟩:=hw.cut
 refine qz (D5 _ _ _) ?_
 match j,hc with
 | 0,hc=>cases hc;exact Or.inl λn H Q h=>Bh2 hp (by decide) Q h
 | 1,hc=>cases hc;exact Or.inr ⟨_,rfl,hp.app ((Sg.one (by decide)).app hr),List.mem_append_right _ (.head _)⟩
 | 2,hc=>cases hc;exact Or.inl λn H Q h=>Bh2 hp (by decide) Q h
theorem pO (h:dU v .str=false):Bad v:=Or.inl λn H Q q=>E9 rfl rfl (H7 (bR (t:=false) (Q0 (kF iq) h)) (O0 iq q))
theorem Bv1 (x:Int) {m:Nat}(hm:0<m):∃ j:Nat,x % (m:Int)=(j:Int)/\j<m:=by
 have hm':(m:Int)≠0:=λq=>absurd (Int.ofNat.inj q) (Nat.ne_of_gt hm)
 obtain ⟨j,hj⟩:=Int.eq_ofNat_of_zero_le (Int.emod_nonneg x hm')
 exact ⟨j,hj,Int.ofNat_lt.mp (hj▸Int.emod_lt_of_pos x (Int.ofNat_lt.mpr hm))⟩
theorem Co7 {bs:List Bk}{a lo hi n:Nat}{H:Heap}{o w:List Nat}{z:Int}{R:Heap->Prop}(f6:bs≠[]) (hb:aM 0 [] bs) (hf:Q2 W 65 (.lst (O9 bs))) (hr:N8 H (.lst (O9 bs)) lo hi (.ref a)) (hh:hi<=H.length) (ho:TO o) (hw:Tg w) (h:∀ G,K3 H G->R G) :
  Au6 (Ac P (n+63)) (cE P "BadText" (n+63)) U0.body An6 Bd0 Bc9 [some (.ref a),some (.str o),some (.str w),some (.int z),none,none] R H:=by
 apply Ah;intro g9 k9
 obtain ⟨i,hi1,hi2⟩:=Bv1 z (m:=w.length+1) (Nat.succ_pos _)
 obtain ⟨j,hj1,hj2⟩:=Bv1 z (m:=3) (by decide)
 obtain ⟨k,hk1,hk2⟩:=Bv1 (z / 3) (m:=4) (by decide)
 apply k9
 have hc:([10,41,9]:List Nat)[j]? = some ([10,41,9]:List Nat)[j]:=A8 hj2
 have hbad:=Bt3 hw.sg (List.take_append_drop i w).symm hc
 have hl1:=D2 (List.length_take_le' i w) hw.len
 have hl2:(w.drop i).length<=48:=qz List.length_drop (D2 (Nat.sub_le _ _) hw.len)
 have Gk:(w.take i).length+1<=P0:=D2 (E0 hl1) (by decide)
 have b7:(w.take i++[([10,41,9]:List Nat)[j]]).length+(w.drop i).length<=P0:=by
  exact qz D4 (D2 (B3 (E0 hl1) hl2) (by decide))
 refine F9 (v:=.int (i:Nat)) (jX (K0 iq (K0 (Q1 iq oM) G9 U3) (Q8 (Int.ofNat_lt.mpr (Nat.succ_pos w.length)))) (D0 V.int hi1)) ?_
 generalize ([10,41,9]:List Nat)[j]=c at hc hbad b7
 have es1:∀ {G:Heap},cK (.str w) none (some (i:Int)) G=some (.str (w.take i),G):=λ{G}=>by
  show some (V.str (slice w none (some (i:Int))),G)=_
  exact qz (oX (C6 _)) (qz (Int.toNat_natCast _) rfl)
 have es2:∀ {G:Heap},cK (.str w) (some (i:Int)) none G=some (.str (w.drop i),G):=λ{G}=>by
  show some (V.str (slice w (some (i:Int)) none),G)=_
  exact qz (X0 (C6 _)) (qz (Int.toNat_natCast _) rfl)
 refine P1 (rT (aJ (K5 (v:=.str (w.take i++[c]++w.drop i)) (K0 (K0 (Ae0 (by exact iq) (by exact iq) es1) (L6 S7 (jX (K0 (by exact iq) G9 (Q8 (by decide))) (D0 V.int hj1)) (wQ hc)) (bC Gk)) (Ad9 (by exact iq) (by exact iq) es2) (bC b7)) (K5 (v:=.none) iq (K5 (v:=.int (z % 1000000000)) (K0 (by exact iq) (K0 G9 G9 rfl) (Q8 (by decide))) (Q9 (aJ (K5 (v:=.str w) (by exact iq) (K8 (K8 ?_))))))))))
 have j4:∀ v∈[V.str (w.take i++[c]++w.drop i),.none,.int (z % 1000000000),.ref H.length],Bad v:=λv hv=>by
  rcases B0 hv with rfl|hv
  ·exact hbad
  ·rcases B0 hv with rfl|hv
   ·exact pO rfl
   ·rcases B0 hv with rfl|hv
    ·exact pO rfl
    ·exact qz (B1 hv) (pO rfl)
 have hv:([V.str (w.take i++[c]++w.drop i),.none,.int (z % 1000000000),.ref H.length]:List V)[k]? = some ([V.str (w.take i++[c]++w.drop i),.none,.int (z % 1000000000),.ref H.length]:List V)[k]:=A8 hk2
 have hbv:=j4 _ (E5 hv)
 generalize ([V.str (w.take i++[c]++w.drop i),.none,.int (z % 1000000000),.ref H.length]:List V)[k]=v at hv hbv
 have ei:∀ {C:Calls}{x4 x5:Option V}{G:Heap},Ev C [some (.ref a),some (.str o),some (.str w),some (.int z),x4,x5] G (.bin .mod (.bin .fdiv J3 (.int 3)) (.int 4)) (.int (k:Nat)):=jX (K0 (K0 (by exact iq) G9 (R4 (by decide))) G9 (Q8 (by decide))) (D0 V.int hk1)
 refine ei _ (Ae1 K6 hv ⟨rfl,?_⟩)
 have et:∀ {C:Calls}{x4 x5:Option V}{G:Heap},Ev C [some (.ref a),some (.str o),some (.str w),some (.int z),x4,x5] G An6 (.bool (z / 12 % 2==0)):=H9 (K0 (K0 (by exact iq) G9 (R4 (by decide))) G9 (Q8 (by decide))) G9 Y2
 have g2:=(K3.one (H:=H) (x:=[V.str w])).trans (.one (x:=[V.str (w.take i++[c]++w.drop i),.none,.int (z % 1000000000),.ref H.length]))
 have hr2:=hr.grow g2 hh
 have hh2:=D2 hh g2.len
 refine et _ ?_
 cases z / 12 % 2==0 with
 | true=>exact mO (K5 (v:=.ref a) iq (K5 (v:=v) iq (K5 (v:=.str w) iq (K8 (Ch6 f6 hb hf hr2 hh2 (Or.inl hbv) λG g=>h G (g2.trans g))))))
 | false=>exact mO (K5 (v:=.ref a) iq (K5 (v:=.str o) iq (K5 (v:=v) iq (K8 (Ch6 f6 hb hf hr2 hh2 (Or.inr ⟨⟨o,rfl,ho⟩,hbv⟩) λG g=>h G (g2.trans g))))))
theorem Cb6:∀ rs:List (List Nat),(rs.map List.length).sum+rs.length * 1=Be 1 rs:=by
 intro rs
 induction rs with
 | nil=>exact rfl
 | cons r rs ih =>
  show r.length+(rs.map List.length).sum+(rs.length+1) * 1=r.length+1+Be 1 rs
  refine qz ih.symm ?_;lia
structure Pu (bs:List Bk):Prop where
 bo:aM 0 [] bs
 ne:bs≠[]
 fit:Q2 W 65 (.lst (O9 bs))
 sz:Am bs<=900000
theorem An4 {n:Nat}{ns:List Int}(i7:ns.length<=63) (h0:∀ G,Ev (Ac P (n+16)) ρ G J0 (.Bv ns)) (h:∀ b G,Pu (iQ (ns.drop 3))->K3 H G->N8 G (.lst (O9 (iQ (ns.drop 3)))) H.length G.length (.ref b)->Q (.ref b) G):L0 (Ac P (n+16)) (.call "_law_tree" [.Aw J0 (.int 3)]) ρ Q H:=by
 have e:slice ns (some 3) none=ns.drop 3:=X0 (by decide)
 refine P7 (Q9 (Co0 (h0 H) G9 ?_))
 have e2:cK (.Bv ns) (some 3) none H=some (.ref H.length,H++[(ns.drop 3).map V.int]):=by
  show some (V.ref H.length,H++[(slice ns (some 3) none).map V.int])=_
  exact qz e rfl
 refine qz e2 ?_
 show Ac P (n+16) "_law_tree" [.ref H.length] Q (H++[(ns.drop 3).map V.int])
 exact (Cb1 (c0:=H.length) K6 (qz List.length_drop (D2 (Nat.sub_le _ _) i7)) λG t=>h _ G ⟨t.bo,t.ne,t.fit,t.sz⟩ (K3.one.trans t.gr) (t.rep.wide K3.one.1 (D3 _)))
noncomputable def Ei (ns:List Int) (k:Nat):Int:=(ns[k]?).getD 0
theorem vB {n k:Nat}{ns:List Int}(Q:F8) (h:Q (.int (Ei ns k)) H):Ac P (n+1) "_law_cell_at" [.Bv ns,.int (k:Nat)] Q H:=by
 refine E9 rfl rfl ?_
 unfold Ei at h
 rcases Nat.lt_or_ge k ns.length with q|q
 ·have hx:ns[k]? = some ns[k]:=A8 q
  rw [hx] at h
  refine H7 (Q0 (H9 iq (Q1 iq Bg1) aZ) (decide_eq_true (Int.ofNat_lt.mpr q))) (O0 (L6 iq iq ?_) h)
  show (R2 (k:Int) ns.length).bind (λi=>(ns[i]?).map V.int)=_
  refine qz (Z3 q) ?_
  show (ns[k]?).map V.int=_
  refine qz hx ?_;rfl
 ·rw [List.getElem?_eq_none q] at h
  exact E8 (Q0 (H9 iq (Q1 iq Bg1) aZ) (decide_eq_false λp=>absurd (Int.ofNat_lt.mp p) (Nat.not_lt_of_le q))) (O0 iq h)
section
variable {C:Calls}{ρ:M6}{G:Heap}
theorem tR {Φ Ψ:Heap->Prop}(h1:aF C ρ G e (.bool false) Φ) (h2:∀ G',Φ G'->aF C ρ G' f (.bool false) Ψ):aF C ρ G (.or [e,f]) (.bool false) Ψ:=nN h1 λG g=>rQ (h2 G g)
theorem Be4 {x:X}(hw:w<4611686018427387904) (he:Ev (Ac P 101) ρ G e u) (hf:Ev (Ac P 101) ρ G f v) (hx:Q2 w 65 x) (hu:N8 G x lo hi u) (hv:N8 G x lo' d7 v):aF (Ac P 101) ρ G (.not (.call "_law_alike" [e,f])) (.bool false) (λG'=>G'=G) :=
 gT (t:=true) (bE (I8 he (I8 hf Q7)) λQ k=>jH (k:=35) hw 65 x u v lo hi lo' d7 hx hu hv Q (k G rfl))
theorem Be3 {ns:List Int}(i7:ns.length<=63) (e:iQ (ns.drop 3)=bs) (hp:Pu bs) (h0:∀ G,Ev (Ac P 101) ρ G J0 (.Bv ns)) (h1:Ev (Ac P 101) ρ G J1 (.ref a)) (hr:N8 G (.lst (O9 bs)) lo hi (.ref a)) (hh:hi<=G.length):aF (Ac P 101) ρ G (.call "_law_alike" [J1,.call "_law_tree" [.Aw J0 (.int 3)]]) (.bool true) (K3 G):=λQ k =>
 P7 (K5 h1 (Q9 (An4 (n:=85) i7 h0 λb G' Z g r=>K8 (jH (k:=35) (w:=W) (by decide) 65 _ _ _ _ _ _ _ hp.fit (hr.grow g hh) (by rw [e] at r;exact r) _ (k G' g)))))
end
structure St (x1 x2:X) (a d f t1 t2 d1 d2 f1 f2:Nat) (G:Heap):Prop where
 tre:N8 G x1 t1 t2 (.ref a)
 due:S6 G x2 d1 d2 (.ref d)
 fnd:S6 G x2 f1 f2 (.ref f)
 o1:t2<=d1
 o2:d1<=d2
 o3:d2<=f1
 o4:f1<=f2
 o5:f2<=G.length
section
variable {x1 x2:X}{a d f t1 t2 d1 d2 f1 f2:Nat}{G G':Heap}
theorem St.d2f (h:St x1 x2 a d f t1 t2 d1 d2 f1 f2 G):d2<=f2:=D2 h.o3 h.o4
theorem St.t2d (h:St x1 x2 a d f t1 t2 d1 d2 f1 f2 G):t2<=d2:=D2 h.o1 h.o2
theorem St.dl (h:St x1 x2 a d f t1 t2 d1 d2 f1 f2 G):d2<=G.length:=D2 h.d2f h.o5
theorem St.tl (h:St x1 x2 a d f t1 t2 d1 d2 f1 f2 G):t2<=G.length:=D2 h.t2d h.dl
theorem St.to (h:St x1 x2 a d f t1 t2 d1 d2 f1 f2 G) (e:R1 G G' 0 f2) (k:G.length<=G'.length):St x1 x2 a d f t1 t2 d1 d2 f1 f2 G' :=
 ⟨h.tre.to (e.sub (D8 _) (D2 h.t2d h.d2f)),h.due.to (e.sub (D8 _) h.d2f),h.fnd.to (e.sub (D8 _) (D3 _)),h.o1,h.o2,h.o3,h.o4,D2 h.o5 k⟩
theorem St.grow (h:St x1 x2 a d f t1 t2 d1 d2 f1 f2 G) (g:K3 G G'):St x1 x2 a d f t1 t2 d1 d2 f1 f2 G':=h.to (g.old.sub (D3 _) h.o5) g.len
end
theorem Mor.zero:Mor G G 0:=λa l h=>⟨0,D3 _,qz h (D0 some (List.append_nil l).symm)⟩
section
variable {ns:List Int}{bs:List Bk}{o w:List Nat}{a t1 t2:Nat}{x2 x3 x4:Option V}{G:Heap}
theorem Bq8 {d f d1 d2 f1 f2:Nat}(i7:ns.length<=63) (e:iQ (ns.drop 3)=bs) (hp:Pu bs) (ho:TO o) (hw:TO w) (j6:Q2 W 65 (.lst (O9 (bO o w bs)))) (h:St (.lst (O9 bs)) (.lst (O9 (bO o w bs))) a d f t1 t2 d1 d2 f1 f2 G) (hQ:∀ ρ G,Q (.ret (.bool true)) ρ G) :
  K1 (Ac P 101) (Bd7.drop 5) [some (.Bv ns),some (.ref a),x2,x3,x4,some (.str o),some (.str w),some (.ref d),some (.ref f),some (.str t),none,none] Q G:=by
 refine P1 (An4 (n:=85) i7 (by exact λZ Z h=>h) λb G1 Z g1 r1=>?_)
 rw [e] at r1
 refine aB (vs:=[.ref b,.str o,.str w]) (by exact iq) (Bd1 (n:=38) hp.ne hp.bo hp.fit r1 (D3 _) ho hw λl G2 g2 r2=>?_)
 have s2:=h.grow (g1.trans g2)
 refine P8 (vs:=[.ref b]) (by exact iq) (Co2 (H0:=G2) (lo:=G.length) (hi:=G1.length) (k:=35) 65 _ _ _ _ 0 G2 _ hp.fit (r1.grow g2 (D3 _)) (D3 _) (D3 _) (g1.trans g2).len g2.len .zero ?_ λG3 k3 Z=>?_)
 ·exact qz (Nat.zero_add _) (E0 (D2 (nBs bs) hp.sz))
 have s3:=s2.to (k3.low.sub (D3 _) h.o5) k3.len
 have r3:=(S6.rep _ r2).to k3.up
 refine T7 (tR (Be4 (w:=W) (by decide) (by exact iq) (by exact iq) j6 r3 (S6.rep _ s3.due)) λG' e'=>qz e' (Be4 (w:=W) (by decide) (by exact iq) (by exact iq) j6 (S6.rep _ s3.fnd) (S6.rep _ s3.due))) λG' e'=>?_
 refine qz e' ?_
 refine P8 (vs:=[.ref f]) (by exact iq) (Bg8 (w:=W) (k:=35) (by decide) 65 _ _ _ _ G3 _ j6 s3.o4 s3.o5 s3.fnd λG4 k4 r4=>?_)
 have t4:=s3.tre.to (k4.low.sub (D8 _) (D2 h.t2d h.o3))
 have u4:=s3.due.to (k4.low.sub (D8 _) h.o3)
 have lf:=D2 s3.o5 k4.len
 have ld:=D2 h.d2f lf
 have lt:=D2 h.t2d ld
 refine T7 (Φ:=K3 G4) (tR (gT (t:=true) (Be3 i7 e hp (by exact λZ Z h=>h) (by exact iq) t4 lt)) λG5 g5=>?_) λG6 g6=>?_
 ·exact gT (t:=true) λQ k=>P7 (R0 (vs:=[.ref a,.str o,.str w]) (by exact iq) (Bd1 (n:=38) hp.ne hp.bo hp.fit (t4.grow g5 lt) (D2 lt g5.len) ho hw λb5 G6 g6 r6=>K5 (v:=.ref d) (by exact iq) (K8 (jH (k:=35) (w:=W) (by decide) 65 _ _ _ _ _ _ _ j6 (S6.rep _ r6) ((S6.rep _ u4).grow (g5.trans g6) ld) _ (k _ (g5.trans g6))))))
 refine P8 (vs:=[.ref d]) (by exact iq) (Bg8 (w:=W) (k:=35) (by decide) 65 _ _ _ _ G6 _ j6 h.o2 (D2 ld g6.len) (u4.to (g6.old.sub (D8 _) ld)) λG7 k7 r7=>?_)
 have r8:=(r4.grow g6 lf).to (k7.up.sub h.o3 (D2 lf g6.len))
 exact rU (vs:=[.ref f,.ref d]) (by exact iq) (jH (k:=35) (w:=W+1) (by decide) 65 _ _ _ _ _ _ _ j6.sp r8 r7 _ (hQ _ _))
theorem Bq7 (i7:ns.length<=63) (e:iQ (ns.drop 3)=bs) (hp:Pu bs) (ho:TO o) (hw:Tg w) (hr:N8 G (.lst (O9 bs)) t1 t2 (.ref a)) (hh:t2<=G.length) (hQ:∀ ρ G,Q (.ret (.bool true)) ρ G) :
  K1 (Ac P 101) Bd7 [some (.Bv ns),some (.ref a),x2,x3,x4,some (.str o),some (.str w),none,none,none,none,none] Q G:=by
 have hwo:TO w:=⟨hw.sg,hw.no⟩
 have Ba:=Ag5 (o:=o) hw bs hp.bo hp.sz
 have f6:bO o w bs≠[]:=As3 hp.ne
 have j8:Am (bO o w bs)<=15300000:=D2 (Bd4 hw bs) (Nat.mul_le_mul_left 17 hp.sz)
 have j6:Q2 W 65 (.lst (O9 (bO o w bs))):=(Ag1 (deep:=0) (D8 _) Ba (D2 j8 (by decide))).up (D3 _) (by decide)
 have hD:=Cc2 Ba f6 (D2 j8 (by decide))
 have htot:Be 1 (Ag (bO o w bs))<=15800000:=D2 hD.Be (by decide)
 refine P1 (P7 (Q9 (An4 (n:=85) i7 (by exact λZ Z h=>h) λb G1 Z g1 r1=>?_)))
 rw [e] at r1
 refine K5 (v:=.str o) (by exact iq) (K5 (v:=.str w) (by exact iq) (K8 (Cy0 9 67 bs 0 [] 65 b _ _ G1 _ rfl hp.bo hp.fit r1 (D3 _) λd G2 g2 r2=>?_)))
 refine aB (vs:=[.ref a,.str o,.str w]) (by exact iq) (Bd1 (n:=38) hp.ne hp.bo hp.fit (hr.grow (g1.trans g2) hh) (D2 hh (g1.trans g2).len) ho hwo λf G3 g3 r3=>?_)
 have s3:St (.lst (O9 bs)) (.lst (O9 (bO o w bs))) a d f t1 t2 G1.length G2.length G2.length G3.length G3:=⟨hr.grow (g1.trans (g2.trans g3)) hh,r2.to (g3.old.sub (D8 _) (D3 _)),r3,D2 hh g1.len,g2.len,D3 _,g3.len,D3 _⟩
 refine T7 (Φ:=K3 G3) (tR (Be4 (w:=W) (by decide) (by exact iq) (by exact iq) j6 (S6.rep _ s3.fnd) (S6.rep _ s3.due)) λG' e'=>qz e' (gT (t:=true) (Be3 i7 e hp (by exact λZ Z h=>h) (by exact iq) s3.tre s3.tl))) λG4 g4=>?_
 have s4:=s3.grow g4
 clear s3
 refine P1 (Bc7 (by exact iq) (P7 (K5 (v:=.ref d) (by exact iq) (K8 (Bq2 9 68 _ _ _ _ G4 _ (mY rfl Ba) (S6.rep _ s4.due) s4.dl htot λc G5 o5=>Ch1 _ o5.get (D2 (A4 (Cb6 _)) (D2 hD.Be (by decide))) ?_)))))
 have s5:=s4.grow o5.gr
 clear s4
 have hjl:=hD.len
 have hsh:∀ {Q:F8},(∀ G,K3 G5 G->Q (.str (Ad [10] (Ag (bO o w bs)))) G)->Ac P 101 "shown" [.ref f] Q G5:=λk=>Bp0 (n:=37) f6 Ba j6 (S6.rep _ s5.fnd) s5.o5 (D2 (dY _) htot) (λr hr=>D2 (jD r hr) htot) (D2 hjl (by decide)) k
 have hrd:∀ {Q:F8}{H:Heap},BQ H (.lst (O9 (bO o w bs))) Q->Ac P 101 "read" [.str (Ad [10] (Ag (bO o w bs)))] Q H:=λh=>Cc6 (n:=76) hD.sg hD.len (qz hD.back h)
 clear hD
 generalize Ad [10] (Ag (bO o w bs))=t at hsh hrd
 refine T7 (Φ:=K3 G5) (tR (rR (Φ:=K3 G5) (Ψ:=K3 G5) (bE (vs:=[.ref f]) (by exact iq) λQ k=>hsh k) (λG6 g6=>by exact λQ k=>k G6 g6) λG6 g6=>by refine qz nK (qz (beq_self_eq_true _) ?_);rfl) λG6 g6=>?_) λG7 g7=>?_
 ·exact gT (t:=true) λQ k=>P7 (R0 (vs:=[.str t]) (by exact iq) (hrd λv7 G7 g7 r7=>K5 (v:=.ref d) (by exact iq) (K8 (jH (k:=35) (w:=W) (by decide) 65 _ _ _ _ _ _ _ j6 r7 ((S6.rep _ s5.due).grow (g6.trans g7) s5.dl) _ (k _ (g6.trans g7))))))
 exact Bq8 i7 e hp ho hwo j6 (s5.grow g7) hQ
end
theorem Bq9 {t tr e1 e2 e3:E}(et:Ev C ρ H t (.bool b)) (h1:b=true->V2 C es ρ (λvs Hv=>vs.length=fn.params/\Au6 C' RC fn.body tr e1 e2 (frame fn vs) (λHy=>L0 C e3 ρ Q Hy) Hv) H) (h2:b=false->K1 C rest ρ (λfl Z Hv=>∃ v,fl=.ret v/\Q v Hv) H) :
  L0 C t ρ (λv Hz=>Bb (O4 v) (λb Hz=>match b with
   | true=>V2 C es ρ (λvs Hv=>vs.length=fn.params/\Au6 C' RC fn.body tr e1 e2 (frame fn vs) (λHy=>L0 C e3 ρ Q Hy) Hv) Hz
   | false=>K1 C rest ρ (λfl Z Hv=>∃ v,fl=.ret v/\Q v Hv) Hz) Hz) H:=et _ (by
 cases b with
 | true=>exact h1 rfl
 | false=>exact h2 rfl)
theorem Ce1 {ns:List Int}{x y:Int}(i7:ns.length<=63) (e:iQ (ns.drop 3)=bs) (hp:Pu bs) (ho:TO o) (hw:Tg w) (hr:N8 G (.lst (O9 bs)) t1 t2 (.ref a)) (hh:t2<=G.length) :
  V2 (Ac P 101) Bi1 [some (.Bv ns),some (.ref a),some (.int x),some (.int y),x4,some (.str o),some (.str w),none,none,none,none,none] (λvs Hv=>vs.length=U0.params/\Au6 (Ac P 100) (cE P "BadText" 100) U0.body An6 Bd0 Bc9 (frame U0 vs) (λHy=>L0 (Ac P 101) Cj3 [some (.Bv ns),some (.ref a),some (.int x),some (.int y),x4,some (.str o),some (.str w),none,none,none,none,none] (λv Z=>v=.bool true) Hy) Hv) G :=
 K5 (v:=.ref a) (by exact iq) (K5 (v:=.str o) (by exact iq) (K5 (v:=.str w) (by exact iq) (K5 (v:=.int (x / 6+y)) (K0 (K0 (by exact iq) G9 (R4 (by decide))) (by exact iq) U3) (K8 ⟨rfl,Co7 (n:=37) hp.ne hp.bo hp.fit hr hh ho hw λG g=>Be3 i7 e hp (by exact λZ Z h=>h) (by exact iq) (hr.grow g hh) (D2 hh g.len) _ λZ Z=>rfl⟩))))
theorem Cp2 {r:Int}{b:Bool}(h1:0<=r) (h2:r<9):0<=r+40 * (if b=true then 1 else 0)/\r+40 * (if b=true then 1 else 0)<49:=by
 cases b with
 | false=>exact ⟨Int.add_nonneg h1 (by decide),Int.lt_trans (Int.add_lt_add_right h2 _) (by decide)⟩
 | true=>exact ⟨Int.add_nonneg h1 (by decide),Int.add_lt_add_right h2 _⟩
theorem Az3 {x:Nat}:(Ai k m x).length=m.toNat:=by unfold Ai Y5;exact qz (E3 _) (qz (E3 _) (qz List.length_range rfl))
theorem Cq1 (ns:List Int) (i7:ns.length<=63):Ck9 P "BadText" 100 Be2.body Ch8 U0 An6 Bd0 Bc9 Bi1 Cj3 Bd7 (frame Be2 [.Bv ns]) (λv Z=>v=.bool true) []:=by
 refine P1 (An4 (n:=85) (H:=[]) i7 (by exact λZ Z h=>h) λa G1 hp g1 r1=>?_)
 refine aB (vs:=[.Bv ns,.int 0]) (by exact iq) (vB (k:=0) _ (aB (vs:=[.Bv ns,.int 2]) (by exact iq) (vB (k:=2) _ ?_)))
 generalize he:iQ (ns.drop 3)=bs at hp r1
 generalize Ei ns 0=x
 generalize Ei ns 2=y
 have hx4:0<=x % 4/\x % 4<49:=⟨Int.emod_nonneg _ (by decide),Int.lt_trans (Int.emod_lt_of_pos _ (by decide)) (by decide)⟩
 have w0:=aX (k:=x) (m:=x % 4) (x:=41) (by decide) hx4
 refine P1 (cQ (P7 (K5 (v:=.ref a) (by exact iq) (K8 (Cw6 9 67 bs 0 [] a _ _ G1 _ rfl hp.bo (D2 hp.sz (by decide)) r1 (D3 _) λb G2 g2 h2=>?_)))))
 apply Ah;intro g9 k9
 obtain ⟨l,hl1,hl2,hl3⟩:=h2
 apply k9
 refine aJ (R0 (vs:=[.int x,.int (x % 4),.str [41]]) (I8 (by exact iq) (I8 (K0 (by exact iq) G9 (Q8 (by decide))) (I8 S7 Q7))) (cX (n:=99) (by decide) hx4 _ (K8 (hO (P9 hl1) K6 (D2 (E0 (D2 hl2 hp.sz)) (by decide)) ?_))))
 have j4:∀ v∈l++[V.str (Ai x (x % 4) 41)],∃ s,v=.str s/\TO s:=λv hv=>by
  rcases C0 hv with q|q
  ·exact hl3 v q
  ·exact ⟨_,B1 q,w0.1,w0.2.1⟩
 have g3:K3 G1 (G2++[[V.str (Ai x (x % 4) 41)]]++[l++[V.str (Ai x (x % 4) 41)]]):=g2.trans (K3.one.trans .one)
 have hd:(G2++[[V.str (Ai x (x % 4) 41)]]++[l++[V.str (Ai x (x % 4) 41)]])[(G2++[[V.str (Ai x (x % 4) 41)]]).length]? = some (l++[V.str (Ai x (x % 4) 41)]):=K6
 have j5:0<(l++[V.str (Ai x (x % 4) 41)]).length:=qz D4 (Nat.succ_pos _)
 generalize (G2++[[V.str (Ai x (x % 4) 41)]]++[l++[V.str (Ai x (x % 4) 41)]]:Heap)=G3 at g3 hd
 generalize (G2++[[V.str (Ai x (x % 4) 41)]]:Heap).length=c at hd
 generalize l++[V.str (Ai x (x % 4) 41)]=m at hd j4 j5
 apply Ah;intro g9 k9
 obtain ⟨j,hj1,hj2⟩:=Bv1 (Ei ns 1) j5
 have hmj:m[j]? = some m[j]:=A8 hj2
 obtain ⟨o,ho1,ho⟩:=j4 _ (E5 hmj)
 apply k9
 rw [ho1] at hmj
 refine F9 (v:=.str o) (L6 (by exact iq) (jX (K0 (K4 (vs:=[.Bv ns,.int 1]) (by exact iq) (vB (n:=100) (k:=1))) (Q1 (by exact iq) (P6 hd)) (Q8 (Int.ofNat_lt.mpr j5))) (D0 V.int hj1)) (X3 hd hmj)) ?_
 have hy:0<=y / 5 % 9+40 * (if (y % 5==2)=true then 1 else 0)/\y / 5 % 9+40 * (if (y % 5==2)=true then 1 else 0)<49:=Cp2 (Int.emod_nonneg (y / 5) (by decide:(9:Int)≠0)) (Int.emod_lt_of_pos (y / 5) (by decide:(0:Int)<9))
 refine aB (vs:=[.int y,.int (y / 5 % 9+40 * (if (y % 5==2)=true then 1 else 0)),.str [41]]) (I8 (by exact iq) (I8 (K0 (K0 (K0 (by exact iq) G9 (R4 (by decide))) G9 (Q8 (by decide))) (K0 G9 (fT (H9 (K0 (by exact iq) G9 (Q8 (by decide))) G9 Y2)) (hU (Or.inl (by decide)))) U3) (I8 S7 Q7))) (cX (n:=99) (by decide) hy _ ?_)
 have w1:=aX (k:=y) (m:=y / 5 % 9+40 * (if (y % 5==2)=true then 1 else 0)) (x:=41) (by decide) hy
 have w2:=Az3 (k:=y) (m:=y / 5 % 9+40 * (if (y % 5==2)=true then 1 else 0)) (x:=41)
 generalize y / 5 % 9+40 * (if (y % 5==2)=true then 1 else 0)=z at hy w1 w2
 have hw:Tg (Ai y z 41):=⟨w1.1,w1.2.1,qz w2 (Int.toNat_le.mpr (Int.le_of_lt_add_one hy.2))⟩
 clear w1 w2
 generalize Ai y z 41=w at hw
 have r3:=r1.grow g3 (D3 _)
 have hh:=g3.len
 have et:∀ {C:Calls}{y1 y3 y4 y5 y6 y7 y8 y9 y10 y11 y12:Option V}{G:Heap},Ev C [y1,y3,some (.int x),y4,y5,y6,y7,y8,y9,y10,y11,y12] G Ch8 (.bool (x % 6==1)):=H9 (K0 (by exact iq) G9 (Q8 (by decide))) G9 Y2
 exact ⟨rfl,Bq9 et (λZ=>Ce1 i7 he hp ho hw r3 hh) λZ=>Bq7 i7 he hp ho hw r3 hh λZ Z=>⟨_,rfl,rfl⟩⟩
end L11
open PySem PySem.W PyProof.Rows
namespace L11
end L11
set_option maxHeartbeats 8000000 in
theorem PySem.Challenge.cw_uf010012_11_holds : PySem.Challenge.rw_uf010012_11.Holds := by
 refine holds_law L11.said λsaid=>?_
 refine holds_open (q:=L11.vw) (loose:=[]) (Xt:=λs=>xlAt L11.vw [] s&&recOk [] s) (XP:=XL L11.vw []) (Yf:=Hook.obs Hook.none) (Ya:=Hook.val Hook.none) (YP:=Hook.says Hook.none) (N:=3000) L11.left (Hook.of Hook.none) (Hook.keeps Hook.none) (λs e=>xl_of s (B6 e).1) XL.keeps (by rfl) (by rfl) (by rfl) (λs e=>recFacts_of (B6 e).2) (by rfl) said (by decide +kernel) ⟨rfl,rfl,rfl,rfl,rfl,by decide +kernel⟩ ?hw ?hc
 case hw=>w_witness2
 intro w s₀ s9 mg mb G Y fa o pm cd doc dV kV ho hd o9 hD hmg hg args vals as p8 hlay hrd hwl q7
 exact Bq.Aw3 (l:=PySem.Challenge.rw_uf010012_11) rfl G.T hg hmg p8 hrd L11.gl L11.prg 100 (by decide) (by decide +kernel) (fn:=L11.Be2) (gn:=L11.U0) (c := "BadText") (g := "_law_refused") (newId := "ValueError.__new__") (bm:=[.type "ValueError",.type "Exception",.type "BaseException",.type "object"]) (post:=L11.Cx1) (by decide +kernel) (by decide +kernel) (by decide +kernel) F.excBase_ValueError (by decide +kernel) F.excBase_ValueError (by decide +kernel) rfl rfl rfl rfl L11.Cq1
